-- Made by pp.py of this session out of the kit's print and of contracts proved by hand; Lean checks it.
import Derived.Test.YtdmkbfjipgaloaaMc
import Derived.Test.YtdmkbfjipgaloaaPx0
import Derived.Test.YtdmkbfjipgaloaaPx6
namespace Go.Proofs.Ytdmkbfjipgaloaa.P
open Go.RowKit Go.Proofs.YtdmkbfjipgaloaaW.PrintWords Go.Proofs.YtdmkbfjipgaloaaW.PrintLast Go.Proofs.YtdmkbfjipgaloaaW.PrintMore
attribute [local go_sem] max2_int min2_int max_two min_two max_three min_three max_four min_four   -- for this text's walks alone
set_option linter.unusedVariables false
set_option linter.unusedSimpArgs false

def fnval2.f (F : Int → Int → Option Int) (c0_ : Int) (c1_ : Int) : Option Int := F c0_ c1_
theorem goesF2_ {ops : Array Oper} {Q : Exit → Act → World → Prop} {oi : Oper} {N : Option Tmp} {a : Act} {w : World} {K : Act → World → Prop} {t : Tmp} {g : Nat} {lb : Array Value} {as_ : Array Operand} {ts : Array TypeId} (eg : ∀ args w, (callFunc g args).run Try.prog w = .ok (.enter g args) w) (args : Array Value)
  (hw : Region.wanted oi (yielded ops a.tmps) = true) (hN : oi.dst = N) (hop : oi.op = .call { callee := .value (.tmp t), args := as_, argTypes := ts }) (hfv : a.eval (.tmp t) = .func (.func g) #[] lb) (hargs : as_.map a.eval = args)
  (h : Calls Try.prog g (args ++ lb) w fun e w' => ∃ v, e = .returned v ∧ K (a.put N v) w') : if Region.wanted oi (yielded ops a.tmps) = true then Oper.wp Try.prog oi a w K Q else K (a.put N undef) w := by
 refine call_ g (args ++ lb) hw hN ?_ h
 have hfv' : a.tmps.getD t undef = .func (.func g) #[] lb := hfv
 unfold execOp
 simp [hop, resolve, Deferred.ofValue, invoke, Act.eval, hargs, hfv', eg]
/-! ### impl_editedField: function 60 -/
def impl_editedField.l0 : Nat → (Int → Int → Option Int) → List Int → Int → Int → Int → Int → List Int → Int → Int → List Int → Option (Int × Int × List Int × Bool)
 | 0, _, _, _, _, _, _, _, _, _, _ => none
 | k + 1, x2, x13, x14, x15, x176000, x176001, x176002, x183000, x183001, x183002 => if x15 < x14 then (if 0 ≤ x15 then (if x15 < (x13.length : Int) then (if 0 ≤ (rd x13 x15) then (if (rd x13 x15) < (x176002.length : Int) then ((fnval2.f x2 (rd x13 x15) (rd x176002 (rd x13 x15))).bind fun t185 => (if (rd x13 x15) < (x183002.length : Int) then (impl_editedField.l0 k x2 x13 x14 (wrap64 (x15 + 1)) x176000 x176001 x176002 x183000 x183001 (x183002.set ((rd x13 x15) : Int).toNat t185)) else (none))) else (none)) else (none)) else (none)) else (none)) else ((impl_checkedField.f x183000 x183001 x183002).bind fun bt187 => (some (bt187.1, bt187.2.1, bt187.2.2.1, bt187.2.2.2)))
def impl_editedField.f (k : Nat) (a0_0 : Int) (a0_1 : Int) (l0_2 : List Int) (l1 : List Int) (a2 : Int → Int → Option Int) : Option (Int × Int × List Int × Bool) := (impl_cloneField.f a0_0 a0_1 l0_2).bind fun bt177 => (impl_editedField.l0 k a2 l1 (l1.length : Int) 0 a0_0 a0_1 l0_2 bt177.1 bt177.2.1 bt177.2.2)
def impl_editedField.T5 : Bool × List (List Nat × List Nat) := (true, [([], []), ([0], [0]), ([], []), ([], []), ([], []), ([], []), ([5], [5]), ([], []), ([6, 7], [6, 7]), ([8], [8]), ([3, 4, 9], [3, 4, 9]), ([1, 2, 0, 1, 2, 3, 4, 5, 6, 7, 8, 9, 10], [1, 2]), ([11, 10, 10, 0, 1, 2, 3, 4, 5, 6, 7, 8, 9, 10], [10, 11])])
def impl_editedField.B5 : List Nat := [0, 1, 0, 0, 0, 0, 32, 0, 224, 480, 1016, 2047, 4095]
theorem impl_editedField.tab5 : rtab .any (opsOf Try.f60 5) = impl_editedField.T5 := by kernel_rfl
theorem impl_editedField.bits5 : waitsOk impl_editedField.T5.2 impl_editedField.B5 = true := by kernel_rfl
set_option maxHeartbeats 8000000 in
set_option maxRecDepth 100000 in
theorem impl_editedField.calls (k : Nat) (a0_0 : Int) (a0_1 : Int) (A0_2 : Option Addr) (c0_2 : Nat) (l0_2 : List Int) (A1 : Option Addr) (c1 : Nat) (l1 : List Int) (a2 : Int → Int → Option Int) (G_ : Nat) (LB_ : Array Value) (r1 : Int) (r2 : Int) (r3 : List Int) (r4 : Bool) (w : World) (hr0_2 : Kd.C (Kd.int .i64) w A0_2 l0_2.length l0_2) (hc0_2 : l0_2.length ≤ c0_2) (hr1 : Kd.C (Kd.int .i64) w A1 l1.length l1) (hc1 : l1.length ≤ c1) (eg_ : ∀ args w, (callFunc G_ args).run Try.prog w = .ok (.enter G_ args) w) (hF_ : ∀ W_ : World, Below w.heap.size w W_ → ∀ c0_ c1_ r_, a2 c0_ c1_ = some r_ → Calls Try.prog G_ (#[.int .i64 c0_, .int .i64 c1_] ++ LB_) W_ fun e w' => e = .returned (.int .i64 r_) ∧ Drawn0 W_ w') (h : impl_editedField.f k a0_0 a0_1 l0_2 l1 a2 = some (r1, r2, r3, r4)) :
  Calls Try.prog 60 #[.agg #[.int .i64 a0_0, .int .i64 a0_1, .slice A0_2 l0_2.length c0_2], .slice A1 l1.length c1, .func (.func G_) #[] LB_] w fun e w' => ∃ v2_ : Value, e = .returned (.tuple #[.agg #[.int .i64 r1, .int .i64 r2, v2_], .bool r4]) ∧ Kd.R (Kd.int .i64) 3 w' w.heap.size (fun _ => True) v2_ r3 ∧ Below w.heap.size w w' := by
 have EG_ := A_ eg_
 have HF_ := A_ hF_
 clear eg_ hF_
 have hu26 := Try.underlying26
 have HR0_2 := A_ hr0_2
 have HC0_2 := A_ hc0_2
 clear hr0_2 hc0_2
 have HR1 := A_ hr1
 have HC1 := A_ hc1
 clear hr1 hc1
 have HB := A_ (Below.refl w.heap.size w)
 have H : ((impl_cloneField.f a0_0 a0_1 l0_2).bind fun bt177 => (impl_editedField.l0 k a2 l1 (l1.length : Int) 0 a0_0 a0_1 l0_2 bt177.1 bt177.2.1 bt177.2.2)) = some (r1, r2, r3, r4) := h
 clear h
 obtain ⟨⟨t177, t178, t179⟩, A40, H⟩ := oB_ H
 have A4 := A_ A40
 clear A40
 have H' := A_ H
 clear H
 go_enter Try.func60, Try.ntmps60
 go_wp2_with (first | ((with_reducible refine gd_ 3 rfl ?_); refine box_event rfl (N := 3) rfl (cs := #[.int .i64 a0_0, .int .i64 a0_1, .slice A0_2 l0_2.length c0_2]) (t := 26) mc353 ?_; intro gb175 hg w5 hbox hb; have BK175 := A_ (hbox); have GW175 := A_ ((mc213 : w.heap.size ≤ gb175)); have GE175 := A_ ((mc213 : w.heap.size ≤ gb175)); replace HB := A_ (below_step mc249 hb); clear hb hbox hg) | ((with_reducible refine gd_ 6 rfl ?_); refine box_event rfl (N := 6) rfl (cs := #[.int .i64 0, .int .i64 0, .slice none 0 0]) (t := 26) mc353 ?_; intro gb176 hg w6 hbox hb; have BK176 := A_ (hbox); have GW176 := A_ ((mc169 : w.heap.size ≤ gb176)); have GE176 := A_ ((mc169 : w.heap.size ≤ gb176)); replace HB := A_ (below_step mc221 hb); have NB175_176 := A_ ((by rw [hg]; exact Nat.ne_of_lt (blk_lt mc274) : gb175 ≠ gb176)); have NB176_175 := A_ ((by rw [hg]; exact Nat.ne_of_gt (blk_lt mc274) : gb176 ≠ gb175)); replace BK175 := A_ (blk_below mc274 hb); clear hb hbox hg; have hnb7 := NB175_176.out; have hnc7 := NB176_175.out; have hcz8_0 : w6.cell? ⟨gb175, 0, none⟩ = some (.int .i64 a0_0) := bc_ BK175 0 rfl; have hcz8_1 : w6.cell? ⟨gb175, 1, none⟩ = some (.int .i64 a0_1) := bc_ BK175 1 rfl; have hcz8_2 : w6.cell? ⟨gb175, 2, none⟩ = some (.slice A0_2 l0_2.length c0_2) := bc_ BK175 2 rfl; have hfz8_0 := blk_frozen BK175.out 0; have hfz8_1 := blk_frozen BK175.out 1; have hfz8_2 := blk_frozen BK175.out 2) | ((with_reducible refine gc_ 82 rfl ?_); refine goesL_ (some 12) rfl rfl Try.func82 kr_ rfl #[.agg #[.int .i64 a0_0, .int .i64 a0_1, .slice A0_2 l0_2.length c0_2]] rfl mc247 ?_; (with_reducible refine (impl_cloneField.calls a0_0 a0_1 _ _ l0_2 t177 t178 t179 _ ?side1 ?side2 A4.out).mono ?_); (case side1 => exact mc200); (case side2 => exact HC0_2.out); rintro e w9 ⟨v180, rfl, ho0, hb⟩; refine ⟨_, rfl, ?_⟩; have HO181 := A_ (Kd.R_lower ho0 (below_size mc183)); replace BK175 := A_ (blk_below mc274 hb); replace BK176 := A_ (blk_below mc275 hb); replace HB := A_ (below_step mc183 hb); (try clear hb); (try clear ho0)) | ((with_reducible refine gd_ 8 rfl ?_); refine box_event rfl (N := 8) rfl (cs := #[.int .i64 0, .int .i64 0, .slice none 0 0]) (t := 26) mc353 ?_; intro gb182 hg w10 hbox hb; replace HO181 := A_ (Kd.R_below (by (with_reducible repeat (first | apply Kd.R_alloc | apply Kd.R_drewN | apply Kd.R_drew)); exact HO181.out) hb); have BK182 := A_ (hbox); have GW182 := A_ ((mc123 : w.heap.size ≤ gb182)); have GE182 := A_ ((mc123 : w.heap.size ≤ gb182)); replace HB := A_ (below_step mc183 hb); have NB175_182 := A_ ((by rw [hg]; exact Nat.ne_of_lt (blk_lt mc274) : gb175 ≠ gb182)); have NB182_175 := A_ ((by rw [hg]; exact Nat.ne_of_gt (blk_lt mc274) : gb182 ≠ gb175)); replace BK175 := A_ (blk_below mc274 hb); have NB176_182 := A_ ((by rw [hg]; exact Nat.ne_of_lt (blk_lt mc275) : gb176 ≠ gb182)); have NB182_176 := A_ ((by rw [hg]; exact Nat.ne_of_gt (blk_lt mc275) : gb182 ≠ gb176)); replace BK176 := A_ (blk_below mc275 hb); clear hb hbox hg; have hnb11 := NB182_175.out; have hnc11 := NB175_182.out; have hnb12 := NB182_176.out; have hnc12 := NB176_182.out; have hcz13_0 : w10.cell? ⟨gb182, 0, none⟩ = some (.int .i64 0) := bc_ BK182 0 rfl; have hcz13_1 : w10.cell? ⟨gb182, 1, none⟩ = some (.int .i64 0) := bc_ BK182 1 rfl; have hcz13_2 : w10.cell? ⟨gb182, 2, none⟩ = some (.slice none 0 0) := bc_ BK182 2 rfl; have hfz13_0 := blk_frozen BK182.out 0; have hfz13_1 := blk_frozen BK182.out 1; have hfz13_2 := blk_frozen BK182.out 2; obtain ⟨Ao14, co14, eo14⟩ := Kd.R_slice HO181.out; subst eo14))
 go_loopg [15] k (fun kq v15 w' => ∃ (x15_1 : Int) (x183002_1 : List Int) (u183002 : Value), v15 = .int .i64 x15_1 ∧ Aside0 (impl_editedField.l0 kq a2 l1 (l1.length : Int) x15_1 a0_0 a0_1 l0_2 t177 t178 x183002_1 = some (r1, r2, r3, r4)) ∧ Aside0 (kq ≤ k) ∧ Aside0 (Kd.R (Kd.int .i64) 3 w' w.heap.size (fun _ => True) u183002 x183002_1) ∧ Aside0 (w'.heap[gb175]? = some (.cells #[.int .i64 a0_0, .int .i64 a0_1, (.slice A0_2 l0_2.length c0_2)] 26 (0, 0))) ∧ Aside0 (w'.heap[gb176]? = some (.cells #[.int .i64 0, .int .i64 0, (.slice none 0 0)] 26 (0, 0))) ∧ Aside0 (w'.heap[gb182]? = some (.cells #[.int .i64 t177, .int .i64 t178, u183002] 26 (0, 0))) ∧ Aside0 (Below w.heap.size w w'))
 case atStart => exact ⟨(0), (t179), (.slice Ao14 t179.length co14), mc352, H', ⟨Nat.le_refl _⟩, ⟨by (with_reducible repeat (first | apply Kd.R_alloc | apply Kd.R_drewN | apply Kd.R_drew)); exact Kd.R_mono (Kd.R_far (p := ⟨gb182, 2, none⟩) (Kd.R_far (p := ⟨gb182, 1, none⟩) (Kd.R_far (p := ⟨gb182, 0, none⟩) (Kd.R_types HO181.out BK182.out (by decide)) (fun _ hk => hk.2) (.int .i64 t177)) (fun _ hk => hk.2) (.int .i64 t178)) (fun _ hk => hk.2) (.slice Ao14 t179.length co14)) (fun _ hk => trivial)⟩, ⟨by (with_reducible repeat (first | refine blk_drewN ?_ _ | refine blk_drew ?_ | refine blk_alloc ?_ _)); refine blk_far ?_ NB175_182.out _; (with_reducible repeat (first | refine blk_drewN ?_ _ | refine blk_drew ?_ | refine blk_alloc ?_ _)); refine blk_far ?_ NB175_182.out _; (with_reducible repeat (first | refine blk_drewN ?_ _ | refine blk_drew ?_ | refine blk_alloc ?_ _)); refine blk_far ?_ NB175_182.out _; (with_reducible repeat (first | refine blk_drewN ?_ _ | refine blk_drew ?_ | refine blk_alloc ?_ _)); exact BK175.out⟩, ⟨by (with_reducible repeat (first | refine blk_drewN ?_ _ | refine blk_drew ?_ | refine blk_alloc ?_ _)); refine blk_far ?_ NB176_182.out _; (with_reducible repeat (first | refine blk_drewN ?_ _ | refine blk_drew ?_ | refine blk_alloc ?_ _)); refine blk_far ?_ NB176_182.out _; (with_reducible repeat (first | refine blk_drewN ?_ _ | refine blk_drew ?_ | refine blk_alloc ?_ _)); refine blk_far ?_ NB176_182.out _; (with_reducible repeat (first | refine blk_drewN ?_ _ | refine blk_drew ?_ | refine blk_alloc ?_ _)); exact BK176.out⟩, ⟨by (with_reducible repeat (first | refine blk_drewN ?_ _ | refine blk_drew ?_ | refine blk_alloc ?_ _)); refine blk_put (cs := #[.int .i64 t177, .int .i64 t178, .slice none 0 0]) ?_ 2 _ rfl; (with_reducible repeat (first | refine blk_drewN ?_ _ | refine blk_drew ?_ | refine blk_alloc ?_ _)); refine blk_put (cs := #[.int .i64 t177, .int .i64 0, .slice none 0 0]) ?_ 1 _ rfl; (with_reducible repeat (first | refine blk_drewN ?_ _ | refine blk_drew ?_ | refine blk_alloc ?_ _)); refine blk_put (cs := #[.int .i64 0, .int .i64 0, .slice none 0 0]) ?_ 0 _ rfl; (with_reducible repeat (first | refine blk_drewN ?_ _ | refine blk_drew ?_ | refine blk_alloc ?_ _)); exact BK182.out⟩, ⟨mc135⟩⟩
 case round =>
  clear H'
  try clear p2
  obtain ⟨x15_1, x183002_1, u183002, rfl, HA, HK1, HO_183002, BK175, BK176, BK182, HB⟩ := hrel
  cases gk with
  | zero => exact absurd HA.out (by simp [impl_editedField.l0])
  | succ k1 =>
   have H := HA.out
   clear HA
   simp only [impl_editedField.l0] at H
   by_cases c15 : x15_1 < (l1.length : Int)
   rotate_left
   ·
    rw [if_neg c15] at H
    have c15b0 : decide (x15_1 < (l1.length : Int)) = false := decide_eq_false c15
    clear c15
    obtain ⟨⟨t187, t188, t189, t192⟩, A250, H⟩ := oB_ H
    have A25 := A_ A250
    clear A250
    simp only [Option.some.injEq, Prod.mk.injEq] at H
    obtain ⟨rfl, rfl, rfl, rfl⟩ := H
    have hnb26 := NB182_175.out
    have hnc26 := NB175_182.out
    have hnb27 := NB182_176.out
    have hnc27 := NB176_182.out
    have hcz28_0 : wr.cell? ⟨gb182, 0, none⟩ = some (.int .i64 t177) := bc_ BK182 0 rfl
    have hcz28_1 : wr.cell? ⟨gb182, 1, none⟩ = some (.int .i64 t178) := bc_ BK182 1 rfl
    have hcz28_2 : wr.cell? ⟨gb182, 2, none⟩ = some (u183002) := bc_ BK182 2 rfl
    have hfz28_0 := blk_frozen BK182.out 0
    have hfz28_1 := blk_frozen BK182.out 1
    have hfz28_2 := blk_frozen BK182.out 2
    obtain ⟨Ao29, co29, eo29⟩ := Kd.R_slice HO_183002.out
    subst eo29
    go_wp2_with (first | ((with_reducible refine gc_ 84 rfl ?_); refine goesL_ (some 33) rfl rfl Try.func84 kr_ rfl #[.agg #[.int .i64 t177, .int .i64 t178, .slice Ao29 x183002_1.length co29]] rfl mc247 ?_; (with_reducible refine (impl_checkedField.calls t177 t178 (fun k_ => some k_ = (.slice Ao29 x183002_1.length co29 : Value).ownBlock) (.slice Ao29 x183002_1.length co29) x183002_1 t187 t188 t189 t192 w _ ?side1 ?side2 A25.out).mono ?_); (case side1 => repeat (first | (with_reducible first | exact HB.out | apply below_alloc | apply pw_below_drewN | apply below_drew1 | refine below_set ?_ GE175.out | refine below_set ?_ GE176.out | refine below_set ?_ GE182.out) | exact HB.out)); (case side2 => exact Kd.R_tight rfl HO_183002.out); rintro e w30 ⟨v190, rfl, ho0, hb, hkp⟩; refine ⟨_, rfl, ?_⟩; replace BK175 := A_ (blk_kept mc274 hkp (fun hs_ => (fun e_ => (Kd.R_ne HO_183002.out BK175.out (by decide)) e_) hs_)); replace BK176 := A_ (blk_kept mc275 hkp (fun hs_ => (fun e_ => (Kd.R_ne HO_183002.out BK176.out (by decide)) e_) hs_)); replace BK182 := A_ (blk_kept (by (with_reducible repeat (first | refine blk_drewN ?_ _ | refine blk_drew ?_ | refine blk_alloc ?_ _)); exact BK182.out) hkp (fun hs_ => (fun e_ => (Kd.R_ne HO_183002.out BK182.out (by decide)) e_) hs_)); have HO191 := A_ (Kd.R_mono (ok' := fun k_ => True) ho0 (fun k_ hk_ => trivial)); replace HB := A_ (hb); clear HO_183002; (try clear hb); (try clear hkp); (try clear ho0); have hnb31 := NB176_175.out; have hnc31 := NB175_176.out; have hcz32_0 : w30.cell? ⟨gb176, 0, none⟩ = some (.int .i64 0) := bc_ BK176 0 rfl; have hcz32_1 : w30.cell? ⟨gb176, 1, none⟩ = some (.int .i64 0) := bc_ BK176 1 rfl; have hcz32_2 : w30.cell? ⟨gb176, 2, none⟩ = some (.slice none 0 0) := bc_ BK176 2 rfl; have hfz32_0 := blk_frozen BK176.out 0; have hfz32_1 := blk_frozen BK176.out 1; have hfz32_2 := blk_frozen BK176.out 2; obtain ⟨Ao33, co33, eo33⟩ := Kd.R_slice HO191.out; subst eo33))
    refine bodyPost_ret (results_ct rfl _ _ gb176 26 #[.int .i64 t187, .int .i64 t188, .slice Ao33 t189.length co33] (0, 0) _ rfl (by (with_reducible repeat (first | refine blk_drewN ?_ _ | refine blk_drew ?_ | refine blk_alloc ?_ _)); refine blk_put (cs := #[.int .i64 t187, .int .i64 t188, .slice none 0 0]) ?_ 2 _ rfl; (with_reducible repeat (first | refine blk_drewN ?_ _ | refine blk_drew ?_ | refine blk_alloc ?_ _)); refine blk_put (cs := #[.int .i64 t187, .int .i64 0, .slice none 0 0]) ?_ 1 _ rfl; (with_reducible repeat (first | refine blk_drewN ?_ _ | refine blk_drew ?_ | refine blk_alloc ?_ _)); refine blk_put (cs := #[.int .i64 0, .int .i64 0, .slice none 0 0]) ?_ 0 _ rfl; (with_reducible repeat (first | refine blk_drewN ?_ _ | refine blk_drew ?_ | refine blk_alloc ?_ _)); exact BK176.out) Try.underlying26 rfl kr_) rfl ?_
    exact ⟨_, mc332, by (with_reducible repeat (first | apply Kd.R_alloc | apply Kd.R_drewN | apply Kd.R_drew)); exact Kd.R_mono (Kd.R_far (p := ⟨gb176, 2, none⟩) (Kd.R_far (p := ⟨gb176, 1, none⟩) (Kd.R_far (p := ⟨gb176, 0, none⟩) (Kd.R_types HO191.out BK176.out (by decide)) (fun _ hk => hk.2) (.int .i64 t187)) (fun _ hk => hk.2) (.int .i64 t188)) (fun _ hk => hk.2) (.slice Ao33 t189.length co33)) (fun _ hk => trivial), mc135⟩
   rw [if_pos c15] at H
   have c15b0 : decide (x15_1 < (l1.length : Int)) = true := decide_eq_true c15
   clear c15
   by_cases c16 : 0 ≤ x15_1
   rotate_left
   ·
    rw [if_neg c16] at H
    exact absurd H (by simp)
   rw [if_pos c16] at H
   have c16b0 : decide (0 ≤ x15_1) = true := decide_eq_true c16
   clear c16
   by_cases c17 : x15_1 < (l1.length : Int)
   rotate_left
   ·
    rw [if_neg c17] at H
    exact absurd H (by simp)
   rw [if_pos c17] at H
   have c17b0 : decide (x15_1 < (l1.length : Int)) = true := decide_eq_true c17
   clear c17
   by_cases c18 : 0 ≤ (rd l1 x15_1)
   rotate_left
   ·
    rw [if_neg c18] at H
    exact absurd H (by simp)
   rw [if_pos c18] at H
   have c18b0 : decide (0 ≤ (rd l1 x15_1)) = true := decide_eq_true c18
   clear c18
   by_cases c19 : (rd l1 x15_1) < (l0_2.length : Int)
   rotate_left
   ·
    rw [if_neg c19] at H
    exact absurd H (by simp)
   rw [if_pos c19] at H
   have c19b0 : decide ((rd l1 x15_1) < (l0_2.length : Int)) = true := decide_eq_true c19
   clear c19
   obtain ⟨t185, A200, H⟩ := oB_ H
   have A20 := A_ A200
   clear A200
   by_cases c21 : (rd l1 x15_1) < (x183002_1.length : Int)
   rotate_left
   ·
    rw [if_neg c21] at H
    exact absurd H (by simp)
   rw [if_pos c21] at H
   have c21b0 : decide ((rd l1 x15_1) < (x183002_1.length : Int)) = true := decide_eq_true c21
   clear c21
   obtain ⟨y186, hy186⟩ : ∃ y_ : List Int, y_ = (x183002_1.set ((rd l1 x15_1) : Int).toNat t185) := ⟨_, rfl⟩
   replace H : (impl_editedField.l0 k1 a2 l1 (l1.length : Int) (wrap64 (x15_1 + 1)) a0_0 a0_1 l0_2 t177 t178 y186) = some (r1, r2, r3, r4) := by first | (rw [hy186]; with_reducible exact H) | (have H2_ := (Option.bind_some _ _).symm.trans H; rw [hy186]; with_reducible exact H2_) | (have H2_ := (Option.bind_some _ _).symm.trans H; with_reducible exact H2_) | with_reducible exact H | (rw [hy186]; exact H) | exact H
   have Ny186 := A_ hy186
   clear hy186
   have H' := A_ H
   clear H
   have p183 : 0 ≤ (x15_1 : Int) := of_decide_eq_true mc341
   have q183 : x15_1 < (l1.length : Int) := of_decide_eq_true mc341
   obtain ⟨ad183, e183, hx183_0⟩ := Kd.at_int HR1.out x15_1 p183 q183
   cases e183
   replace hx183_0 := (HB.out.cell (World.block_lt_of_cell? w _ hx183_0)).trans hx183_0
   replace p183 := eq_true p183
   replace q183 := eq_true q183
   try go_wp2
   replace HO_183002 := A_ (Kd.R_drew HO_183002.out)
   replace BK175 := A_ (blk_drew BK175.out)
   replace BK176 := A_ (blk_drew BK176.out)
   replace BK182 := A_ (blk_drew BK182.out)
   replace HB := A_ (below_drew1 HB.out)
   have p184 : 0 ≤ ((rd l1 x15_1) : Int) := of_decide_eq_true mc341
   have q184 : (rd l1 x15_1) < (l0_2.length : Int) := of_decide_eq_true mc341
   obtain ⟨ad184, e184, hx184_0⟩ := Kd.at_int HR0_2.out (rd l1 x15_1) p184 q184
   have hw184_0 := hx184_0
   cases e184
   replace hx184_0 := (HB.out.cell (World.block_lt_of_cell? w _ hx184_0)).trans hx184_0
   replace p184 := eq_true p184
   replace q184 := eq_true q184
   refine start_ (n := 13) (S := fun w' => w'.cell? ⟨gb182, 0, none⟩ = some (.int .i64 t177) ∧ w'.cell? ⟨gb182, 1, none⟩ = some (.int .i64 t178) ∧ w'.cell? ⟨gb182, 2, none⟩ = some (u183002) ∧ w'.cell? ⟨gb175, 0, none⟩ = some (.int .i64 a0_0) ∧ w'.cell? ⟨gb175, 1, none⟩ = some (.int .i64 a0_1) ∧ w'.cell? ⟨gb175, 2, none⟩ = some (.slice (some ad184) l0_2.length c0_2) ∧ w'.cell? (ad184.add ((rd l1 x15_1)).toNat) = some (.int .i64 (rd l0_2 (rd l1 x15_1)))) (ds := [12]) #[false, false, false, false, false, false, false, false, false, false, false, false, false] kr_ rfl rfl ⟨bc_ BK182 0 rfl, bc_ BK182 1 rfl, bc_ BK182 2 rfl, bc_ BK175 0 rfl, bc_ BK175 1 rfl, bc_ BK175 2 rfl, ((HB.out.cell (World.block_lt_of_cell? w _ hw184_0)).trans hw184_0)⟩ (fun hHeld => ?_); refine with_tabW impl_editedField.tab5 impl_editedField.bits5 (fun HT_ HW_ => ?_)
   generalize wr.drew = w23 at HO_183002 BK175 BK176 BK182 HB hx184_0 hHeld ⊢
   refine pure_ (i := 0) (N := some 19) #[true, false, false, false, false, false, false, false, false, false, false, false, false] rfl rfl (any_of HT_.out kr_) (fun _ _ _ h => h) (Or.inl ⟨by rfl, mc354⟩) mc312 ?_
   refine pure_ (i := 2) (N := some 21) #[true, false, true, false, false, false, false, false, false, false, false, false, false] rfl rfl (any_of HT_.out kr_) (fun _ _ _ h => h) (Or.inl ⟨by rfl, mc354⟩) mc312 ?_
   refine pure_ (i := 3) (N := some 22) #[true, false, true, true, false, false, false, false, false, false, false, false, false] rfl rfl (any_of HT_.out kr_) (fun _ _ _ h => h) (Or.inl ⟨by rfl, mc354⟩) mc312 ?_
   refine pure_ (i := 4) (N := some 23) #[true, false, true, true, true, false, false, false, false, false, false, false, false] rfl rfl (any_of HT_.out kr_) (fun _ _ _ h => h) (Or.inl ⟨by rfl, mc354⟩) mc312 ?_
   refine pure_ (i := 5) (N := some 24) #[true, false, true, true, true, true, false, false, false, false, false, false, false] rfl rfl (any_of HT_.out kr_) (fun _ _ _ h => h) (Or.inl ⟨by rfl, mc354⟩) mc312 ?_
   refine pure_ (i := 7) (N := some 26) #[true, false, true, true, true, true, false, true, false, false, false, false, false] rfl rfl (any_of HT_.out kr_) (fun _ _ _ h => h) (Or.inl ⟨by rfl, mc354⟩) mc312 ?_
   refine take_ (i := 1) (N := some 20) #[true, true, true, true, true, true, false, true, false, false, false, false, false] rfl rfl (take_ofW HT_.out HW_.out kr_) (fun _ _ _ h => h) (Or.inl ⟨by rfl, (by rintro w' ⟨s0, s1, s2, s3, s4, s5, s6⟩; go_simp; with_reducible rfl)⟩) hHeld mc312 ?_
   refine take_ (i := 6) (N := some 25) #[true, true, true, true, true, true, true, true, false, false, false, false, false] rfl rfl (take_ofW HT_.out HW_.out kr_) (fun _ _ _ h => h) (Or.inl ⟨by rfl, (by rintro w' ⟨s0, s1, s2, s3, s4, s5, s6⟩; go_simp; with_reducible rfl)⟩) hHeld mc312 ?_
   refine pure_ (i := 8) (N := some 27) #[true, true, true, true, true, true, true, true, true, false, false, false, false] rfl rfl (any_of HT_.out kr_) (fun _ _ _ h => h) (Or.inl ⟨by rfl, mc354⟩) mc312 ?_
   refine take_ (i := 9) (N := some 28) #[true, true, true, true, true, true, true, true, true, true, false, false, false] rfl rfl (take_ofW HT_.out HW_.out kr_) (fun _ _ _ h => h) (Or.inl ⟨by rfl, (by rintro w' ⟨s0, s1, s2, s3, s4, s5, s6⟩; go_simp; with_reducible rfl)⟩) hHeld mc312 ?_
   refine one_ (i := 10) (N := some 29) #[true, true, true, true, true, true, true, true, true, true, true, false, false] rfl rfl (one_of HT_.out kr_) (by decide) (fun K hK => ?_)
   refine goesF2_ EG_.out #[.int .i64 (rd l1 x15_1), .int .i64 (rd l0_2 (rd l1 x15_1))] (by rfl) rfl rfl (by rfl) mc247 ?_
   refine (HF_.out _ mc249 _ _ _ A20.out).mono ?_
   rintro e w' ⟨rfl, ⟨nd, rfl⟩⟩
   refine ⟨_, rfl, ?_⟩
   have p22 : 0 ≤ ((rd l1 x15_1) : Int) := of_decide_eq_true mc341
   have q22 : ((rd l1 x15_1) : Int) < ((x183002_1.length : Int) : Int) := of_decide_eq_true mc341
   obtain ⟨go22, co22, eo22, gb22, gl22, cl22, HG22⟩ := Kd.R_form HO_183002.out (by omega)
   (first | cases eo22 | (injection eo22 with ea_ en_ ec_; (first | subst ea_ | (injection ea_ with ea_; subst ea_)); subst ec_; clear en_))
   have GB22 := A_ gb22
   have GG22 := A_ HG22
   clear gb22 gl22 HG22
   obtain ⟨hx22_0, hf22_0⟩ := Kd.R_celln 0 HO_183002.out ((rd l1 x15_1) : Int) p22 q22
   replace p22 := eq_true p22
   replace q22 := eq_true q22
   have HP24 := Kd.R_putn HO_183002.out ((rd l1 x15_1) : Int) t185
   rw [← Ny186.out] at HP24
   have HQ24 := A_ HP24
   clear HP24
   refine hK.out _ _ ⟨bc_ BK182 0 rfl, bc_ BK182 1 rfl, bc_ BK182 2 rfl, bc_ BK175 0 rfl, bc_ BK175 1 rfl, bc_ BK175 2 rfl, ((HB.out.cell (World.block_lt_of_cell? w _ hw184_0)).trans hw184_0)⟩ (fun hHeld => ?_)
   clear hK K
   refine norm_ (by show Act.put _ (some 29) _ = _; simp only [Act.put, List.setIfInBounds_toArray, List.set_cons_zero, List.set_cons_succ, i64_w, i32_w]; rfl) ?_
   refine pure_ (i := 11) (N := some 30) #[true, true, true, true, true, true, true, true, true, true, true, true, false] rfl rfl (any_of HT_.out kr_) (fun _ _ _ h => h) (Or.inl ⟨by rfl, mc354⟩) mc312 ?_
   refine last_ (i := 12) (N := none) #[true, true, true, true, true, true, true, true, true, true, true, true, true] rfl rfl (one_of HT_.out kr_) (by decide) (fun K hK => ?_)
   refine skip_ (w1 := ?_) (by rfl) rfl ?_ ?_
   rotate_left
   ·
    go_simp
    rfl
   refine hK.out _ _ ?_
   clear hK K
   refine done_ (done_of HT_.out kr_) ?_
   try go_wp2
   go_roundg k1
   case measure => have := HK1.out; omega
   case rel => exact ⟨(wrap64 (x15_1 + 1)), (y186), (.slice (some ⟨go22, 0, none⟩) x183002_1.length co22), mc352, H', ⟨mc356⟩, ⟨by (with_reducible repeat (first | apply Kd.R_alloc | apply Kd.R_drewN | apply Kd.R_drew)); exact HQ24.out⟩, ⟨by (with_reducible repeat (first | refine blk_drewN ?_ _ | refine blk_drew ?_ | refine blk_alloc ?_ _)); refine blk_far ?_ (by have h_ := Kd.R_ne HO_183002.out BK175.out (by decide); intro e_; exact h_ mc357) _; (with_reducible repeat (first | refine blk_drewN ?_ _ | refine blk_drew ?_ | refine blk_alloc ?_ _)); exact BK175.out⟩, ⟨by (with_reducible repeat (first | refine blk_drewN ?_ _ | refine blk_drew ?_ | refine blk_alloc ?_ _)); refine blk_far ?_ (by have h_ := Kd.R_ne HO_183002.out BK176.out (by decide); intro e_; exact h_ mc357) _; (with_reducible repeat (first | refine blk_drewN ?_ _ | refine blk_drew ?_ | refine blk_alloc ?_ _)); exact BK176.out⟩, ⟨by (with_reducible repeat (first | refine blk_drewN ?_ _ | refine blk_drew ?_ | refine blk_alloc ?_ _)); refine blk_far ?_ (by have h_ := Kd.R_ne HO_183002.out BK182.out (by decide); intro e_; exact h_ mc357) _; (with_reducible repeat (first | refine blk_drewN ?_ _ | refine blk_drew ?_ | refine blk_alloc ?_ _)); exact BK182.out⟩, ⟨by repeat (first | (with_reducible first | exact HB.out | apply below_alloc | apply pw_below_drewN | apply below_drew1 | refine below_set ?_ GB22.out | refine below_set ?_ GE175.out | refine below_set ?_ GE176.out | refine below_set ?_ GE182.out) | exact HB.out)⟩⟩

end Go.Proofs.Ytdmkbfjipgaloaa.P
