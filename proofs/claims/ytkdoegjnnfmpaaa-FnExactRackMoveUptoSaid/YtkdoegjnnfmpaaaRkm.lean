/- The program's RackMove returns what the reference's returns, for all arguments that hold together at most 1048576 values. -/
import Derived.Test.YtkdoegjnnfmpaaaTie
import Derived.Test.YtkdoegjnnfmpaaaYgA
import Derived.Test.YtkdoegjnnfmpaaaYfN
namespace Go.Proofs.Ytkdoegjnnfmpaaa.fnExactRackMove
open Go.Mch Tie
theorem s_szI : S_szI pg := t_szI (show pg.fn 45 = some _ from rfl)
theorem s_szT : S_szT pg := t_szT (show pg.fn 27 = some _ from rfl) s_szI
theorem s_szRack : S_szRack pg := t_szRack (show pg.fn 4 = some _ from rfl) s_szT
theorem s_toI : S_toI pg := t_toI (show pg.fn 7 = some _ from rfl)
theorem s_toT : S_toT pg := t_toT (show pg.fn 32 = some _ from rfl) s_toI
theorem s_toRack : S_toRack pg := t_toRack (show pg.fn 6 = some _ from rfl) s_toT
theorem s_in_30 : S_in pg 30 := t_l01In (show pg.fn 30 = some _ from rfl)
theorem s_table_46 : S_table pg 46 := t_l01Table (show pg.fn 46 = some _ from rfl) s_in_30
theorem s_index : S_index pg := t_index (show pg.fn 69 = some _ from rfl)
theorem s_has : S_has pg := t_has (show pg.fn 62 = some _ from rfl) s_index
theorem s_perm_47 : S_perm pg 47 := t_l01Perm (show pg.fn 47 = some _ from rfl) s_in_30 s_has
theorem s_rackFault_48 : S_rackFault pg 48 := t_rf48 (show pg.fn 48 = some _ from rfl)
theorem s_isRk_28 : S_isRk pg 28 := t_l03Is (show pg.fn 28 = some _ from rfl) s_table_46 s_perm_47 s_rackFault_48
theorem s_elements : S_elements pg := t_elements (show pg.fn 49 = some _ from rfl) s_in_30
theorem s_tuple_29 : S_tuple pg 29 := t_l06Tuple (show pg.fn 29 = some _ from rfl) s_elements
theorem s_own : S_own pg := t_own (show pg.fn 31 = some _ from rfl)
theorem s_rm_5 : S_rm pg 5 := t_rm5 (show pg.fn 5 = some _ from rfl) s_isRk_28 s_tuple_29 s_in_30 s_own
theorem s_in_35 : S_in pg 35 := t_within (show pg.fn 35 = some _ from rfl)
theorem s_allWithin : S_allWithin pg := t_allWithin (show pg.fn 54 = some _ from rfl) s_in_35
theorem s_isTable1 : S_isTable1 pg := t_isTable1 (show pg.fn 64 = some _ from rfl) s_allWithin
theorem s_indexFunc : S_indexFunc pg := t_indexFunc (show pg.fn 70 = some _ from rfl)
theorem s_containsFunc : S_containsFunc pg := t_containsFunc (show pg.fn 63 = some _ from rfl) s_indexFunc
theorem s_table_50 : S_table pg 50 := t_isTable (show pg.fn 50 = some _ from rfl) s_in_35 s_isTable1 s_containsFunc
theorem s_isPermuted : S_isPermuted pg := t_isPermuted (show pg.fn 66 = some _ from rfl) s_in_35
theorem s_permRows1 : S_permRows1 pg := t_permRows1 (show pg.fn 65 = some _ from rfl) s_isPermuted
theorem s_permRows : S_permRows pg := t_permRows (show pg.fn 51 = some _ from rfl) s_permRows1 s_containsFunc
theorem s_rackFault_52 : S_rackFault pg 52 := t_rf52 (show pg.fn 52 = some _ from rfl)
theorem s_isRk_33 : S_isRk pg 33 := t_IsRack (show pg.fn 33 = some _ from rfl) s_table_50 s_permRows s_rackFault_52
theorem s_areElements : S_areElements pg := t_areElements (show pg.fn 39 = some _ from rfl) s_allWithin
theorem s_tuple_34 : S_tuple pg 34 := t_isTuple (show pg.fn 34 = some _ from rfl) s_areElements
theorem s_clone : S_clone pg := t_clone (show pg.fn 36 = some _ from rfl)
theorem s_rm_8 : S_rm pg 8 := t_rm8 (show pg.fn 8 = some _ from rfl) s_isRk_33 s_tuple_34 s_in_35 s_clone
theorem s_eqI : S_eqI pg := t_eqI (show pg.fn 9 = some _ from rfl)
theorem s_eqT : S_eqT pg := t_eqT (show pg.fn 21 = some _ from rfl) s_eqI
theorem s_eqRack : S_eqRack pg := t_eqRack (show pg.fn 10 = some _ from rfl) s_eqT
theorem s_markI : S_markI pg := t_markI (show pg.fn 12 = some _ from rfl)
theorem s_markT : S_markT pg := t_markT (show pg.fn 23 = some _ from rfl) s_markI
theorem s_markRack : S_markRack pg := t_markRack (show pg.fn 11 = some _ from rfl) s_markT
theorem s_heldI : S_heldI pg := t_heldI (show pg.fn 13 = some _ from rfl)
theorem s_law0 : S_law0 pg := t_law0 (show pg.fn 0 = some _ from rfl) s_szRack s_toRack s_toI s_rm_5 s_rm_8 s_eqI s_eqRack s_markRack s_markI s_heldI
theorem own : ownKnob Try.prog.godebug = none := by kernel_rfl
theorem part_le {H : Type} {d : DataW H} {l : List (DataW H)} (h : d ∈ l) : Rows.uptoBulk d ≤ Rows.uptoBulkAll l := by
  induction l with
  | nil => cases h
  | cons x r ih =>
    simp only [Rows.uptoBulkAll]
    cases List.mem_cons.1 h with
    | inl e => subst e; omega
    | inr e => have := ih e; omega
theorem one_le {H : Type} (d : DataW H) : 1 ≤ Rows.uptoBulk d := by
  cases d with
  | lit l => cases l <;> simp [Rows.uptoBulk]
  | _ => simp [Rows.uptoBulk]
theorem length_le {H : Type} (l : List (DataW H)) : l.length ≤ Rows.uptoBulkAll l := by
  induction l with
  | nil => simp [Rows.uptoBulkAll]
  | cons x r ih => have := one_le x; simp only [Rows.uptoBulkAll, List.length_cons]; omega
theorem bulk {H : Type} : Bulk (H := H) Rows.uptoBulk :=
  ⟨fun es rest => by have := length_le es; simp only [Rows.uptoBulk]; omega,
   fun es rest d h => by have := part_le h; simp only [Rows.uptoBulk]; omega,
   fun ps d h => by have := part_le h; simp only [Rows.uptoBulk]; omega⟩
theorem bound {H : Type} {l : List (DataW H)} (hk : Rows.uptoSmall H l = true) : Rows.uptoBulkAll l ≤ 1048576 := by
  simpa [Rows.uptoSmall] using hk
theorem laid : laidOutB Try.prog = true := by kernel_rfl
theorem read2 : Try.prog.readableRec 2 = true ∧ 2 < Try.prog.types.size := ⟨by kernel_rfl, of_decide_eq_true (by kernel_rfl)⟩
theorem read24 : Try.prog.readableRec 24 = true ∧ 24 < Try.prog.types.size := ⟨by kernel_rfl, of_decide_eq_true (by kernel_rfl)⟩
theorem read25 : Try.prog.readableRec 25 = true ∧ 25 < Try.prog.types.size := ⟨by kernel_rfl, of_decide_eq_true (by kernel_rfl)⟩
theorem contract (H : Type) (enc : TypeId × Value → H) (W : World) (base : Nat) (args : Array Value) (ds gs : List (DataW H)) (before : List MemPlace)
    (hval : ∀ (j : Nat) t v, Try.f3.params[j]? = some t → args[j]? = some v → Value.okWide Try.prog W .any base t v)
    (hW : DataW.Whole enc Try.prog Try.f3.params.toList Rows.fnExactRackMoveSpec.vars false W args.toList ds gs before) (hk : Rows.uptoSmall H (ds ++ gs) = true) :
    Calls Try.prog 3 args W fun e W' => ∃ v, e = .returned v ∧ Rows.fnExactRackMoveSpec.post enc Try.prog Try.f3 false true false false W args v W' := by
  have hW' := hW
  obtain ⟨p, q, hA, hV, rfl, hfz, hnd⟩ := hW
  rw [Try.params3] at hA hval
  obtain ⟨v0, vs0, d0, ds0, p0, q0, hargs, rfl, rfl, h0, r0⟩ := Go.ChangeShapes.trodAll_cons hA
  obtain ⟨v1, vs1, d1, ds1, p1, q1, rfl, rfl, rfl, h1, r1⟩ := Go.ChangeShapes.trodAll_cons r0
  obtain ⟨v2, vs2, d2, ds2, p2, q2, rfl, rfl, rfl, h2, r2⟩ := Go.ChangeShapes.trodAll_cons r1
  obtain ⟨rfl, rfl, rfl⟩ := Go.ChangeShapes.trodAll_nil r2
  obtain rfl : args = #[v0, v1, v2] := by cases args; simp_all
  have hb := bound hk
  have hb0 : Rows.uptoBulk d0 ≤ 1048576 := Nat.le_trans (part_le (by simp)) hb
  obtain ⟨a0, g0, x0⟩ := open_rack (fm := fm) bulk Try.underlying24 Try.underlying22 Try.underlying25 Try.underlying2 (by kernel_rfl) (by kernel_rfl) (by kernel_rfl) (by kernel_rfl) rfl (hval 0 24 v0 rfl rfl) h0
  have hb1 : Rows.uptoBulk d1 ≤ 1048576 := Nat.le_trans (part_le (by simp)) hb
  obtain ⟨a1, g1, x1⟩ := open_argI (fm := fm) bulk Try.underlying25 Try.underlying2 (by kernel_rfl) (hval 1 25 v1 rfl rfl) h1
  have hb2 : Rows.uptoBulk d2 ≤ 1048576 := Nat.le_trans (part_le (by simp)) hb
  obtain ⟨a2, g2, x2⟩ := open_argN (fm := fm) Try.underlying2 (hval 2 2 v2 rfl rfl) h2
  obtain ⟨args', hc⟩ := s_law0 a0 a1 a2 ⟨by omega, fun q hq => by have := (x0.2 q hq).1; omega⟩ (by omega)
  refine (run_true (pact hc) (by simp) rfl (fun s t ht => ?_)).mono fun e W' ⟨he, hg⟩ => ?_
  · match s, ht with
    | 0, ht =>
      cases ht
      exact g0
    | 1, ht =>
      cases ht
      exact g1
    | 2, ht =>
      cases ht
      exact g2
  · subst he
    exact ⟨_, rfl, post_true hW' hg rfl rfl (by kernel_rfl) laid (fun t ht => by rw [Try.params3] at ht; simp at ht; rcases ht with rfl | rfl | rfl <;> first | exact read2 | exact read24 | exact read25) rfl⟩
set_option maxRecDepth 100000 in
theorem lifted (os : Os) (started : os.Started) (H : Type) (enc : TypeId × Value → H) (F : Stop.Interp) :
    ReturnsInHanded {} Try.checked os 3 .any ((Rows.OpenSpec.upto Rows.fnExactRackMoveSpec).pre6 enc Try.prog Try.f3 Rows.fnExactRackMoveUptoRow.domain false) (((Rows.OpenSpec.upto Rows.fnExactRackMoveSpec).at F).post enc Try.prog Try.f3 false true false false) := by
  refine returnsInHanded_of_cond (C := Try.checked) (s := Rows.OpenSpec.upto Rows.fnExactRackMoveSpec) (k := Rows.uptoSmall) rfl own started (by kernel_rfl) Try.func3
    (OpenSpec.witness (enc := enc) (C := Try.checked) (s := Rows.OpenSpec.upto Rows.fnExactRackMoveSpec) (k := Rows.uptoSmall) rfl false ⟨#[], #[.agg #[.slice none 0 0], .slice none 0 0, .int .i64 0], []⟩ 8 (by kernel_rfl) (by kernel_rfl) (by kernel_rfl)
      (x := ([.agg [.nil], .nil, .lit (.int .i64 0)], [], [])) (by kernel_rfl) rfl (by kernel_rfl)) ?_
  intro W base args ds gs before hval hW _ hk _
  exact contract H enc W base args ds gs before hval hW hk
theorem over : Rows.fnExactRackMoveUptoRow.holds Try.pinned (Rows.OpenSpec.upto Rows.fnExactRackMoveSpec) :=
  OpenClaim.holds_of_cond 3 Try.f3 rfl rfl rfl rfl rfl rfl rfl ⟨rfl, rfl, rfl, rfl, rfl⟩ rfl rfl rfl rfl rfl (by kernel_rfl) Try.func3 (by kernel_rfl)
    (of_decide_eq_true (by kernel_rfl)) (by unfold Func.isWrapper; first | (rw [if_pos (by decide +kernel)]; kernel_rfl) | (rw [if_neg (by decide +kernel)]; exact ⟨rfl, rfl⟩))
    (fun os started H enc _ F => lifted os started H enc F)
theorem proved : Rows.FnExactRackMoveUptoSaid :=
  over
end Go.Proofs.Ytkdoegjnnfmpaaa.fnExactRackMove
