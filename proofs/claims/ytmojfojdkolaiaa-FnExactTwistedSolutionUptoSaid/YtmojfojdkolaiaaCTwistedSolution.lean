/- The program's TwistedSolution returns what the reference's returns, for all arguments that hold together at most 1048576 values. -/
import Derived.Test.YtmojfojdkolaiaaTie
import Derived.Test.YtmojfojdkolaiaaP1
namespace Go.Proofs.Ytmojfojdkolaiaa.fnExactTwistedSolution
open Go.Mch Tie
theorem s_in_30 : S_in pg 30 := t_l01In (show pg.fn 30 = some _ from rfl)
theorem s_table_46 : S_table pg 46 := t_l01Table (show pg.fn 46 = some _ from rfl) s_in_30
theorem s_index : S_index pg := t_index (show pg.fn 69 = some _ from rfl)
theorem s_has : S_has pg := t_has (show pg.fn 62 = some _ from rfl) s_index
theorem s_perm_47 : S_perm pg 47 := t_l01Perm (show pg.fn 47 = some _ from rfl) s_in_30 s_has
theorem s_rackFault_48 : S_rackFault pg 48 := t_rf48 (show pg.fn 48 = some _ from rfl)
theorem s_isRk_28 : S_isRk pg 28 := t_l03Is (show pg.fn 28 = some _ from rfl) s_table_46 s_perm_47 s_rackFault_48
theorem s_own : S_own pg := t_own (show pg.fn 31 = some _ from rfl)
theorem s_copyT_280 : S_copyT pg 280 := t_l01Own2 (show pg.fn 280 = some _ from rfl) s_own
theorem s_image_303 : S_image pg 303 := t_l03Image (show pg.fn 303 = some _ from rfl) s_copyT_280
theorem s_same : S_same pg := t_same (show pg.fn 67 = some _ from rfl)
theorem s_eqTb_302 : S_eqTb pg 302 := t_l01Same2 (show pg.fn 302 = some _ from rfl) s_same
theorem s_inv_304 : S_inv pg 304 := t_l01Back (show pg.fn 304 = some _ from rfl)
theorem s_tw_170 : S_tw pg 170 := t_tw_spec (show pg.fn 170 = some _ from rfl) s_isRk_28 s_perm_47 s_image_303 s_eqTb_302 s_inv_304
theorem s_in_35 : S_in pg 35 := t_within (show pg.fn 35 = some _ from rfl)
theorem s_allWithin : S_allWithin pg := t_allWithin (show pg.fn 54 = some _ from rfl) s_in_35
theorem s_isTable1 : S_isTable1 pg := t_isTable1 (show pg.fn 64 = some _ from rfl) s_allWithin
theorem s_indexFunc : S_indexFunc pg := t_indexFunc (show pg.fn 70 = some _ from rfl)
theorem s_containsFunc : S_containsFunc pg := t_containsFunc (show pg.fn 63 = some _ from rfl) s_indexFunc
theorem s_table_50 : S_table pg 50 := t_isTable (show pg.fn 50 = some _ from rfl) s_in_35 s_isTable1 s_containsFunc
theorem s_isPermuted : S_isPermuted pg := t_isPermuted (show pg.fn 66 = some _ from rfl) s_in_35
theorem s_permRows1 : S_permRows1 pg := t_permRows1 (show pg.fn 65 = some _ from rfl) s_isPermuted
theorem s_permRows : S_permRows pg := t_permRows (show pg.fn 51 = some _ from rfl) s_permRows1 s_containsFunc
theorem s_rackFault_52 : S_rackFault pg 52 := t_rf52 (show pg.fn 52 = some _ from rfl)
theorem s_isRk_33 : S_isRk pg 33 := t_IsRack (show pg.fn 33 = some _ from rfl) s_table_50 s_permRows s_rackFault_52
theorem s_inv_307 : S_inv pg 307 := t_inverse (show pg.fn 307 = some _ from rfl)
theorem s_tableBy : S_tableBy pg := t_tableBy (show pg.fn 376 = some _ from rfl)
theorem s_ren1 : S_ren1 pg := t_renamed1 (show pg.fn 390 = some _ from rfl)
theorem s_image_306 : S_image pg 306 := t_renamed (show pg.fn 306 = some _ from rfl) s_inv_307 s_tableBy s_ren1
theorem s_nan : S_nan pg := t_isNaN (show pg.fn 443 = some _ from rfl)
theorem s_cmpI : S_cmpI pg := t_cmpI (show pg.fn 395 = some _ from rfl) s_nan
theorem s_cmpL : S_cmpL pg := t_cmpL (show pg.fn 314 = some _ from rfl) s_cmpI
theorem s_cmpT1 : S_cmpT1 pg := t_cmpT1 (show pg.fn 432 = some _ from rfl) s_cmpL
theorem s_cmpF : S_cmpF pg := t_cmpF (show pg.fn 431 = some _ from rfl) s_cmpT1
theorem s_cmpT : S_cmpT pg := t_compareTables (show pg.fn 389 = some _ from rfl) s_cmpF
theorem s_eqTb_305 : S_eqTb pg 305 := t_equalTables (show pg.fn 305 = some _ from rfl) s_cmpT
theorem s_sol1_391_false : S_sol1 pg 391 false := t_solutionBy1 (show pg.fn 391 = some _ from rfl)
theorem s_sol1_392_true : S_sol1 pg 392 true := t_solutionBy2 (show pg.fn 392 = some _ from rfl)
theorem s_solBy : S_solBy pg := t_solutionBy (show pg.fn 308 = some _ from rfl) s_tableBy s_sol1_391_false s_sol1_392_true
theorem s_tw1 : S_tw1 pg := t_tw1 (show pg.fn 309 = some _ from rfl)
theorem s_tw_171 : S_tw pg 171 := t_tw_impl (show pg.fn 171 = some _ from rfl) s_isRk_33 s_isPermuted s_image_306 s_eqTb_305 s_inv_307 s_solBy s_tw1
theorem s_szI : S_szI pg := t_szI (show pg.fn 45 = some _ from rfl)
theorem s_szT : S_szT pg := t_szT (show pg.fn 27 = some _ from rfl) s_szI
theorem s_szRack : S_szRack pg := t_szRack (show pg.fn 4 = some _ from rfl) s_szT
theorem s_toI : S_toI pg := t_toI (show pg.fn 7 = some _ from rfl)
theorem s_toT : S_toT pg := t_toT (show pg.fn 32 = some _ from rfl) s_toI
theorem s_toRack : S_toRack pg := t_toRack (show pg.fn 6 = some _ from rfl) s_toT
theorem s_eqI : S_eqI pg := t_eqI (show pg.fn 9 = some _ from rfl)
theorem s_eqT : S_eqT pg := t_eqT (show pg.fn 21 = some _ from rfl) s_eqI
theorem s_eqRack : S_eqRack pg := t_eqRack (show pg.fn 10 = some _ from rfl) s_eqT
theorem s_markI : S_markI pg := t_markI (show pg.fn 12 = some _ from rfl)
theorem s_markT : S_markT pg := t_markT (show pg.fn 23 = some _ from rfl) s_markI
theorem s_markSol : S_markSol pg := t_markSol (show pg.fn 22 = some _ from rfl) s_markT
theorem s_markRack : S_markRack pg := t_markRack (show pg.fn 11 = some _ from rfl) s_markT
theorem s_markSol0 : S_markSol0 pg := t_markSol0 (show pg.fn 22 = some _ from rfl) s_markT
theorem s_heldI : S_heldI pg := t_heldI (show pg.fn 13 = some _ from rfl)
theorem s_heldT : S_heldT pg := t_heldT (show pg.fn 24 = some _ from rfl) s_heldI
theorem s_heldSol : S_heldSol pg := t_heldSol (show pg.fn 172 = some _ from rfl) s_heldT
theorem s_eqSol : S_eqSol pg := t_eqSol (show pg.fn 18 = some _ from rfl) s_eqT
theorem s_law86 : S_law86 pg := t_law86 (show pg.fn 86 = some _ from rfl) s_tw_170 s_tw_171 s_szRack s_toRack s_eqRack s_toI s_eqI s_markSol s_markRack s_markI s_markSol0 s_heldSol s_eqSol
theorem own : ownKnob Try.prog.godebug = none := by kernel_rfl
theorem part_le {H : Type} {d : DataW H} {l : List (DataW H)} (h : d ∈ l) : Rows.uptoBulk d ≤ Rows.uptoBulkAll l := by
  induction l with
  | nil => cases h
  | cons x r ih =>
    simp only [Rows.uptoBulkAll]
    cases List.mem_cons.1 h with
    | inl e => subst e; omega
    | inr e => have := ih e; omega
theorem one_le {H : Type} (d : DataW H) : 1 ≤ Rows.uptoBulk d := by
  cases d with
  | lit l => cases l <;> simp [Rows.uptoBulk]
  | _ => simp [Rows.uptoBulk]
theorem length_le {H : Type} (l : List (DataW H)) : l.length ≤ Rows.uptoBulkAll l := by
  induction l with
  | nil => simp [Rows.uptoBulkAll]
  | cons x r ih => have := one_le x; simp only [Rows.uptoBulkAll, List.length_cons]; omega
theorem bulk {H : Type} : Bulk (H := H) Rows.uptoBulk :=
  ⟨fun es rest => by have := length_le es; simp only [Rows.uptoBulk]; omega,
   fun es rest d h => by have := part_le h; simp only [Rows.uptoBulk]; omega,
   fun ps d h => by have := part_le h; simp only [Rows.uptoBulk]; omega⟩
theorem bound {H : Type} {l : List (DataW H)} (hk : Rows.uptoSmall H l = true) : Rows.uptoBulkAll l ≤ 1048576 := by
  simpa [Rows.uptoSmall] using hk
theorem laid : laidOutB Try.prog = true := by kernel_rfl
theorem read26 : Try.prog.readableRec 26 = true ∧ 26 < Try.prog.types.size := ⟨by kernel_rfl, of_decide_eq_true (by kernel_rfl)⟩
theorem read37 : Try.prog.readableRec 37 = true ∧ 37 < Try.prog.types.size := ⟨by kernel_rfl, of_decide_eq_true (by kernel_rfl)⟩
set_option maxRecDepth 100000 in
theorem contract (H : Type) (enc : TypeId × Value → H) (W : World) (base : Nat) (args : Array Value) (ds gs : List (DataW H)) (before : List MemPlace)
    (hval : ∀ (j : Nat) t v, Try.f4.params[j]? = some t → args[j]? = some v → Value.okWide Try.prog W .any base t v)
    (hW : DataW.Whole enc Try.prog Try.f4.params.toList Rows.fnExactTwistedSolutionSpec.vars false W args.toList ds gs before) (hk : Rows.uptoSmall H (ds ++ gs) = true) :
    Calls Try.prog 4 args W fun e W' => ∃ v, e = .returned v ∧ Rows.fnExactTwistedSolutionSpec.post enc Try.prog Try.f4 false true false false W args v W' := by
  have hW' := hW
  obtain ⟨p, q, hA, hV, rfl, hfz, hnd⟩ := hW
  rw [Try.params4] at hA hval
  obtain ⟨v0, vs0, d0, ds0, p0, q0, hargs, rfl, rfl, h0, r0⟩ := Go.ChangeShapes.trodAll_cons hA
  obtain ⟨v1, vs1, d1, ds1, p1, q1, rfl, rfl, rfl, h1, r1⟩ := Go.ChangeShapes.trodAll_cons r0
  obtain ⟨rfl, rfl, rfl⟩ := Go.ChangeShapes.trodAll_nil r1
  obtain rfl : args = #[v0, v1] := by cases args; simp_all
  have hb := bound hk
  have hb0 : Rows.uptoBulk d0 ≤ 1048576 := Nat.le_trans (part_le (by simp)) hb
  obtain ⟨a0, g0, x0⟩ := open_rack (fm := fm) bulk Try.underlying37 Try.underlying22 Try.underlying26 Try.underlying2 (by kernel_rfl) (by kernel_rfl) (by kernel_rfl) (by kernel_rfl) rfl (hval 0 37 v0 rfl rfl) h0
  have hb1 : Rows.uptoBulk d1 ≤ 1048576 := Nat.le_trans (part_le (by simp)) hb
  obtain ⟨a1, g1, x1⟩ := open_argI (fm := fm) bulk Try.underlying26 Try.underlying2 (by kernel_rfl) (hval 1 26 v1 rfl rfl) h1
  obtain ⟨args', hc⟩ := s_law86 a0 a1 ⟨by omega, fun q hq => by have := (x0.2 q hq).1; omega⟩ (by omega)
  refine (run_true (pact hc) (by simp) rfl (fun s t ht => ?_)).mono fun e W' ⟨he, hg⟩ => ?_
  · match s, ht with
    | 0, ht =>
      cases ht
      exact g0
    | 1, ht =>
      cases ht
      exact g1
  · subst he
    exact ⟨_, rfl, post_true hW' hg rfl rfl (by kernel_rfl) laid (fun t ht => by rw [Try.params4] at ht; simp at ht; rcases ht with rfl | rfl <;> first | exact read26 | exact read37) rfl⟩
set_option maxRecDepth 100000 in
theorem lifted (os : Os) (started : os.Started) (H : Type) (enc : TypeId × Value → H) (F : Stop.Interp) :
    ReturnsInHanded {} Try.checked os 4 .any ((Rows.OpenSpec.upto Rows.fnExactTwistedSolutionSpec).pre6 enc Try.prog Try.f4 Rows.fnExactTwistedSolutionUptoRow.domain false) (((Rows.OpenSpec.upto Rows.fnExactTwistedSolutionSpec).at F).post enc Try.prog Try.f4 false true false false) := by
  refine returnsInHanded_of_cond (C := Try.checked) (s := Rows.OpenSpec.upto Rows.fnExactTwistedSolutionSpec) (k := Rows.uptoSmall) rfl own started (by kernel_rfl) Try.func4
    (OpenSpec.witness (enc := enc) (C := Try.checked) (s := Rows.OpenSpec.upto Rows.fnExactTwistedSolutionSpec) (k := Rows.uptoSmall) rfl false ⟨#[], #[.agg #[.slice none 0 0], .slice none 0 0], []⟩ 8 (by kernel_rfl) (by kernel_rfl) (by kernel_rfl)
      (x := ([.agg [.nil], .nil], [], [])) (by kernel_rfl) rfl (by kernel_rfl)) ?_
  intro W base args ds gs before hval hW _ hk _
  exact contract H enc W base args ds gs before hval hW hk
theorem over : Rows.fnExactTwistedSolutionUptoRow.holds Try.pinned (Rows.OpenSpec.upto Rows.fnExactTwistedSolutionSpec) :=
  OpenClaim.holds_of_cond 4 Try.f4 rfl rfl rfl rfl rfl rfl rfl ⟨rfl, rfl, rfl, rfl, rfl⟩ rfl rfl rfl rfl rfl (by kernel_rfl) Try.func4 (by kernel_rfl)
    (of_decide_eq_true (by kernel_rfl)) (by unfold Func.isWrapper; first | (rw [if_pos (by decide +kernel)]; kernel_rfl) | (rw [if_neg (by decide +kernel)]; exact ⟨rfl, rfl⟩))
    (fun os started H enc _ F => lifted os started H enc F)
theorem proved : Rows.FnExactTwistedSolutionUptoSaid :=
  over
end Go.Proofs.Ytmojfojdkolaiaa.fnExactTwistedSolution
