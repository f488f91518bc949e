/- The program's OrbitSolutions returns what the reference's returns, for all arguments that hold together at most 1048576 values. -/
import Derived.Test.YtflabnhdfdlplaaTie
import Derived.Test.YtflabnhdfdlplaaP1
namespace Go.Proofs.Ytflabnhdfdlplaa.fnExactOrbitSolutions
open Go.Mch Tie
theorem s_in_30 : S_in pg 30 := t_l01In (show pg.fn 30 = some _ from rfl)
theorem s_table_46 : S_table pg 46 := t_l01Table (show pg.fn 46 = some _ from rfl) s_in_30
theorem s_pairMap_56 : S_pairMap pg 56 := t_l02Map (show pg.fn 56 = some _ from rfl) s_table_46
theorem s_coll57 : S_coll57 pg := t_coll57 (show pg.fn 57 = some _ from rfl)
theorem s_own : S_own pg := t_own (show pg.fn 31 = some _ from rfl)
theorem s_do_68 : S_do pg 68 := do_of (show pg.fn 68 = some _ from rfl) s_own
theorem s_same : S_same pg := t_same (show pg.fn 67 = some _ from rfl)
theorem s_fault58 : S_fault58 pg := t_fault58 (show pg.fn 58 = some _ from rfl) s_do_68 s_same
theorem s_isSol_41 : S_isSol pg 41 := t_l02Is (show pg.fn 41 = some _ from rfl) s_pairMap_56 s_coll57 s_fault58
theorem s_index : S_index pg := t_index (show pg.fn 69 = some _ from rfl)
theorem s_has : S_has pg := t_has (show pg.fn 62 = some _ from rfl) s_index
theorem s_perm_47 : S_perm pg 47 := t_l01Perm (show pg.fn 47 = some _ from rfl) s_in_30 s_has
theorem s_l01Rows : S_l01Rows pg := t_l01Rows (show pg.fn 410 = some _ from rfl) s_perm_47
theorem s_column : S_column pg := t_column (show pg.fn 375 = some _ from rfl)
theorem s_turn_265 : S_turn pg 265 := t_l01Turn (show pg.fn 265 = some _ from rfl) s_column
theorem s_nonDeg_350 : S_nonDeg pg 350 := t_l02Good (show pg.fn 350 = some _ from rfl) s_l01Rows s_turn_265
theorem s_reg_264 : S_reg pg 264 := t_l07Is (show pg.fn 264 = some _ from rfl) s_isSol_41 s_nonDeg_350
theorem s_copyT_280 : S_copyT pg 280 := t_l01Own2 (show pg.fn 280 = some _ from rfl) s_own
theorem s_both : S_both pg := t_l07Both (show pg.fn 273 = some _ from rfl) s_copyT_280 s_turn_265
theorem s_orbit : S_orbit pg := t_l01Orbit (show pg.fn 430 = some _ from rfl) s_has
theorem s_orbits : S_orbits pg := t_l01Orbits (show pg.fn 387 = some _ from rfl) s_orbit
theorem s_solO_299 : S_solO pg 299 := t_l07Orbits (show pg.fn 299 = some _ from rfl) s_both s_orbits
theorem s_greatest : S_greatest pg := t_greatest (show pg.fn 288 = some _ from rfl)
theorem s_members : S_members pg := t_members (show pg.fn 316 = some _ from rfl)
theorem s_sub : S_sub pg := t_l02Sub (show pg.fn 332 = some _ from rfl) s_index
theorem s_os_208 : S_os pg 208 := t_os_spec (show pg.fn 208 = some _ from rfl) s_reg_264 s_solO_299 s_greatest s_members s_sub
theorem s_in_35 : S_in pg 35 := t_within (show pg.fn 35 = some _ from rfl)
theorem s_allWithin : S_allWithin pg := t_allWithin (show pg.fn 54 = some _ from rfl) s_in_35
theorem s_isTable1 : S_isTable1 pg := t_isTable1 (show pg.fn 64 = some _ from rfl) s_allWithin
theorem s_indexFunc : S_indexFunc pg := t_indexFunc (show pg.fn 70 = some _ from rfl)
theorem s_containsFunc : S_containsFunc pg := t_containsFunc (show pg.fn 63 = some _ from rfl) s_indexFunc
theorem s_table_50 : S_table pg 50 := t_isTable (show pg.fn 50 = some _ from rfl) s_in_35 s_isTable1 s_containsFunc
theorem s_pairMap_59 : S_pairMap pg 59 := t_isPairMap (show pg.fn 59 = some _ from rfl) s_table_50
theorem s_coll60 : S_coll60 pg := t_coll60 (show pg.fn 60 = some _ from rfl)
theorem s_fault61 : S_fault61 pg := t_fault61 (show pg.fn 61 = some _ from rfl)
theorem s_isSol_42 : S_isSol pg 42 := t_IsSolution (show pg.fn 42 = some _ from rfl) s_pairMap_59 s_coll60 s_fault61
theorem s_isPermuted : S_isPermuted pg := t_isPermuted (show pg.fn 66 = some _ from rfl) s_in_35
theorem s_permRows1 : S_permRows1 pg := t_permRows1 (show pg.fn 65 = some _ from rfl) s_isPermuted
theorem s_permRows : S_permRows pg := t_permRows (show pg.fn 51 = some _ from rfl) s_permRows1 s_containsFunc
theorem s_tableBy : S_tableBy pg := t_tableBy (show pg.fn 376 = some _ from rfl)
theorem s_turn1 : S_turn1 pg := t_turn1 (show pg.fn 377 = some _ from rfl)
theorem s_turn_267 : S_turn pg 267 := t_transposed (show pg.fn 267 = some _ from rfl) s_tableBy s_turn1
theorem s_nonDeg_285 : S_nonDeg pg 285 := t_isNondeg (show pg.fn 285 = some _ from rfl) s_permRows s_turn_267
theorem s_reg_266 : S_reg pg 266 := t_isRegular (show pg.fn 266 = some _ from rfl) s_isSol_42 s_nonDeg_285
theorem s_grow : S_grow pg := t_grow (show pg.fn 429 = some _ from rfl)
theorem s_concat : S_concat pg := t_concat (show pg.fn 381 = some _ from rfl) s_grow
theorem s_whole : S_whole pg := t_whole (show pg.fn 271 = some _ from rfl) s_turn_267 s_concat
theorem s_labels : S_labels pg := t_orbitLabels (show pg.fn 388 = some _ from rfl)
theorem s_solO_301 : S_solO pg 301 := t_solutionOrbits (show pg.fn 301 = some _ from rfl) s_whole s_labels
theorem s_maxL : S_maxL pg := t_max (show pg.fn 290 = some _ from rfl)
theorem s_places : S_places pg := t_placesOf (show pg.fn 318 = some _ from rfl)
theorem s_areElements : S_areElements pg := t_areElements (show pg.fn 39 = some _ from rfl) s_allWithin
theorem s_incr : S_incr pg := t_increasing (show pg.fn 403 = some _ from rfl)
theorem s_isSet : S_isSet pg := t_isSet (show pg.fn 357 = some _ from rfl) s_areElements s_incr
theorem s_indexIn_384 : S_indexIn pg 384 := t_slicesIndex (show pg.fn 384 = some _ from rfl)
theorem s_hasI : S_hasI pg := t_contains (show pg.fn 405 = some _ from rfl) s_indexIn_384
theorem s_closed_333 : S_closed pg 333 := t_isClosed (show pg.fn 333 = some _ from rfl) s_hasI
theorem s_sol1_391_false : S_sol1 pg 391 false := t_solutionBy1 (show pg.fn 391 = some _ from rfl)
theorem s_sol1_392_true : S_sol1 pg 392 true := t_solutionBy2 (show pg.fn 392 = some _ from rfl)
theorem s_solBy : S_solBy pg := t_solutionBy (show pg.fn 308 = some _ from rfl) s_tableBy s_sol1_391_false s_sol1_392_true
theorem s_indexIn_287 : S_indexIn pg 287 := t_indexIn (show pg.fn 287 = some _ from rfl) s_indexIn_384
theorem s_sub1 : S_sub1 pg := t_sub1 (show pg.fn 358 = some _ from rfl) s_indexIn_287
theorem s_subI : S_subI pg := t_SubSolution (show pg.fn 239 = some _ from rfl) s_pairMap_59 s_isSet s_closed_333 s_solBy s_sub1
theorem s_os_209 : S_os pg 209 := t_os_impl (show pg.fn 209 = some _ from rfl) s_reg_266 s_solO_301 s_maxL s_places s_subI
theorem s_szI : S_szI pg := t_szI (show pg.fn 45 = some _ from rfl)
theorem s_szT : S_szT pg := t_szT (show pg.fn 27 = some _ from rfl) s_szI
theorem s_szSol : S_szSol pg := t_szSol (show pg.fn 14 = some _ from rfl) s_szT
theorem s_toI : S_toI pg := t_toI (show pg.fn 7 = some _ from rfl)
theorem s_toT : S_toT pg := t_toT (show pg.fn 32 = some _ from rfl) s_toI
theorem s_toSol : S_toSol pg := t_toSol (show pg.fn 16 = some _ from rfl) s_toT
theorem s_eqI : S_eqI pg := t_eqI (show pg.fn 9 = some _ from rfl)
theorem s_eqT : S_eqT pg := t_eqT (show pg.fn 21 = some _ from rfl) s_eqI
theorem s_eqSol : S_eqSol pg := t_eqSol (show pg.fn 18 = some _ from rfl) s_eqT
theorem s_markI : S_markI pg := t_markI (show pg.fn 12 = some _ from rfl)
theorem s_markT : S_markT pg := t_markT (show pg.fn 23 = some _ from rfl) s_markI
theorem s_markSol : S_markSol pg := t_markSol (show pg.fn 22 = some _ from rfl) s_markT
theorem s_eqS : S_eqS pg := t_eqS (show pg.fn 210 = some _ from rfl) s_eqSol
theorem s_eqS0 : S_eqS0 pg := t_eqS0 (show pg.fn 210 = some _ from rfl)
theorem s_markS : S_markS pg := t_markS (show pg.fn 211 = some _ from rfl) s_markT
theorem s_markS0 : S_markS0 pg := t_markS0 (show pg.fn 211 = some _ from rfl)
theorem s_heldI : S_heldI pg := t_heldI (show pg.fn 13 = some _ from rfl)
theorem s_heldT : S_heldT pg := t_heldT (show pg.fn 24 = some _ from rfl) s_heldI
theorem s_heldS : S_heldS pg := t_heldS (show pg.fn 212 = some _ from rfl) s_heldT
theorem s_heldS0 : S_heldS0 pg := t_heldS0 (show pg.fn 212 = some _ from rfl)
theorem s_law102 : S_law102 pg := t_law102 (show pg.fn 102 = some _ from rfl) s_os_208 s_os_209 s_szSol s_toSol s_eqSol s_markSol s_eqS s_eqS0 s_markS s_markS0 s_heldS s_heldS0
theorem own : ownKnob Try.prog.godebug = none := by kernel_rfl
theorem part_le {H : Type} {d : DataW H} {l : List (DataW H)} (h : d ∈ l) : Rows.uptoBulk d ≤ Rows.uptoBulkAll l := by
  induction l with
  | nil => cases h
  | cons x r ih =>
    simp only [Rows.uptoBulkAll]
    cases List.mem_cons.1 h with
    | inl e => subst e; omega
    | inr e => have := ih e; omega
theorem one_le {H : Type} (d : DataW H) : 1 ≤ Rows.uptoBulk d := by
  cases d with
  | lit l => cases l <;> simp [Rows.uptoBulk]
  | _ => simp [Rows.uptoBulk]
theorem length_le {H : Type} (l : List (DataW H)) : l.length ≤ Rows.uptoBulkAll l := by
  induction l with
  | nil => simp [Rows.uptoBulkAll]
  | cons x r ih => have := one_le x; simp only [Rows.uptoBulkAll, List.length_cons]; omega
theorem bulk {H : Type} : Bulk (H := H) Rows.uptoBulk :=
  ⟨fun es rest => by have := length_le es; simp only [Rows.uptoBulk]; omega,
   fun es rest d h => by have := part_le h; simp only [Rows.uptoBulk]; omega,
   fun ps d h => by have := part_le h; simp only [Rows.uptoBulk]; omega⟩
theorem bound {H : Type} {l : List (DataW H)} (hk : Rows.uptoSmall H l = true) : Rows.uptoBulkAll l ≤ 1048576 := by
  simpa [Rows.uptoSmall] using hk
theorem laid : laidOutB Try.prog = true := by kernel_rfl
theorem read24 : Try.prog.readableRec 24 = true ∧ 24 < Try.prog.types.size := ⟨by kernel_rfl, of_decide_eq_true (by kernel_rfl)⟩
set_option maxRecDepth 100000 in
theorem contract (H : Type) (enc : TypeId × Value → H) (W : World) (base : Nat) (args : Array Value) (ds gs : List (DataW H)) (before : List MemPlace)
    (hval : ∀ (j : Nat) t v, Try.f3.params[j]? = some t → args[j]? = some v → Value.okWide Try.prog W .any base t v)
    (hW : DataW.Whole enc Try.prog Try.f3.params.toList Rows.fnExactOrbitSolutionsSpec.vars false W args.toList ds gs before) (hk : Rows.uptoSmall H (ds ++ gs) = true) :
    Calls Try.prog 3 args W fun e W' => ∃ v, e = .returned v ∧ Rows.fnExactOrbitSolutionsSpec.post enc Try.prog Try.f3 false true false false W args v W' := by
  have hW' := hW
  obtain ⟨p, q, hA, hV, rfl, hfz, hnd⟩ := hW
  rw [Try.params3] at hA hval
  obtain ⟨v0, vs0, d0, ds0, p0, q0, hargs, rfl, rfl, h0, r0⟩ := Go.ChangeShapes.trodAll_cons hA
  obtain ⟨rfl, rfl, rfl⟩ := Go.ChangeShapes.trodAll_nil r0
  obtain rfl : args = #[v0] := by cases args; simp_all
  have hb := bound hk
  have hb0 : Rows.uptoBulk d0 ≤ 1048576 := Nat.le_trans (part_le (by simp)) hb
  obtain ⟨a0, b0, g0, x0, y0⟩ := open_sol (fm := fm) bulk Try.underlying24 Try.underlying22 Try.underlying22 Try.underlying38 Try.underlying2 (by kernel_rfl) (by kernel_rfl) (by kernel_rfl) (by kernel_rfl) (by kernel_rfl) rfl rfl (hval 0 24 v0 rfl rfl) h0
  obtain ⟨args', hc⟩ := s_law102 a0 b0 ⟨by omega, fun q hq => by have := (x0.2 q hq).1; omega⟩ ⟨by omega, fun q hq => by have := (y0.2 q hq).1; omega⟩
  refine (run_true (pact hc) (by simp) rfl (fun s t ht => ?_)).mono fun e W' ⟨he, hg⟩ => ?_
  · match s, ht with
    | 0, ht =>
      cases ht
      exact g0
  · subst he
    exact ⟨_, rfl, post_true hW' hg rfl rfl (by kernel_rfl) laid (fun t ht => by rw [Try.params3] at ht; simp at ht; rcases ht with rfl <;> first | exact read24) rfl⟩
set_option maxRecDepth 100000 in
theorem lifted (os : Os) (started : os.Started) (H : Type) (enc : TypeId × Value → H) (F : Stop.Interp) :
    ReturnsInHanded {} Try.checked os 3 .any ((Rows.OpenSpec.upto Rows.fnExactOrbitSolutionsSpec).pre6 enc Try.prog Try.f3 Rows.fnExactOrbitSolutionsUptoRow.domain false) (((Rows.OpenSpec.upto Rows.fnExactOrbitSolutionsSpec).at F).post enc Try.prog Try.f3 false true false false) := by
  refine returnsInHanded_of_cond (C := Try.checked) (s := Rows.OpenSpec.upto Rows.fnExactOrbitSolutionsSpec) (k := Rows.uptoSmall) rfl own started (by kernel_rfl) Try.func3
    (OpenSpec.witness (enc := enc) (C := Try.checked) (s := Rows.OpenSpec.upto Rows.fnExactOrbitSolutionsSpec) (k := Rows.uptoSmall) rfl false ⟨#[], #[.agg #[.slice none 0 0, .slice none 0 0]], []⟩ 8 (by kernel_rfl) (by kernel_rfl) (by kernel_rfl)
      (x := ([.agg [.nil, .nil]], [], [])) (by kernel_rfl) rfl (by kernel_rfl)) ?_
  intro W base args ds gs before hval hW _ hk _
  exact contract H enc W base args ds gs before hval hW hk
theorem over : Rows.fnExactOrbitSolutionsUptoRow.holds Try.pinned (Rows.OpenSpec.upto Rows.fnExactOrbitSolutionsSpec) :=
  OpenClaim.holds_of_cond 3 Try.f3 rfl rfl rfl rfl rfl rfl rfl ⟨rfl, rfl, rfl, rfl, rfl⟩ rfl rfl rfl rfl rfl (by kernel_rfl) Try.func3 (by kernel_rfl)
    (of_decide_eq_true (by kernel_rfl)) (by unfold Func.isWrapper; first | (rw [if_pos (by decide +kernel)]; kernel_rfl) | (rw [if_neg (by decide +kernel)]; exact ⟨rfl, rfl⟩))
    (fun os started H enc _ F => lifted os started H enc F)
theorem proved : Rows.FnExactOrbitSolutionsUptoSaid :=
  over
end Go.Proofs.Ytflabnhdfdlplaa.fnExactOrbitSolutions
