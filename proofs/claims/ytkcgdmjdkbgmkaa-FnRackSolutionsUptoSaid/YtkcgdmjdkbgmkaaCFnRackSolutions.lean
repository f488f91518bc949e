/- The law FnRackSolutions returns true for all arguments that hold together at most 1048576 values. -/
import Derived.Test.YtkcgdmjdkbgmkaaTie
import Derived.Test.YtkcgdmjdkbgmkaaP1
import Derived.Test.YtkcgdmjdkbgmkaaP2
namespace Go.Proofs.Ytkcgdmjdkbgmkaa.fnRackSolutions
open Go.Mch Tie
theorem s_big : S_big pg := t_big (show pg.fn 128 = some _ from rfl)
theorem s_from : S_from pg := t_from (show pg.fn 269 = some _ from rfl)
theorem s_nxt : S_nxt pg := t_nxt (show pg.fn 336 = some _ from rfl)
theorem s_dpm : S_dpm pg := t_dpm (show pg.fn 338 = some _ from rfl) s_nxt
theorem s_own : S_own pg := t_own (show pg.fn 31 = some _ from rfl)
theorem s_alx : S_alx pg := t_alx (show pg.fn 455 = some _ from rfl)
theorem s_cop : S_cop pg := t_cop (show pg.fn 456 = some _ from rfl)
theorem s_index : S_index pg := t_index (show pg.fn 69 = some _ from rfl)
theorem s_has : S_has pg := t_has (show pg.fn 62 = some _ from rfl) s_index
theorem s_grw_3 : S_grw pg 3 := t_grw3 (show pg.fn 466 = some _ from rfl) s_has s_own
theorem s_perms3 : S_perms3 pg := t_perms3 (show pg.fn 457 = some _ from rfl) s_grw_3
theorem s_inv_304 : S_inv pg 304 := t_l01Back (show pg.fn 304 = some _ from rfl)
theorem s_then_279 : S_then pg 279 := t_l01Then (show pg.fn 279 = some _ from rfl)
theorem s_same : S_same pg := t_same (show pg.fn 67 = some _ from rfl)
theorem s_dtb : S_dtb pg := t_dtb (show pg.fn 444 = some _ from rfl) s_nxt s_dpm s_own s_alx s_cop s_perms3 s_inv_304 s_then_279 s_same
theorem s_copyT_280 : S_copyT pg 280 := t_l01Own2 (show pg.fn 280 = some _ from rfl) s_own
theorem s_image_303 : S_image pg 303 := t_l03Image (show pg.fn 303 = some _ from rfl) s_copyT_280
theorem s_d3 : S_d3 pg := t_d3 (show pg.fn 401 = some _ from rfl) s_nxt s_dtb s_dpm s_image_303
theorem s_d3a : S_d3a pg := t_d3a (show pg.fn 322 = some _ from rfl) s_nxt s_d3 s_dpm
theorem s_drR_190 : S_drR pg 190 := t_dRS (show pg.fn 190 = some _ from rfl) s_from s_d3a
theorem s_in_35 : S_in pg 35 := t_within (show pg.fn 35 = some _ from rfl)
theorem s_allWithin : S_allWithin pg := t_allWithin (show pg.fn 54 = some _ from rfl) s_in_35
theorem s_isTable1 : S_isTable1 pg := t_isTable1 (show pg.fn 64 = some _ from rfl) s_allWithin
theorem s_indexFunc : S_indexFunc pg := t_indexFunc (show pg.fn 70 = some _ from rfl)
theorem s_containsFunc : S_containsFunc pg := t_containsFunc (show pg.fn 63 = some _ from rfl) s_indexFunc
theorem s_table_50 : S_table pg 50 := t_isTable (show pg.fn 50 = some _ from rfl) s_in_35 s_isTable1 s_containsFunc
theorem s_isPermuted : S_isPermuted pg := t_isPermuted (show pg.fn 66 = some _ from rfl) s_in_35
theorem s_permRows1 : S_permRows1 pg := t_permRows1 (show pg.fn 65 = some _ from rfl) s_isPermuted
theorem s_permRows : S_permRows pg := t_permRows (show pg.fn 51 = some _ from rfl) s_permRows1 s_containsFunc
theorem s_rackFault_52 : S_rackFault pg 52 := t_rf52 (show pg.fn 52 = some _ from rfl)
theorem s_isRk_33 : S_isRk pg 33 := t_IsRack (show pg.fn 33 = some _ from rfl) s_table_50 s_permRows s_rackFault_52
theorem s_tableBy : S_tableBy pg := t_tableBy (show pg.fn 376 = some _ from rfl)
theorem s_sol1_391_false : S_sol1 pg 391 false := t_solutionBy1 (show pg.fn 391 = some _ from rfl)
theorem s_sol1_392_true : S_sol1 pg 392 true := t_solutionBy2 (show pg.fn 392 = some _ from rfl)
theorem s_solBy : S_solBy pg := t_solutionBy (show pg.fn 308 = some _ from rfl) s_tableBy s_sol1_391_false s_sol1_392_true
theorem s_rso1 : S_rso1 pg := t_rso1 (show pg.fn 402 = some _ from rfl)
theorem s_rso_323 : S_rso pg 323 := t_rs323 (show pg.fn 323 = some _ from rfl) s_solBy s_rso1
theorem s_rks_191 : S_rks pg 191 := t_rks191 (show pg.fn 191 = some _ from rfl) s_isRk_33 s_rso_323
theorem s_in_30 : S_in pg 30 := t_l01In (show pg.fn 30 = some _ from rfl)
theorem s_table_46 : S_table pg 46 := t_l01Table (show pg.fn 46 = some _ from rfl) s_in_30
theorem s_perm_47 : S_perm pg 47 := t_l01Perm (show pg.fn 47 = some _ from rfl) s_in_30 s_has
theorem s_rackFault_48 : S_rackFault pg 48 := t_rf48 (show pg.fn 48 = some _ from rfl)
theorem s_isRk_28 : S_isRk pg 28 := t_l03Is (show pg.fn 28 = some _ from rfl) s_table_46 s_perm_47 s_rackFault_48
theorem s_rso_324 : S_rso pg 324 := t_rs324 (show pg.fn 324 = some _ from rfl) s_copyT_280
theorem s_rks_192 : S_rks pg 192 := t_rks192 (show pg.fn 192 = some _ from rfl) s_isRk_28 s_rso_324
theorem s_likeI : S_likeI pg := t_likeI (show pg.fn 141 = some _ from rfl)
theorem s_same9 : S_same9 pg := t_same9 (show pg.fn 178 = some _ from rfl) s_likeI
theorem s_sol9 : S_sol9 pg := t_sol9 (show pg.fn 193 = some _ from rfl) s_same9
theorem s_sol90 : S_sol90 pg := t_sol90 (show pg.fn 193 = some _ from rfl) s_same9
theorem s_pairMap_59 : S_pairMap pg 59 := t_isPairMap (show pg.fn 59 = some _ from rfl) s_table_50
theorem s_turn1 : S_turn1 pg := t_turn1 (show pg.fn 377 = some _ from rfl)
theorem s_turn_267 : S_turn pg 267 := t_transposed (show pg.fn 267 = some _ from rfl) s_tableBy s_turn1
theorem s_nonDeg_285 : S_nonDeg pg 285 := t_isNondeg (show pg.fn 285 = some _ from rfl) s_permRows s_turn_267
theorem s_ndI : S_ndI pg := t_ndI (show pg.fn 159 = some _ from rfl) s_pairMap_59 s_nonDeg_285
theorem s_coll60 : S_coll60 pg := t_coll60 (show pg.fn 60 = some _ from rfl)
theorem s_fault61 : S_fault61 pg := t_fault61 (show pg.fn 61 = some _ from rfl)
theorem s_isSol_42 : S_isSol pg 42 := t_IsSolution (show pg.fn 42 = some _ from rfl) s_pairMap_59 s_coll60 s_fault61
theorem s_indexIn_384 : S_indexIn pg 384 := t_slicesIndex (show pg.fn 384 = some _ from rfl)
theorem s_indexIn_287 : S_indexIn pg 287 := t_indexIn (show pg.fn 287 = some _ from rfl) s_indexIn_384
theorem s_raV : S_raV pg := t_raV (show pg.fn 383 = some _ from rfl) s_indexIn_287
theorem s_rackOf_286 : S_rackOf pg 286 := t_derivedRack (show pg.fn 286 = some _ from rfl) s_tableBy s_raV
theorem s_dr_148 : S_dr pg 148 := t_dr_impl (show pg.fn 148 = some _ from rfl) s_isSol_42 s_nonDeg_285 s_rackOf_286
theorem s_sqF : S_sqF pg := t_sqF (show pg.fn 194 = some _ from rfl) s_pairMap_59
theorem s_twice_298 : S_twice pg 298 := t_isInvolutive (show pg.fn 298 = some _ from rfl)
theorem s_ivI : S_ivI pg := t_ivI (show pg.fn 160 = some _ from rfl) s_pairMap_59 s_twice_298
theorem s_kink2 : S_kink2 pg := t_kink2 (show pg.fn 326 = some _ from rfl)
theorem s_incr : S_incr pg := t_increasing (show pg.fn 403 = some _ from rfl)
theorem s_isId : S_isId pg := t_isId (show pg.fn 325 = some _ from rfl) s_incr
theorem s_quan : S_quan pg := t_quan (show pg.fn 195 = some _ from rfl) s_isRk_33 s_kink2 s_isId
theorem s_rackBy1 : S_rackBy1 pg := t_rackBy1 (show pg.fn 404 = some _ from rfl)
theorem s_rackBy : S_rackBy pg := t_rackBy (show pg.fn 327 = some _ from rfl) s_tableBy s_rackBy1
theorem s_triv1 : S_triv1 pg := t_triv1 (show pg.fn 328 = some _ from rfl)
theorem s_triv : S_triv pg := t_triv (show pg.fn 196 = some _ from rfl) s_in_35 s_rackBy s_triv1
theorem s_law95 : S_law95 pg := t_law95 (show pg.fn 95 = some _ from rfl) s_big s_drR_190 s_rks_191 s_rks_192 s_sol9 s_sol90 s_ndI s_dr_148 s_sqF s_ivI s_quan s_triv s_isSol_42 s_same9
theorem own : ownKnob Try.prog.godebug = none := by kernel_rfl
theorem part_le {H : Type} {d : DataW H} {l : List (DataW H)} (h : d ∈ l) : Rows.uptoBulk d ≤ Rows.uptoBulkAll l := by
 induction l with
 | nil => cases h
 | cons x r ih =>
  simp only [Rows.uptoBulkAll]
  cases List.mem_cons.1 h with
  | inl e => subst e; omega
  | inr e => have := ih e; omega
theorem one_le {H : Type} (d : DataW H) : 1 ≤ Rows.uptoBulk d := by
 cases d with
 | lit l => cases l <;> simp [Rows.uptoBulk]
 | _ => simp [Rows.uptoBulk]
theorem length_le {H : Type} (l : List (DataW H)) : l.length ≤ Rows.uptoBulkAll l := by
 induction l with
 | nil => simp [Rows.uptoBulkAll]
 | cons x r ih => have := one_le x; simp only [Rows.uptoBulkAll, List.length_cons]; omega
theorem bulk {H : Type} : Bulk (H := H) Rows.uptoBulk :=
 ⟨fun es rest => by have := length_le es; simp only [Rows.uptoBulk]; omega,
  fun es rest d h => by have := part_le h; simp only [Rows.uptoBulk]; omega,
  fun ps d h => by have := part_le h; simp only [Rows.uptoBulk]; omega⟩
theorem bound {H : Type} {l : List (DataW H)} (hk : Rows.uptoSmall H l = true) : Rows.uptoBulkAll l ≤ 1048576 := by
 simpa [Rows.uptoSmall] using hk
theorem laid : laidOutB Try.prog = true := by kernel_rfl
theorem read35 : Try.prog.readableRec 35 = true ∧ 35 < Try.prog.types.size := ⟨by kernel_rfl, of_decide_eq_true (by kernel_rfl)⟩
set_option maxRecDepth 100000 in
theorem contract (H : Type) (enc : TypeId × Value → H) (W : World) (base : Nat) (args : Array Value) (ds gs : List (DataW H)) (before : List MemPlace)
 (hval : ∀ (j : Nat) t v, Try.f4.params[j]? = some t → args[j]? = some v → Value.okWide Try.prog W .any base t v)
 (hW : DataW.Whole enc Try.prog Try.f4.params.toList Rows.fnRackSolutionsSpec.vars false W args.toList ds gs before) (hk : Rows.uptoSmall H (ds ++ gs) = true) :
 Calls Try.prog 4 args W fun e W' => ∃ v, e = .returned v ∧ Rows.fnRackSolutionsSpec.post enc Try.prog Try.f4 false true false false W args v W' := by
 have hW' := hW
 obtain ⟨p, q, hA, hV, rfl, hfz, hnd⟩ := hW
 rw [Try.params4] at hA hval
 obtain ⟨v0, vs0, d0, ds0, p0, q0, hargs, rfl, rfl, h0, r0⟩ := Go.ChangeShapes.trodAll_cons hA
 obtain ⟨rfl, rfl, rfl⟩ := Go.ChangeShapes.trodAll_nil r0
 obtain rfl : args = #[v0] := by cases args; simp_all
 have hb := bound hk
 have hb0 : Rows.uptoBulk d0 ≤ 1048576 := Nat.le_trans (part_le (by simp)) hb
 obtain ⟨a0, g0, x0⟩ := open_argB (fm := fm) bulk Try.underlying35 Try.underlying5 (by kernel_rfl) (hval 0 35 v0 rfl rfl) h0
 obtain ⟨args', hc⟩ := s_law95 a0 ⟨Nat.le_trans x0.1 hb0, x0.2⟩
 refine (run_true (pact hc) (by simp) rfl (fun s t ht => ?_)).mono fun e W' ⟨he, hg⟩ => ?_
 · match s, ht with
   | 0, ht =>
    cases ht
    exact g0
 · subst he
   exact ⟨_, rfl, post_true hW' hg rfl rfl (by kernel_rfl) laid (fun t ht => by rw [Try.params4] at ht; simp at ht; rcases ht with rfl <;> first | exact read35) rfl⟩
set_option maxRecDepth 100000 in
theorem lifted (os : Os) (started : os.Started) (H : Type) (enc : TypeId × Value → H) (F : Stop.Interp) :
 ReturnsInHanded {} Try.checked os 4 .any ((Rows.OpenSpec.upto Rows.fnRackSolutionsSpec).pre6 enc Try.prog Try.f4 Rows.fnRackSolutionsUptoRow.domain false) (((Rows.OpenSpec.upto Rows.fnRackSolutionsSpec).at F).post enc Try.prog Try.f4 false true false false) := by
 refine returnsInHanded_of_cond (C := Try.checked) (s := Rows.OpenSpec.upto Rows.fnRackSolutionsSpec) (k := Rows.uptoSmall) rfl own started (by kernel_rfl) Try.func4
  (OpenSpec.witness (enc := enc) (C := Try.checked) (s := Rows.OpenSpec.upto Rows.fnRackSolutionsSpec) (k := Rows.uptoSmall) rfl false ⟨#[], #[.slice none 0 0], []⟩ 8 (by kernel_rfl) (by kernel_rfl) (by kernel_rfl)
   (x := ([.nil], [], [])) (by kernel_rfl) rfl (by kernel_rfl)) ?_
 intro W base args ds gs before hval hW _ hk _
 exact contract H enc W base args ds gs before hval hW hk
theorem over : Rows.fnRackSolutionsUptoRow.holds Try.pinned (Rows.OpenSpec.upto Rows.fnRackSolutionsSpec) :=
 OpenClaim.holds_of_cond 4 Try.f4 rfl rfl rfl rfl rfl rfl rfl ⟨rfl, rfl, rfl, rfl, rfl⟩ rfl rfl rfl rfl rfl (by kernel_rfl) Try.func4 (by kernel_rfl)
  (of_decide_eq_true (by kernel_rfl)) (by unfold Func.isWrapper; first | (rw [if_pos (by decide +kernel)]; kernel_rfl) | (rw [if_neg (by decide +kernel)]; exact ⟨rfl, rfl⟩))
  (fun os started H enc _ F => lifted os started H enc F)
theorem proved : Rows.FnRackSolutionsUptoSaid :=
 over
end Go.Proofs.Ytkcgdmjdkbgmkaa.fnRackSolutions
