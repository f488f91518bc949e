/- The program's GarsideWord returns what the reference's returns, for all arguments that hold together at most 1048576 values. -/
import Derived.Test.YtmfppjjjamemnaaTie
import Derived.Test.YtmfppjjjamemnaaP1
import Derived.Test.YtmfppjjjamemnaaP2
namespace Go.Proofs.Ytmfppjjjamemnaa.fnExactGarsideWord
open Go.Mch Tie
theorem s_in_30 : S_in pg 30 := t_l01In (show pg.fn 30 = some _ from rfl)
theorem s_table_46 : S_table pg 46 := t_l01Table (show pg.fn 46 = some _ from rfl) s_in_30
theorem s_pairMap_56 : S_pairMap pg 56 := t_l02Map (show pg.fn 56 = some _ from rfl) s_table_46
theorem s_coll57 : S_coll57 pg := t_coll57 (show pg.fn 57 = some _ from rfl)
theorem s_own : S_own pg := t_own (show pg.fn 31 = some _ from rfl)
theorem s_do_68 : S_do pg 68 := do_of (show pg.fn 68 = some _ from rfl) s_own
theorem s_same : S_same pg := t_same (show pg.fn 67 = some _ from rfl)
theorem s_fault58 : S_fault58 pg := t_fault58 (show pg.fn 58 = some _ from rfl) s_do_68 s_same
theorem s_isSol_41 : S_isSol pg 41 := t_l02Is (show pg.fn 41 = some _ from rfl) s_pairMap_56 s_coll57 s_fault58
theorem s_index : S_index pg := t_index (show pg.fn 69 = some _ from rfl)
theorem s_has : S_has pg := t_has (show pg.fn 62 = some _ from rfl) s_index
theorem s_perm_47 : S_perm pg 47 := t_l01Perm (show pg.fn 47 = some _ from rfl) s_in_30 s_has
theorem s_l01Rows : S_l01Rows pg := t_l01Rows (show pg.fn 410 = some _ from rfl) s_perm_47
theorem s_column : S_column pg := t_column (show pg.fn 375 = some _ from rfl)
theorem s_turn_265 : S_turn pg 265 := t_l01Turn (show pg.fn 265 = some _ from rfl) s_column
theorem s_nonDeg_350 : S_nonDeg pg 350 := t_l02Good (show pg.fn 350 = some _ from rfl) s_l01Rows s_turn_265
theorem s_twice_351 : S_twice pg 351 := t_l02Twice (show pg.fn 351 = some _ from rfl)
theorem s_empty : S_empty pg := t_l02Empty (show pg.fn 398 = some _ from rfl)
theorem s_inv406 : S_inv406 pg := t_l02Inverse (show pg.fn 406 = some _ from rfl) s_empty
theorem s_less : S_less pg := t_l01Less (show pg.fn 408 = some _ from rfl)
theorem s_put : S_put pg := t_l01Put (show pg.fn 349 = some _ from rfl) s_less s_same
theorem s_copyT_280 : S_copyT pg 280 := t_l01Own2 (show pg.fn 280 = some _ from rfl) s_own
theorem s_class : S_class pg := t_l09Class (show pg.fn 339 = some _ from rfl) s_inv406 s_own s_do_68 s_put s_copyT_280
theorem s_normals : S_normals pg := t_l09Normals (show pg.fn 296 = some _ from rfl) s_class
theorem s_gaS : S_gaS pg := t_ga_spec (show pg.fn 255 = some _ from rfl) s_isSol_41 s_nonDeg_350 s_twice_351 s_normals s_class s_has
theorem s_in_35 : S_in pg 35 := t_within (show pg.fn 35 = some _ from rfl)
theorem s_allWithin : S_allWithin pg := t_allWithin (show pg.fn 54 = some _ from rfl) s_in_35
theorem s_isTable1 : S_isTable1 pg := t_isTable1 (show pg.fn 64 = some _ from rfl) s_allWithin
theorem s_indexFunc : S_indexFunc pg := t_indexFunc (show pg.fn 70 = some _ from rfl)
theorem s_containsFunc : S_containsFunc pg := t_containsFunc (show pg.fn 63 = some _ from rfl) s_indexFunc
theorem s_table_50 : S_table pg 50 := t_isTable (show pg.fn 50 = some _ from rfl) s_in_35 s_isTable1 s_containsFunc
theorem s_pairMap_59 : S_pairMap pg 59 := t_isPairMap (show pg.fn 59 = some _ from rfl) s_table_50
theorem s_coll60 : S_coll60 pg := t_coll60 (show pg.fn 60 = some _ from rfl)
theorem s_fault61 : S_fault61 pg := t_fault61 (show pg.fn 61 = some _ from rfl)
theorem s_isSol_42 : S_isSol pg 42 := t_IsSolution (show pg.fn 42 = some _ from rfl) s_pairMap_59 s_coll60 s_fault61
theorem s_isPermuted : S_isPermuted pg := t_isPermuted (show pg.fn 66 = some _ from rfl) s_in_35
theorem s_permRows1 : S_permRows1 pg := t_permRows1 (show pg.fn 65 = some _ from rfl) s_isPermuted
theorem s_permRows : S_permRows pg := t_permRows (show pg.fn 51 = some _ from rfl) s_permRows1 s_containsFunc
theorem s_tableBy : S_tableBy pg := t_tableBy (show pg.fn 376 = some _ from rfl)
theorem s_turn1 : S_turn1 pg := t_turn1 (show pg.fn 377 = some _ from rfl)
theorem s_turn_267 : S_turn pg 267 := t_transposed (show pg.fn 267 = some _ from rfl) s_tableBy s_turn1
theorem s_nonDeg_285 : S_nonDeg pg 285 := t_isNondeg (show pg.fn 285 = some _ from rfl) s_permRows s_turn_267
theorem s_twice_298 : S_twice pg 298 := t_isInvolutive (show pg.fn 298 = some _ from rfl)
theorem s_digI : S_digI pg := t_tupleOf (show pg.fn 262 = some _ from rfl)
theorem s_clone : S_clone pg := t_clone (show pg.fn 36 = some _ from rfl)
theorem s_copyT_275 : S_copyT pg 275 := t_cloneTable (show pg.fn 275 = some _ from rfl) s_clone
theorem s_inv411 : S_inv411 pg := t_InverseSolution (show pg.fn 411 = some _ from rfl) s_isSol_42 s_copyT_275
theorem s_text : S_text pg := t_digitsText (show pg.fn 312 = some _ from rfl)
theorem s_do_44 : S_do pg 44 := t_moved (show pg.fn 44 = some _ from rfl) s_clone
theorem s_len_442 : S_len pg 442 := t_len64 (show pg.fn 442 = some _ from rfl)
theorem s_len_394 : S_len pg 394 := t_len (show pg.fn 394 = some _ from rfl) s_len_442
theorem s_nan : S_nan pg := t_isNaN (show pg.fn 443 = some _ from rfl)
theorem s_cmpI : S_cmpI pg := t_cmpI (show pg.fn 395 = some _ from rfl) s_nan
theorem s_cmpL : S_cmpL pg := t_cmpL (show pg.fn 314 = some _ from rfl) s_cmpI
theorem s_insSort : S_insSort pg := t_insSort (show pg.fn 433 = some _ from rfl) s_cmpL
theorem s_sift : S_sift pg := t_siftDown (show pg.fn 450 = some _ from rfl) s_cmpL
theorem s_heap : S_heap pg := t_heapSort (show pg.fn 434 = some _ from rfl) s_sift
theorem s_np2 : S_np2 pg := t_nextPowerOfTwo (show pg.fn 451 = some _ from rfl) s_len_394
theorem s_next : S_next pg := t_next (show pg.fn 452 = some _ from rfl)
theorem s_brk : S_brk pg := t_breakPatterns (show pg.fn 435 = some _ from rfl) s_np2 s_next
theorem s_ord2 : S_ord2 pg := t_order2 (show pg.fn 465 = some _ from rfl) s_cmpL
theorem s_med : S_med pg := t_median (show pg.fn 454 = some _ from rfl) s_ord2
theorem s_madj : S_madj pg := t_medianAdjacent (show pg.fn 453 = some _ from rfl) s_med
theorem s_piv : S_piv pg := t_choosePivot (show pg.fn 436 = some _ from rfl) s_madj s_med
theorem s_revR : S_revR pg := t_reverseRange (show pg.fn 437 = some _ from rfl)
theorem s_pins : S_pins pg := t_partialInsertionSort (show pg.fn 438 = some _ from rfl) s_cmpL
theorem s_part : S_part pg := t_partition (show pg.fn 440 = some _ from rfl) s_cmpL
theorem s_pdq : S_pdq pg := t_pdq (show pg.fn 393 = some _ from rfl) s_insSort s_heap s_brk s_piv s_revR s_pins s_part s_cmpL
theorem s_sort : S_sort pg := t_sortFunc (show pg.fn 313 = some _ from rfl) s_len_394 s_pdq
theorem s_wordClass : S_wordClass pg := t_wordClass (show pg.fn 352 = some _ from rfl) s_inv411 s_clone s_text s_do_44 s_sort
theorem s_numI : S_numI pg := t_numberOf (show pg.fn 263 = some _ from rfl)
theorem s_normI : S_normI pg := t_normalWords (show pg.fn 294 = some _ from rfl) s_digI s_wordClass s_numI
theorem s_idxB : S_idxB pg := t_idxB (show pg.fn 426 = some _ from rfl)
theorem s_hasB : S_hasB pg := t_hasB (show pg.fn 372 = some _ from rfl) s_idxB
theorem s_ga_256 : S_ga pg 256 := t_ga_impl (show pg.fn 256 = some _ from rfl) s_isSol_42 s_nonDeg_285 s_twice_298 s_normI s_wordClass s_hasB
theorem s_szI : S_szI pg := t_szI (show pg.fn 45 = some _ from rfl)
theorem s_szT : S_szT pg := t_szT (show pg.fn 27 = some _ from rfl) s_szI
theorem s_szSol : S_szSol pg := t_szSol (show pg.fn 14 = some _ from rfl) s_szT
theorem s_toI : S_toI pg := t_toI (show pg.fn 7 = some _ from rfl)
theorem s_toT : S_toT pg := t_toT (show pg.fn 32 = some _ from rfl) s_toI
theorem s_toSol : S_toSol pg := t_toSol (show pg.fn 16 = some _ from rfl) s_toT
theorem s_eqI : S_eqI pg := t_eqI (show pg.fn 9 = some _ from rfl)
theorem s_eqT : S_eqT pg := t_eqT (show pg.fn 21 = some _ from rfl) s_eqI
theorem s_eqSol : S_eqSol pg := t_eqSol (show pg.fn 18 = some _ from rfl) s_eqT
theorem s_markI : S_markI pg := t_markI (show pg.fn 12 = some _ from rfl)
theorem s_markT : S_markT pg := t_markT (show pg.fn 23 = some _ from rfl) s_markI
theorem s_markSol : S_markSol pg := t_markSol (show pg.fn 22 = some _ from rfl) s_markT
theorem s_heldI : S_heldI pg := t_heldI (show pg.fn 13 = some _ from rfl)
theorem s_law122 : S_law122 pg := t_law122 (show pg.fn 122 = some _ from rfl) s_gaS s_ga_256 s_szSol s_toSol s_eqSol s_eqI s_markSol s_markI s_heldI
theorem own : ownKnob Try.prog.godebug = none := by kernel_rfl
theorem part_le {H : Type} {d : DataW H} {l : List (DataW H)} (h : d ∈ l) : Rows.uptoBulk d ≤ Rows.uptoBulkAll l := by
  induction l with
  | nil => cases h
  | cons x r ih =>
    simp only [Rows.uptoBulkAll]
    cases List.mem_cons.1 h with
    | inl e => subst e; omega
    | inr e => have := ih e; omega
theorem one_le {H : Type} (d : DataW H) : 1 ≤ Rows.uptoBulk d := by
  cases d with
  | lit l => cases l <;> simp [Rows.uptoBulk]
  | _ => simp [Rows.uptoBulk]
theorem length_le {H : Type} (l : List (DataW H)) : l.length ≤ Rows.uptoBulkAll l := by
  induction l with
  | nil => simp [Rows.uptoBulkAll]
  | cons x r ih => have := one_le x; simp only [Rows.uptoBulkAll, List.length_cons]; omega
theorem bulk {H : Type} : Bulk (H := H) Rows.uptoBulk :=
  ⟨fun es rest => by have := length_le es; simp only [Rows.uptoBulk]; omega,
   fun es rest d h => by have := part_le h; simp only [Rows.uptoBulk]; omega,
   fun ps d h => by have := part_le h; simp only [Rows.uptoBulk]; omega⟩
theorem bound {H : Type} {l : List (DataW H)} (hk : Rows.uptoSmall H l = true) : Rows.uptoBulkAll l ≤ 1048576 := by
  simpa [Rows.uptoSmall] using hk
theorem laid : laidOutB Try.prog = true := by kernel_rfl
theorem read24 : Try.prog.readableRec 24 = true ∧ 24 < Try.prog.types.size := ⟨by kernel_rfl, of_decide_eq_true (by kernel_rfl)⟩
set_option maxRecDepth 100000 in
theorem contract (H : Type) (enc : TypeId × Value → H) (W : World) (base : Nat) (args : Array Value) (ds gs : List (DataW H)) (before : List MemPlace)
    (hval : ∀ (j : Nat) t v, Try.f13.params[j]? = some t → args[j]? = some v → Value.okWide Try.prog W .any base t v)
    (hW : DataW.Whole enc Try.prog Try.f13.params.toList Rows.fnExactGarsideWordSpec.vars false W args.toList ds gs before) (hk : Rows.uptoSmall H (ds ++ gs) = true) :
    Calls Try.prog 13 args W fun e W' => ∃ v, e = .returned v ∧ Rows.fnExactGarsideWordSpec.post enc Try.prog Try.f13 false true false false W args v W' := by
  have hW' := hW
  obtain ⟨p, q, hA, hV, rfl, hfz, hnd⟩ := hW
  rw [Try.params13] at hA hval
  obtain ⟨v0, vs0, d0, ds0, p0, q0, hargs, rfl, rfl, h0, r0⟩ := Go.ChangeShapes.trodAll_cons hA
  obtain ⟨rfl, rfl, rfl⟩ := Go.ChangeShapes.trodAll_nil r0
  obtain rfl : args = #[v0] := by cases args; simp_all
  have hb := bound hk
  have hb0 : Rows.uptoBulk d0 ≤ 1048576 := Nat.le_trans (part_le (by simp)) hb
  obtain ⟨a0, b0, g0, x0, y0⟩ := open_sol (fm := fm) bulk Try.underlying24 Try.underlying22 Try.underlying22 Try.underlying25 Try.underlying2 (by kernel_rfl) (by kernel_rfl) (by kernel_rfl) (by kernel_rfl) (by kernel_rfl) rfl rfl (hval 0 24 v0 rfl rfl) h0
  obtain ⟨args', hc⟩ := s_law122 a0 b0 ⟨by omega, fun q hq => by have := (x0.2 q hq).1; omega⟩ ⟨by omega, fun q hq => by have := (y0.2 q hq).1; omega⟩
  refine (run_true (pact hc) (by simp) rfl (fun s t ht => ?_)).mono fun e W' ⟨he, hg⟩ => ?_
  · match s, ht with
    | 0, ht =>
      cases ht
      exact g0
  · subst he
    exact ⟨_, rfl, post_true hW' hg rfl rfl (by kernel_rfl) laid (fun t ht => by rw [Try.params13] at ht; simp at ht; rcases ht with rfl <;> first | exact read24) rfl⟩
set_option maxRecDepth 100000 in
theorem lifted (os : Os) (started : os.Started) (H : Type) (enc : TypeId × Value → H) (F : Stop.Interp) :
    ReturnsInHanded {} Try.checked os 13 .any ((Rows.OpenSpec.upto Rows.fnExactGarsideWordSpec).pre6 enc Try.prog Try.f13 Rows.fnExactGarsideWordUptoRow.domain false) (((Rows.OpenSpec.upto Rows.fnExactGarsideWordSpec).at F).post enc Try.prog Try.f13 false true false false) := by
  refine returnsInHanded_of_cond (C := Try.checked) (s := Rows.OpenSpec.upto Rows.fnExactGarsideWordSpec) (k := Rows.uptoSmall) rfl own started (by kernel_rfl) Try.func13
    (OpenSpec.witness (enc := enc) (C := Try.checked) (s := Rows.OpenSpec.upto Rows.fnExactGarsideWordSpec) (k := Rows.uptoSmall) rfl false ⟨#[], #[.agg #[.slice none 0 0, .slice none 0 0]], []⟩ 8 (by kernel_rfl) (by kernel_rfl) (by kernel_rfl)
      (x := ([.agg [.nil, .nil]], [], [])) (by kernel_rfl) rfl (by kernel_rfl)) ?_
  intro W base args ds gs before hval hW _ hk _
  exact contract H enc W base args ds gs before hval hW hk
theorem over : Rows.fnExactGarsideWordUptoRow.holds Try.pinned (Rows.OpenSpec.upto Rows.fnExactGarsideWordSpec) :=
  OpenClaim.holds_of_cond 13 Try.f13 rfl rfl rfl rfl rfl rfl rfl ⟨rfl, rfl, rfl, rfl, rfl⟩ rfl rfl rfl rfl rfl (by kernel_rfl) Try.func13 (by kernel_rfl)
    (of_decide_eq_true (by kernel_rfl)) (by unfold Func.isWrapper; first | (rw [if_pos (by decide +kernel)]; kernel_rfl) | (rw [if_neg (by decide +kernel)]; exact ⟨rfl, rfl⟩))
    (fun os started H enc _ F => lifted os started H enc F)
theorem proved : Rows.FnExactGarsideWordUptoSaid :=
  over
end Go.Proofs.Ytmfppjjjamemnaa.fnExactGarsideWord
