/- The law FnGuitar returns true for all arguments that hold together at most 1048576 values. -/
import Derived.Test.YtkcgdmjdkbgmkaaTie
import Derived.Test.YtkcgdmjdkbgmkaaP1
import Derived.Test.YtkcgdmjdkbgmkaaP2
namespace Go.Proofs.Ytkcgdmjdkbgmkaa.fnGuitar
open Go.Mch Tie
theorem s_big : S_big pg := t_big (show pg.fn 128 = some _ from rfl)
theorem s_from : S_from pg := t_from (show pg.fn 269 = some _ from rfl)
theorem s_nxt : S_nxt pg := t_nxt (show pg.fn 336 = some _ from rfl)
theorem s_dpm : S_dpm pg := t_dpm (show pg.fn 338 = some _ from rfl) s_nxt
theorem s_own : S_own pg := t_own (show pg.fn 31 = some _ from rfl)
theorem s_alx : S_alx pg := t_alx (show pg.fn 455 = some _ from rfl)
theorem s_cop : S_cop pg := t_cop (show pg.fn 456 = some _ from rfl)
theorem s_index : S_index pg := t_index (show pg.fn 69 = some _ from rfl)
theorem s_has : S_has pg := t_has (show pg.fn 62 = some _ from rfl) s_index
theorem s_grw_3 : S_grw pg 3 := t_grw3 (show pg.fn 466 = some _ from rfl) s_has s_own
theorem s_perms3 : S_perms3 pg := t_perms3 (show pg.fn 457 = some _ from rfl) s_grw_3
theorem s_inv_304 : S_inv pg 304 := t_l01Back (show pg.fn 304 = some _ from rfl)
theorem s_then_279 : S_then pg 279 := t_l01Then (show pg.fn 279 = some _ from rfl)
theorem s_same : S_same pg := t_same (show pg.fn 67 = some _ from rfl)
theorem s_dtb : S_dtb pg := t_dtb (show pg.fn 444 = some _ from rfl) s_nxt s_dpm s_own s_alx s_cop s_perms3 s_inv_304 s_then_279 s_same
theorem s_copyT_280 : S_copyT pg 280 := t_l01Own2 (show pg.fn 280 = some _ from rfl) s_own
theorem s_image_303 : S_image pg 303 := t_l03Image (show pg.fn 303 = some _ from rfl) s_copyT_280
theorem s_d3 : S_d3 pg := t_d3 (show pg.fn 401 = some _ from rfl) s_nxt s_dtb s_dpm s_image_303
theorem s_s3 : S_s3 pg := t_s3 (show pg.fn 324 = some _ from rfl) s_copyT_280
theorem s_in_30 : S_in pg 30 := t_l01In (show pg.fn 30 = some _ from rfl)
theorem s_table_46 : S_table pg 46 := t_l01Table (show pg.fn 46 = some _ from rfl) s_in_30
theorem s_perm_47 : S_perm pg 47 := t_l01Perm (show pg.fn 47 = some _ from rfl) s_in_30 s_has
theorem s_rackFault_48 : S_rackFault pg 48 := t_rf48 (show pg.fn 48 = some _ from rfl)
theorem s_isRk_28 : S_isRk pg 28 := t_l03Is (show pg.fn 28 = some _ from rfl) s_table_46 s_perm_47 s_rackFault_48
theorem s_eqTb_302 : S_eqTb pg 302 := t_l01Same2 (show pg.fn 302 = some _ from rfl) s_same
theorem s_tw_170 : S_tw pg 170 := t_tw_spec (show pg.fn 170 = some _ from rfl) s_isRk_28 s_perm_47 s_image_303 s_eqTb_302 s_inv_304
theorem s_unit : S_unit pg := t_unit (show pg.fn 334 = some _ from rfl)
theorem s_twst : S_twst pg := t_twst (show pg.fn 425 = some _ from rfl) s_own
theorem s_flp : S_flp pg := t_flp (show pg.fn 449 = some _ from rfl) s_unit s_twst
theorem s_poly : S_poly pg := t_poly (show pg.fn 423 = some _ from rfl)
theorem s_prd : S_prd pg := t_prd (show pg.fn 458 = some _ from rfl)
theorem s_drw : S_drw pg := t_drw (show pg.fn 368 = some _ from rfl) s_nxt s_unit
theorem s_twd : S_twd pg := t_twd (show pg.fn 459 = some _ from rfl) s_nxt s_drw s_unit s_then_279 s_twst
theorem s_uni : S_uni pg := t_uni (show pg.fn 460 = some _ from rfl)
theorem s_ivl : S_ivl pg := t_ivl (show pg.fn 461 = some _ from rfl) s_copyT_280 s_index
theorem s_empty : S_empty pg := t_l02Empty (show pg.fn 398 = some _ from rfl)
theorem s_invW : S_invW pg := t_invW (show pg.fn 406 = some _ from rfl) s_empty
theorem s_any : S_any pg := t_any (show pg.fn 445 = some _ from rfl) s_nxt s_flp s_poly s_prd s_twd s_uni s_ivl s_invW
theorem s_image_367 : S_image pg 367 := t_rename (show pg.fn 367 = some _ from rfl)
theorem s_renS : S_renS pg := t_renS (show pg.fn 422 = some _ from rfl) s_image_367
theorem s_dr2 : S_dr2 pg := t_dr2 (show pg.fn 412 = some _ from rfl) s_nxt s_any s_drw s_renS
theorem s_d6 : S_d6 pg := t_d6 (show pg.fn 354 = some _ from rfl) s_nxt s_d3 s_s3 s_tw_170 s_dr2
theorem s_drS_233 : S_drS pg 233 := t_dDR (show pg.fn 233 = some _ from rfl) s_from s_nxt s_d6
theorem s_dtu : S_dtu pg := t_dtu (show pg.fn 311 = some _ from rfl) s_nxt
theorem s_drU_216 : S_drU pg 216 := t_dGM (show pg.fn 216 = some _ from rfl) s_from s_drS_233 s_dtu
theorem s_in_35 : S_in pg 35 := t_within (show pg.fn 35 = some _ from rfl)
theorem s_allWithin : S_allWithin pg := t_allWithin (show pg.fn 54 = some _ from rfl) s_in_35
theorem s_isTable1 : S_isTable1 pg := t_isTable1 (show pg.fn 64 = some _ from rfl) s_allWithin
theorem s_indexFunc : S_indexFunc pg := t_indexFunc (show pg.fn 70 = some _ from rfl)
theorem s_containsFunc : S_containsFunc pg := t_containsFunc (show pg.fn 63 = some _ from rfl) s_indexFunc
theorem s_table_50 : S_table pg 50 := t_isTable (show pg.fn 50 = some _ from rfl) s_in_35 s_isTable1 s_containsFunc
theorem s_pairMap_59 : S_pairMap pg 59 := t_isPairMap (show pg.fn 59 = some _ from rfl) s_table_50
theorem s_coll60 : S_coll60 pg := t_coll60 (show pg.fn 60 = some _ from rfl)
theorem s_fault61 : S_fault61 pg := t_fault61 (show pg.fn 61 = some _ from rfl)
theorem s_isSol_42 : S_isSol pg 42 := t_IsSolution (show pg.fn 42 = some _ from rfl) s_pairMap_59 s_coll60 s_fault61
theorem s_areElements : S_areElements pg := t_areElements (show pg.fn 39 = some _ from rfl) s_allWithin
theorem s_tuple_34 : S_tuple pg 34 := t_isTuple (show pg.fn 34 = some _ from rfl) s_areElements
theorem s_isPermuted : S_isPermuted pg := t_isPermuted (show pg.fn 66 = some _ from rfl) s_in_35
theorem s_permRows1 : S_permRows1 pg := t_permRows1 (show pg.fn 65 = some _ from rfl) s_isPermuted
theorem s_permRows : S_permRows pg := t_permRows (show pg.fn 51 = some _ from rfl) s_permRows1 s_containsFunc
theorem s_tableBy : S_tableBy pg := t_tableBy (show pg.fn 376 = some _ from rfl)
theorem s_turn1 : S_turn1 pg := t_turn1 (show pg.fn 377 = some _ from rfl)
theorem s_turn_267 : S_turn pg 267 := t_transposed (show pg.fn 267 = some _ from rfl) s_tableBy s_turn1
theorem s_nonDeg_285 : S_nonDeg pg 285 := t_isNondeg (show pg.fn 285 = some _ from rfl) s_permRows s_turn_267
theorem s_gcode_282 : S_gcode pg 282 := t_checkGuitar (show pg.fn 282 = some _ from rfl) s_isSol_42 s_tuple_34 s_nonDeg_285
theorem s_clone : S_clone pg := t_clone (show pg.fn 36 = some _ from rfl)
theorem s_gm_146 : S_gm pg 146 := t_gm_impl (show pg.fn 146 = some _ from rfl) s_gcode_282 s_clone
theorem s_pairMap_56 : S_pairMap pg 56 := t_l02Map (show pg.fn 56 = some _ from rfl) s_table_46
theorem s_coll57 : S_coll57 pg := t_coll57 (show pg.fn 57 = some _ from rfl)
theorem s_do_68 : S_do pg 68 := do_of (show pg.fn 68 = some _ from rfl) s_own
theorem s_fault58 : S_fault58 pg := t_fault58 (show pg.fn 58 = some _ from rfl) s_do_68 s_same
theorem s_isSol_41 : S_isSol pg 41 := t_l02Is (show pg.fn 41 = some _ from rfl) s_pairMap_56 s_coll57 s_fault58
theorem s_elements : S_elements pg := t_elements (show pg.fn 49 = some _ from rfl) s_in_30
theorem s_tuple_29 : S_tuple pg 29 := t_l06Tuple (show pg.fn 29 = some _ from rfl) s_elements
theorem s_column : S_column pg := t_column (show pg.fn 375 = some _ from rfl)
theorem s_nonDeg_283 : S_nonDeg pg 283 := t_l06Plain (show pg.fn 283 = some _ from rfl) s_perm_47 s_column
theorem s_gcode_281 : S_gcode pg 281 := t_l06Code (show pg.fn 281 = some _ from rfl) s_isSol_41 s_tuple_29 s_nonDeg_283
theorem s_gm_145 : S_gm pg 145 := t_gm_spec (show pg.fn 145 = some _ from rfl) s_gcode_281
theorem s_gm1_146 : S_gm1 pg 146 := t_gm1 (show pg.fn 146 = some _ from rfl) s_gcode_282 s_clone
theorem s_gm1_145 : S_gm1 pg 145 := t_gm1s (show pg.fn 145 = some _ from rfl) s_gcode_281
theorem s_likeI : S_likeI pg := t_likeI (show pg.fn 141 = some _ from rfl)
theorem s_indexIn_384 : S_indexIn pg 384 := t_slicesIndex (show pg.fn 384 = some _ from rfl)
theorem s_indexIn_287 : S_indexIn pg 287 := t_indexIn (show pg.fn 287 = some _ from rfl) s_indexIn_384
theorem s_gb1 : S_gb1 pg := t_gb1 (show pg.fn 151 = some _ from rfl) s_gcode_282 s_clone s_indexIn_287
theorem s_raV : S_raV pg := t_raV (show pg.fn 383 = some _ from rfl) s_indexIn_287
theorem s_rackOf_286 : S_rackOf pg 286 := t_derivedRack (show pg.fn 286 = some _ from rfl) s_tableBy s_raV
theorem s_dr_148 : S_dr pg 148 := t_dr_impl (show pg.fn 148 = some _ from rfl) s_isSol_42 s_nonDeg_285 s_rackOf_286
theorem s_do_44 : S_do pg 44 := t_moved (show pg.fn 44 = some _ from rfl) s_clone
theorem s_tm_26 : S_tm pg 26 := t_tm26 (show pg.fn 26 = some _ from rfl) s_isSol_42 s_tuple_34 s_in_35 s_do_44
theorem s_rackFault_52 : S_rackFault pg 52 := t_rf52 (show pg.fn 52 = some _ from rfl)
theorem s_isRk_33 : S_isRk pg 33 := t_IsRack (show pg.fn 33 = some _ from rfl) s_table_50 s_permRows s_rackFault_52
theorem s_rm_8 : S_rm pg 8 := t_rm8 (show pg.fn 8 = some _ from rfl) s_isRk_33 s_tuple_34 s_in_35 s_clone
theorem s_law106 : S_law106 pg := t_law106 (show pg.fn 106 = some _ from rfl) s_big s_drU_216 s_gm_146 s_gm_145 s_gm1_146 s_gm1_145 s_likeI s_gb1 s_dr_148 s_tm_26 s_rm_8
theorem own : ownKnob Try.prog.godebug = none := by kernel_rfl
theorem part_le {H : Type} {d : DataW H} {l : List (DataW H)} (h : d ∈ l) : Rows.uptoBulk d ≤ Rows.uptoBulkAll l := by
 induction l with
 | nil => cases h
 | cons x r ih =>
  simp only [Rows.uptoBulkAll]
  cases List.mem_cons.1 h with
  | inl e => subst e; omega
  | inr e => have := ih e; omega
theorem one_le {H : Type} (d : DataW H) : 1 ≤ Rows.uptoBulk d := by
 cases d with
 | lit l => cases l <;> simp [Rows.uptoBulk]
 | _ => simp [Rows.uptoBulk]
theorem length_le {H : Type} (l : List (DataW H)) : l.length ≤ Rows.uptoBulkAll l := by
 induction l with
 | nil => simp [Rows.uptoBulkAll]
 | cons x r ih => have := one_le x; simp only [Rows.uptoBulkAll, List.length_cons]; omega
theorem bulk {H : Type} : Bulk (H := H) Rows.uptoBulk :=
 ⟨fun es rest => by have := length_le es; simp only [Rows.uptoBulk]; omega,
  fun es rest d h => by have := part_le h; simp only [Rows.uptoBulk]; omega,
  fun ps d h => by have := part_le h; simp only [Rows.uptoBulk]; omega⟩
theorem bound {H : Type} {l : List (DataW H)} (hk : Rows.uptoSmall H l = true) : Rows.uptoBulkAll l ≤ 1048576 := by
 simpa [Rows.uptoSmall] using hk
theorem laid : laidOutB Try.prog = true := by kernel_rfl
theorem read35 : Try.prog.readableRec 35 = true ∧ 35 < Try.prog.types.size := ⟨by kernel_rfl, of_decide_eq_true (by kernel_rfl)⟩
set_option maxRecDepth 100000 in
theorem contract (H : Type) (enc : TypeId × Value → H) (W : World) (base : Nat) (args : Array Value) (ds gs : List (DataW H)) (before : List MemPlace)
 (hval : ∀ (j : Nat) t v, Try.f6.params[j]? = some t → args[j]? = some v → Value.okWide Try.prog W .any base t v)
 (hW : DataW.Whole enc Try.prog Try.f6.params.toList Rows.fnGuitarSpec.vars false W args.toList ds gs before) (hk : Rows.uptoSmall H (ds ++ gs) = true) :
 Calls Try.prog 6 args W fun e W' => ∃ v, e = .returned v ∧ Rows.fnGuitarSpec.post enc Try.prog Try.f6 false true false false W args v W' := by
 have hW' := hW
 obtain ⟨p, q, hA, hV, rfl, hfz, hnd⟩ := hW
 rw [Try.params6] at hA hval
 obtain ⟨v0, vs0, d0, ds0, p0, q0, hargs, rfl, rfl, h0, r0⟩ := Go.ChangeShapes.trodAll_cons hA
 obtain ⟨rfl, rfl, rfl⟩ := Go.ChangeShapes.trodAll_nil r0
 obtain rfl : args = #[v0] := by cases args; simp_all
 have hb := bound hk
 have hb0 : Rows.uptoBulk d0 ≤ 1048576 := Nat.le_trans (part_le (by simp)) hb
 obtain ⟨a0, g0, x0⟩ := open_argB (fm := fm) bulk Try.underlying35 Try.underlying5 (by kernel_rfl) (hval 0 35 v0 rfl rfl) h0
 obtain ⟨args', hc⟩ := s_law106 a0 ⟨Nat.le_trans x0.1 hb0, x0.2⟩
 refine (run_true (pact hc) (by simp) rfl (fun s t ht => ?_)).mono fun e W' ⟨he, hg⟩ => ?_
 · match s, ht with
   | 0, ht =>
    cases ht
    exact g0
 · subst he
   exact ⟨_, rfl, post_true hW' hg rfl rfl (by kernel_rfl) laid (fun t ht => by rw [Try.params6] at ht; simp at ht; rcases ht with rfl <;> first | exact read35) rfl⟩
set_option maxRecDepth 100000 in
theorem lifted (os : Os) (started : os.Started) (H : Type) (enc : TypeId × Value → H) (F : Stop.Interp) :
 ReturnsInHanded {} Try.checked os 6 .any ((Rows.OpenSpec.upto Rows.fnGuitarSpec).pre6 enc Try.prog Try.f6 Rows.fnGuitarUptoRow.domain false) (((Rows.OpenSpec.upto Rows.fnGuitarSpec).at F).post enc Try.prog Try.f6 false true false false) := by
 refine returnsInHanded_of_cond (C := Try.checked) (s := Rows.OpenSpec.upto Rows.fnGuitarSpec) (k := Rows.uptoSmall) rfl own started (by kernel_rfl) Try.func6
  (OpenSpec.witness (enc := enc) (C := Try.checked) (s := Rows.OpenSpec.upto Rows.fnGuitarSpec) (k := Rows.uptoSmall) rfl false ⟨#[], #[.slice none 0 0], []⟩ 8 (by kernel_rfl) (by kernel_rfl) (by kernel_rfl)
   (x := ([.nil], [], [])) (by kernel_rfl) rfl (by kernel_rfl)) ?_
 intro W base args ds gs before hval hW _ hk _
 exact contract H enc W base args ds gs before hval hW hk
theorem over : Rows.fnGuitarUptoRow.holds Try.pinned (Rows.OpenSpec.upto Rows.fnGuitarSpec) :=
 OpenClaim.holds_of_cond 6 Try.f6 rfl rfl rfl rfl rfl rfl rfl ⟨rfl, rfl, rfl, rfl, rfl⟩ rfl rfl rfl rfl rfl (by kernel_rfl) Try.func6 (by kernel_rfl)
  (of_decide_eq_true (by kernel_rfl)) (by unfold Func.isWrapper; first | (rw [if_pos (by decide +kernel)]; kernel_rfl) | (rw [if_neg (by decide +kernel)]; exact ⟨rfl, rfl⟩))
  (fun os started H enc _ F => lifted os started H enc F)
theorem proved : Rows.FnGuitarUptoSaid :=
 over
end Go.Proofs.Ytkcgdmjdkbgmkaa.fnGuitar
