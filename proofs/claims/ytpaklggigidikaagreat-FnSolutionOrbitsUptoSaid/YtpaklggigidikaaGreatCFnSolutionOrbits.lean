/- The law FnSolutionOrbits returns true for all arguments that hold together at most 1048576 values. -/
import Derived.Test.YtpaklggigidikaaGreatTie
import Derived.Test.YtpaklggigidikaaGreatP1
import Derived.Test.YtpaklggigidikaaGreatP2
namespace Go.Proofs.YtpaklggigidikaaGreat.fnSolutionOrbits
open Go.Mch Tie
theorem s_big : S_big pg := t_big (show pg.fn 128 = some _ from rfl)
theorem s_from : S_from pg := t_from (show pg.fn 269 = some _ from rfl)
theorem s_nxt : S_nxt pg := t_nxt (show pg.fn 336 = some _ from rfl)
theorem s_aff : S_aff pg := t_aff (show pg.fn 424 = some _ from rfl)
theorem s_in_30 : S_in pg 30 := t_l01In (show pg.fn 30 = some _ from rfl)
theorem s_table_46 : S_table pg 46 := t_l01Table (show pg.fn 46 = some _ from rfl) s_in_30
theorem s_index : S_index pg := t_index (show pg.fn 69 = some _ from rfl)
theorem s_has : S_has pg := t_has (show pg.fn 62 = some _ from rfl) s_index
theorem s_perm_47 : S_perm pg 47 := t_l01Perm (show pg.fn 47 = some _ from rfl) s_in_30 s_has
theorem s_l01Rows : S_l01Rows pg := t_l01Rows (show pg.fn 410 = some _ from rfl) s_perm_47
theorem s_sqs : S_sqs pg := t_sqs (show pg.fn 417 = some _ from rfl)
theorem s_flt : S_flt pg := t_flt (show pg.fn 418 = some _ from rfl)
theorem s_cyI : S_cyI pg := t_cyI (show pg.fn 363 = some _ from rfl) s_table_46 s_l01Rows s_sqs s_perm_47 s_flt
theorem s_unit : S_unit pg := t_unit (show pg.fn 334 = some _ from rfl)
theorem s_own : S_own pg := t_own (show pg.fn 31 = some _ from rfl)
theorem s_twst : S_twst pg := t_twst (show pg.fn 425 = some _ from rfl) s_own
theorem s_flp : S_flp pg := t_flp (show pg.fn 449 = some _ from rfl) s_unit s_twst
theorem s_poly : S_poly pg := t_poly (show pg.fn 423 = some _ from rfl)
theorem s_prd : S_prd pg := t_prd (show pg.fn 458 = some _ from rfl)
theorem s_drw : S_drw pg := t_drw (show pg.fn 368 = some _ from rfl) s_nxt s_unit
theorem s_then_279 : S_then pg 279 := t_l01Then (show pg.fn 279 = some _ from rfl)
theorem s_twd : S_twd pg := t_twd (show pg.fn 459 = some _ from rfl) s_nxt s_drw s_unit s_then_279 s_twst
theorem s_uni : S_uni pg := t_uni (show pg.fn 460 = some _ from rfl)
theorem s_copyT_280 : S_copyT pg 280 := t_l01Own2 (show pg.fn 280 = some _ from rfl) s_own
theorem s_ivl : S_ivl pg := t_ivl (show pg.fn 461 = some _ from rfl) s_copyT_280 s_index
theorem s_empty : S_empty pg := t_l02Empty (show pg.fn 398 = some _ from rfl)
theorem s_invW : S_invW pg := t_invW (show pg.fn 406 = some _ from rfl) s_empty
theorem s_any : S_any pg := t_any (show pg.fn 445 = some _ from rfl) s_nxt s_flp s_poly s_prd s_twd s_uni s_ivl s_invW
theorem s_image_367 : S_image pg 367 := t_rename (show pg.fn 367 = some _ from rfl)
theorem s_renS : S_renS pg := t_renS (show pg.fn 422 = some _ from rfl) s_image_367
theorem s_dr2 : S_dr2 pg := t_dr2 (show pg.fn 412 = some _ from rfl) s_nxt s_any s_drw s_renS
theorem s_column : S_column pg := t_column (show pg.fn 375 = some _ from rfl)
theorem s_turn_265 : S_turn pg 265 := t_l01Turn (show pg.fn 265 = some _ from rfl) s_column
theorem s_nonDeg_350 : S_nonDeg pg 350 := t_l02Good (show pg.fn 350 = some _ from rfl) s_l01Rows s_turn_265
theorem s_twice_351 : S_twice pg 351 := t_l02Twice (show pg.fn 351 = some _ from rfl)
theorem s_inv_304 : S_inv pg 304 := t_l01Back (show pg.fn 304 = some _ from rfl)
theorem s_cyc : S_cyc pg := t_cyc (show pg.fn 364 = some _ from rfl) s_inv_304
theorem s_cyD_427 : S_cyD pg 427 := t_cyA (show pg.fn 427 = some _ from rfl) s_nxt s_aff s_cyI s_dr2 s_nonDeg_350 s_twice_351 s_cyc s_flp
theorem s_cyD_378 : S_cyD pg 378 := t_cyDr (show pg.fn 378 = some _ from rfl) s_nxt s_cyD_427 s_drw s_image_367
theorem s_cys : S_cys pg := t_cys (show pg.fn 366 = some _ from rfl) s_empty s_index
theorem s_tbs : S_tbs pg := t_tbs (show pg.fn 428 = some _ from rfl) s_nxt s_drw
theorem s_pick : S_pick pg := t_pick (show pg.fn 292 = some _ from rfl) s_nxt
theorem s_bad : S_bad pg := t_bad (show pg.fn 413 = some _ from rfl) s_nxt s_tbs s_unit s_pick
theorem s_spl_379 : S_spl pg 379 := t_spl (show pg.fn 379 = some _ from rfl) s_nxt s_dr2 s_drw s_tbs s_bad
theorem s_spl_268 : S_spl pg 268 := t_spl7 (show pg.fn 268 = some _ from rfl) s_nxt s_cyD_378 s_cys s_spl_379
theorem s_drS_238 : S_drS pg 238 := t_dOrb (show pg.fn 238 = some _ from rfl) s_from s_spl_268
theorem s_in_35 : S_in pg 35 := t_within (show pg.fn 35 = some _ from rfl)
theorem s_allWithin : S_allWithin pg := t_allWithin (show pg.fn 54 = some _ from rfl) s_in_35
theorem s_isTable1 : S_isTable1 pg := t_isTable1 (show pg.fn 64 = some _ from rfl) s_allWithin
theorem s_indexFunc : S_indexFunc pg := t_indexFunc (show pg.fn 70 = some _ from rfl)
theorem j7m : j5h pg := t_containsFunc (show pg.fn 63 = some _ from rfl) s_indexFunc
theorem s_table_50 : S_table pg 50 := t_isTable (show pg.fn 50 = some _ from rfl) s_in_35 s_isTable1 j7m
theorem s_pairMap_59 : j6m pg 59 := t_isPairMap (show pg.fn 59 = some _ from rfl) s_table_50
theorem s_coll60 : S_coll60 pg := t_coll60 (show pg.fn 60 = some _ from rfl)
theorem s_fault61 : S_fault61 pg := t_fault61 (show pg.fn 61 = some _ from rfl)
theorem s_isSol_42 : S_isSol pg 42 := t_IsSolution (show pg.fn 42 = some _ from rfl) s_pairMap_59 s_coll60 s_fault61
theorem s_isPermuted : S_isPermuted pg := t_isPermuted (show pg.fn 66 = some _ from rfl) s_in_35
theorem s_permRows1 : S_permRows1 pg := t_permRows1 (show pg.fn 65 = some _ from rfl) s_isPermuted
theorem s_permRows : S_permRows pg := t_permRows (show pg.fn 51 = some _ from rfl) s_permRows1 j7m
theorem s_tableBy : S_tableBy pg := t_tableBy (show pg.fn 376 = some _ from rfl)
theorem s_turn1 : S_turn1 pg := t_turn1 (show pg.fn 377 = some _ from rfl)
theorem s_turn_267 : S_turn pg 267 := t_transposed (show pg.fn 267 = some _ from rfl) s_tableBy s_turn1
theorem s_nonDeg_285 : S_nonDeg pg 285 := t_isNondeg (show pg.fn 285 = some _ from rfl) s_permRows s_turn_267
theorem s_reg_266 : S_reg pg 266 := t_isRegular (show pg.fn 266 = some _ from rfl) s_isSol_42 s_nonDeg_285
theorem s_grow : S_grow pg := t_grow (show pg.fn 429 = some _ from rfl)
theorem s_concat : S_concat pg := t_concat (show pg.fn 381 = some _ from rfl) s_grow
theorem s_whole : S_whole pg := t_whole (show pg.fn 271 = some _ from rfl) s_turn_267 s_concat
theorem s_labels : S_labels pg := t_orbitLabels (show pg.fn 388 = some _ from rfl)
theorem s_solO_301 : S_solO pg 301 := t_solutionOrbits (show pg.fn 301 = some _ from rfl) s_whole s_labels
theorem s_maxL : S_maxL pg := t_max (show pg.fn 290 = some _ from rfl)
theorem s_places : S_places pg := t_placesOf (show pg.fn 318 = some _ from rfl)
theorem s_areElements : S_areElements pg := t_areElements (show pg.fn 39 = some _ from rfl) s_allWithin
theorem s_incr : S_incr pg := t_increasing (show pg.fn 403 = some _ from rfl)
theorem s_isSet : S_isSet pg := t_isSet (show pg.fn 357 = some _ from rfl) s_areElements s_incr
theorem s_indexIn_384 : j7b pg 384 := t_slicesIndex (show pg.fn 384 = some _ from rfl)
theorem s_hasI : S_hasI pg := t_contains (show pg.fn 405 = some _ from rfl) s_indexIn_384
theorem s_closed_333 : S_closed pg 333 := t_isClosed (show pg.fn 333 = some _ from rfl) s_hasI
theorem s_sol1_391_false : S_sol1 pg 391 false := t_solutionBy1 (show pg.fn 391 = some _ from rfl)
theorem s_sol1_392_true : S_sol1 pg 392 true := t_solutionBy2 (show pg.fn 392 = some _ from rfl)
theorem s_solBy : S_solBy pg := t_solutionBy (show pg.fn 308 = some _ from rfl) s_tableBy s_sol1_391_false s_sol1_392_true
theorem s_indexIn_287 : j7b pg 287 := t_indexIn (show pg.fn 287 = some _ from rfl) s_indexIn_384
theorem s_sub1 : S_sub1 pg := t_sub1 (show pg.fn 358 = some _ from rfl) s_indexIn_287
theorem s_subI : S_subI pg := t_SubSolution (show pg.fn 239 = some _ from rfl) s_pairMap_59 s_isSet s_closed_333 s_solBy s_sub1
theorem s_os_209 : S_os pg 209 := t_os_impl (show pg.fn 209 = some _ from rfl) s_reg_266 s_solO_301 s_maxL s_places s_subI
theorem s_pairMap_56 : j6m pg 56 := t_l02Map (show pg.fn 56 = some _ from rfl) s_table_46
theorem s_coll57 : S_coll57 pg := t_coll57 (show pg.fn 57 = some _ from rfl)
theorem s_do_68 : S_do pg 68 := do_of (show pg.fn 68 = some _ from rfl) s_own
theorem s_same : S_same pg := t_same (show pg.fn 67 = some _ from rfl)
theorem s_fault58 : S_fault58 pg := t_fault58 (show pg.fn 58 = some _ from rfl) s_do_68 s_same
theorem s_isSol_41 : S_isSol pg 41 := t_l02Is (show pg.fn 41 = some _ from rfl) s_pairMap_56 s_coll57 s_fault58
theorem s_reg_264 : S_reg pg 264 := t_l07Is (show pg.fn 264 = some _ from rfl) s_isSol_41 s_nonDeg_350
theorem s_both : S_both pg := t_l07Both (show pg.fn 273 = some _ from rfl) s_copyT_280 s_turn_265
theorem s_orbit : S_orbit pg := t_l01Orbit (show pg.fn 430 = some _ from rfl) s_has
theorem s_orbits : S_orbits pg := t_l01Orbits (show pg.fn 387 = some _ from rfl) s_orbit
theorem s_solO_299 : S_solO pg 299 := t_l07Orbits (show pg.fn 299 = some _ from rfl) s_both s_orbits
theorem s_greatest : S_greatest pg := t_greatest (show pg.fn 288 = some _ from rfl)
theorem s_members : S_members pg := t_members (show pg.fn 316 = some _ from rfl)
theorem s_sub : S_sub pg := t_l02Sub (show pg.fn 332 = some _ from rfl) s_index
theorem s_os_208 : S_os pg 208 := t_os_spec (show pg.fn 208 = some _ from rfl) s_reg_264 s_solO_299 s_greatest s_members s_sub
theorem s_orbOf_169 : S_orbOf pg 169 := t_orbOf_impl (show pg.fn 169 = some _ from rfl) s_reg_266 s_solO_301
theorem s_isIndec : S_isIndec pg := t_isIndec (show pg.fn 300 = some _ from rfl) s_solO_301 s_maxL
theorem s_indec_165 : S_indec pg 165 := t_indec_impl (show pg.fn 165 = some _ from rfl) s_reg_266 s_isIndec
theorem s_dec_183 : S_dec pg 183 := t_dec_impl (show pg.fn 183 = some _ from rfl) s_reg_266 s_solO_301 s_maxL s_places
theorem s_fx1 : S_fx1 pg := t_fx1 (show pg.fn 317 = some _ from rfl)
theorem s_fixed_181 : S_fixed pg 181 := t_fixed_impl (show pg.fn 181 = some _ from rfl) s_reg_266 s_whole j7m s_fx1
theorem s_top5 : S_top5 pg := t_top5 (show pg.fn 219 = some _ from rfl)
theorem s_likeI : S_likeI pg := t_likeI (show pg.fn 141 = some _ from rfl)
theorem s_likeT : S_likeT pg := t_likeT (show pg.fn 137 = some _ from rfl) s_likeI
theorem s_likeS : S_likeS pg := t_likeS (show pg.fn 218 = some _ from rfl) s_likeT
theorem s_hasInt : S_hasInt pg := t_hasInt (show pg.fn 240 = some _ from rfl)
theorem s_clS : S_clS pg := t_clS (show pg.fn 241 = some _ from rfl) s_pairMap_59 s_isSet s_closed_333
theorem s_law118 : S_law118 pg := t_law118 (show pg.fn 118 = some _ from rfl) s_big s_drS_238 s_os_209 s_os_208 s_orbOf_169 s_indec_165 s_dec_183 s_fixed_181 s_top5 s_subI s_likeS s_hasInt s_clS
theorem own : ownKnob Tryz.prog.godebug = none := by kernel_rfl
theorem part_le {H : Type} {d : DataW H} {l : List (DataW H)} (h : d ∈ l) : Rows.uptoBulk d ≤ Rows.uptoBulkAll l := by
 induction l with
 | nil => cases h
 | cons x r ih =>
  simp only [Rows.uptoBulkAll]
  cases List.mem_cons.1 h with
  | inl e => subst e; omega
  | inr e => have := ih e; omega
theorem one_le {H : Type} (d : DataW H) : 1 ≤ Rows.uptoBulk d := by
 cases d with
 | lit l => cases l <;> simp [Rows.uptoBulk]
 | _ => simp [Rows.uptoBulk]
theorem length_le {H : Type} (l : List (DataW H)) : l.length ≤ Rows.uptoBulkAll l := by
 induction l with
 | nil => simp [Rows.uptoBulkAll]
 | cons x r ih => have := one_le x; simp only [Rows.uptoBulkAll, List.length_cons]; omega
theorem bulk {H : Type} : Bulk (H := H) Rows.uptoBulk :=
 ⟨fun es rest => by have := length_le es; simp only [Rows.uptoBulk]; omega,
  fun es rest d h => by have := part_le h; simp only [Rows.uptoBulk]; omega,
  fun ps d h => by have := part_le h; simp only [Rows.uptoBulk]; omega⟩
theorem bound {H : Type} {l : List (DataW H)} (hk : Rows.uptoSmall H l = true) : Rows.uptoBulkAll l ≤ 1048576 := by
 simpa [Rows.uptoSmall] using hk
theorem laid : laidOutB Tryz.prog = true := by kernel_rfl
theorem read22 : Tryz.prog.readableRec 22 = true ∧ 22 < Tryz.prog.types.size := ⟨by kernel_rfl, of_decide_eq_true (by kernel_rfl)⟩
set_option maxRecDepth 100000 in
theorem contract (H : Type) (enc : TypeId × Value → H) (W : World) (base : Nat) (args : Array Value) (ds gs : List (DataW H)) (before : List MemPlace)
 (hval : ∀ (j : Nat) t v, Tryz.f3.params[j]? = some t → args[j]? = some v → Value.okWide Tryz.prog W .any base t v)
 (hW : DataW.Whole enc Tryz.prog Tryz.f3.params.toList Rows.fnSolutionOrbitsSpec.vars false W args.toList ds gs before) (hk : Rows.uptoSmall H (ds ++ gs) = true) :
 Calls Tryz.prog 3 args W fun e W' => ∃ v, e = .returned v ∧ Rows.fnSolutionOrbitsSpec.post enc Tryz.prog Tryz.f3 false true false false W args v W' := by
 have hW' := hW
 obtain ⟨p, q, hA, hV, rfl, hfz, hnd⟩ := hW
 rw [Tryz.params3] at hA hval
 obtain ⟨v0, vs0, d0, ds0, p0, q0, hargs, rfl, rfl, h0, r0⟩ := Go.ChangeShapes.trodAll_cons hA
 obtain ⟨rfl, rfl, rfl⟩ := Go.ChangeShapes.trodAll_nil r0
 obtain rfl : args = #[v0] := by cases args; simp_all
 have hb := bound hk
 have hb0 : Rows.uptoBulk d0 ≤ 1048576 := Nat.le_trans (part_le (by simp)) hb
 obtain ⟨a0, g0, x0⟩ := open_argB (fm := fm) bulk Tryz.underlying22 Tryz.underlying5 (by kernel_rfl) (hval 0 22 v0 rfl rfl) h0
 obtain ⟨args', hc⟩ := s_law118 a0 ⟨Nat.le_trans x0.1 hb0, x0.2⟩
 refine (run_true (pact hc) (by simp) rfl (fun s t ht => ?_)).mono fun e W' ⟨he, hg⟩ => ?_
 · match s, ht with
   | 0, ht =>
    cases ht
    exact g0
 · subst he
   exact ⟨_, rfl, post_true hW' hg rfl rfl (by kernel_rfl) laid (fun t ht => by rw [Tryz.params3] at ht; simp at ht; rcases ht with rfl <;> first | exact read22) rfl⟩
set_option maxRecDepth 100000 in
theorem lifted (os : Os) (started : os.Started) (H : Type) (enc : TypeId × Value → H) (F : Stop.Interp) :
 ReturnsInHanded {} Tryz.checked os 3 .any ((Rows.OpenSpec.upto Rows.fnSolutionOrbitsSpec).pre6 enc Tryz.prog Tryz.f3 Rows.fnSolutionOrbitsUptoRow.domain false) (((Rows.OpenSpec.upto Rows.fnSolutionOrbitsSpec).at F).post enc Tryz.prog Tryz.f3 false true false false) := by
 refine returnsInHanded_of_cond (C := Tryz.checked) (s := Rows.OpenSpec.upto Rows.fnSolutionOrbitsSpec) (k := Rows.uptoSmall) rfl own started (by kernel_rfl) Tryz.func3
  (OpenSpec.witness (enc := enc) (C := Tryz.checked) (s := Rows.OpenSpec.upto Rows.fnSolutionOrbitsSpec) (k := Rows.uptoSmall) rfl false ⟨#[], #[.slice none 0 0], []⟩ 8 (by kernel_rfl) (by kernel_rfl) (by kernel_rfl)
   (x := ([.nil], [], [])) (by kernel_rfl) rfl (by kernel_rfl)) ?_
 intro W base args ds gs before hval hW _ hk _
 exact contract H enc W base args ds gs before hval hW hk
theorem over : Rows.fnSolutionOrbitsUptoRow.holds Tryz.pinned (Rows.OpenSpec.upto Rows.fnSolutionOrbitsSpec) :=
 OpenClaim.holds_of_cond 3 Tryz.f3 rfl rfl rfl rfl rfl rfl rfl ⟨rfl, rfl, rfl, rfl, rfl⟩ rfl rfl rfl rfl rfl (by kernel_rfl) Tryz.func3 (by kernel_rfl)
  (of_decide_eq_true (by kernel_rfl)) (by unfold Func.isWrapper; first | (rw [if_pos (by decide +kernel)]; kernel_rfl) | (rw [if_neg (by decide +kernel)]; exact ⟨rfl, rfl⟩))
  (fun os started H enc _ F => lifted os started H enc F)
theorem proved : Rows.FnSolutionOrbitsUptoSaid :=
 over
end Go.Proofs.YtpaklggigidikaaGreat.fnSolutionOrbits
