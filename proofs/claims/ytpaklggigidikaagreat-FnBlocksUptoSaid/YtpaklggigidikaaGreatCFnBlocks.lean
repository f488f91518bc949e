/- The law FnBlocks returns true for all arguments that hold together at most 1048576 values. -/
import Derived.Test.YtpaklggigidikaaGreatTie
import Derived.Test.YtpaklggigidikaaGreatP1
import Derived.Test.YtpaklggigidikaaGreatP2
namespace Go.Proofs.YtpaklggigidikaaGreat.fnBlocks
open Go.Mch Tie
theorem s_big : S_big pg := t_big (show pg.fn 128 = some _ from rfl)
theorem s_from : S_from pg := t_from (show pg.fn 269 = some _ from rfl)
theorem q1t : j9c pg := t_nxt (show pg.fn 336 = some _ from rfl)
theorem s_aff : S_aff pg := t_aff (show pg.fn 424 = some _ from rfl)
theorem s_in_30 : S_in pg 30 := t_l01In (show pg.fn 30 = some _ from rfl)
theorem q5y : j98 pg 46 := t_l01Table (show pg.fn 46 = some _ from rfl) s_in_30
theorem q6y : q2l pg := t_index (show pg.fn 69 = some _ from rfl)
theorem s_has : S_has pg := t_has (show pg.fn 62 = some _ from rfl) q6y
theorem s_perm_47 : S_perm pg 47 := t_l01Perm (show pg.fn 47 = some _ from rfl) s_in_30 s_has
theorem s_l01Rows : q1j pg := t_l01Rows (show pg.fn 410 = some _ from rfl) s_perm_47
theorem s_sqs : S_sqs pg := t_sqs (show pg.fn 417 = some _ from rfl)
theorem s_flt : S_flt pg := t_flt (show pg.fn 418 = some _ from rfl)
theorem s_cyI : S_cyI pg := t_cyI (show pg.fn 363 = some _ from rfl) q5y s_l01Rows s_sqs s_perm_47 s_flt
theorem s_unit : q5a pg := t_unit (show pg.fn 334 = some _ from rfl)
theorem s_own : S_own pg := t_own (show pg.fn 31 = some _ from rfl)
theorem s_twst : S_twst pg := t_twst (show pg.fn 425 = some _ from rfl) s_own
theorem s_flp : S_flp pg := t_flp (show pg.fn 449 = some _ from rfl) s_unit s_twst
theorem s_poly : S_poly pg := t_poly (show pg.fn 423 = some _ from rfl)
theorem s_prd : S_prd pg := t_prd (show pg.fn 458 = some _ from rfl)
theorem s_drw : S_drw pg := t_drw (show pg.fn 368 = some _ from rfl) q1t s_unit
theorem s_then_279 : S_then pg 279 := t_l01Then (show pg.fn 279 = some _ from rfl)
theorem s_twd : S_twd pg := t_twd (show pg.fn 459 = some _ from rfl) q1t s_drw s_unit s_then_279 s_twst
theorem s_uni : S_uni pg := t_uni (show pg.fn 460 = some _ from rfl)
theorem q30 : q0c pg 280 := t_l01Own2 (show pg.fn 280 = some _ from rfl) s_own
theorem s_ivl : S_ivl pg := t_ivl (show pg.fn 461 = some _ from rfl) q30 q6y
theorem s_empty : q7v pg := t_l02Empty (show pg.fn 398 = some _ from rfl)
theorem s_invW : S_invW pg := t_invW (show pg.fn 406 = some _ from rfl) s_empty
theorem s_any : S_any pg := t_any (show pg.fn 445 = some _ from rfl) q1t s_flp s_poly s_prd s_twd s_uni s_ivl s_invW
theorem q3y : q7u pg 367 := t_rename (show pg.fn 367 = some _ from rfl)
theorem s_renS : S_renS pg := t_renS (show pg.fn 422 = some _ from rfl) q3y
theorem s_dr2 : S_dr2 pg := t_dr2 (show pg.fn 412 = some _ from rfl) q1t s_any s_drw s_renS
theorem s_column : q7x pg := t_column (show pg.fn 375 = some _ from rfl)
theorem q5x : q1i pg 265 := t_l01Turn (show pg.fn 265 = some _ from rfl) s_column
theorem q2o : j8e pg 350 := t_l02Good (show pg.fn 350 = some _ from rfl) s_l01Rows q5x
theorem s_twice_351 : S_twice pg 351 := t_l02Twice (show pg.fn 351 = some _ from rfl)
theorem s_inv_304 : S_inv pg 304 := t_l01Back (show pg.fn 304 = some _ from rfl)
theorem s_cyc : S_cyc pg := t_cyc (show pg.fn 364 = some _ from rfl) s_inv_304
theorem s_cyD_427 : S_cyD pg 427 := t_cyA (show pg.fn 427 = some _ from rfl) q1t s_aff s_cyI s_dr2 q2o s_twice_351 s_cyc s_flp
theorem s_cyD_378 : S_cyD pg 378 := t_cyDr (show pg.fn 378 = some _ from rfl) q1t s_cyD_427 s_drw q3y
theorem s_cys : S_cys pg := t_cys (show pg.fn 366 = some _ from rfl) s_empty q6y
theorem s_tbs : S_tbs pg := t_tbs (show pg.fn 428 = some _ from rfl) q1t s_drw
theorem s_pick : S_pick pg := t_pick (show pg.fn 292 = some _ from rfl) q1t
theorem s_bad : S_bad pg := t_bad (show pg.fn 413 = some _ from rfl) q1t s_tbs s_unit s_pick
theorem s_spl_379 : S_spl pg 379 := t_spl (show pg.fn 379 = some _ from rfl) q1t s_dr2 s_drw s_tbs s_bad
theorem s_spl_268 : S_spl pg 268 := t_spl7 (show pg.fn 268 = some _ from rfl) q1t s_cyD_378 s_cys s_spl_379
theorem s_ring : S_ring pg := t_ring (show pg.fn 371 = some _ from rfl) q1t s_spl_268 s_renS s_poly s_drw s_aff s_cyI s_cys s_twst
theorem s_count : S_count pg := t_count (show pg.fn 293 = some _ from rfl) q1t s_pick
theorem s_drB_252 : S_drB pg 252 := t_dBS (show pg.fn 252 = some _ from rfl) s_from s_ring s_count
theorem s_in_35 : S_in pg 35 := t_within (show pg.fn 35 = some _ from rfl)
theorem q31 : j8g pg := t_allWithin (show pg.fn 54 = some _ from rfl) s_in_35
theorem s_isTable1 : q2j pg := t_isTable1 (show pg.fn 64 = some _ from rfl) q31
theorem s_indexFunc : q0b pg := t_indexFunc (show pg.fn 70 = some _ from rfl)
theorem j9t : j57 pg := q5h (show pg.fn 63 = some _ from rfl) s_indexFunc
theorem s_table_50 : j98 pg 50 := t_isTable (show pg.fn 50 = some _ from rfl) s_in_35 s_isTable1 j9t
theorem s_pairMap_59 : j7v pg 59 := t_isPairMap (show pg.fn 59 = some _ from rfl) s_table_50
theorem s_coll60 : q7y pg := t_coll60 (show pg.fn 60 = some _ from rfl)
theorem s_fault61 : q5e pg := t_fault61 (show pg.fn 61 = some _ from rfl)
theorem s_isSol_42 : q2k pg 42 := t_IsSolution (show pg.fn 42 = some _ from rfl) s_pairMap_59 s_coll60 s_fault61
theorem s_isPermuted : j9d pg := t_isPermuted (show pg.fn 66 = some _ from rfl) s_in_35
theorem s_permRows1 : j99 pg := t_permRows1 (show pg.fn 65 = some _ from rfl) s_isPermuted
theorem s_permRows : q2i pg := t_permRows (show pg.fn 51 = some _ from rfl) s_permRows1 j9t
theorem s_tableBy : q5b pg := t_tableBy (show pg.fn 376 = some _ from rfl)
theorem s_turn1 : S_turn1 pg := t_turn1 (show pg.fn 377 = some _ from rfl)
theorem q1s : q1i pg 267 := t_transposed (show pg.fn 267 = some _ from rfl) s_tableBy s_turn1
theorem s_nonDeg_285 : j8e pg 285 := t_isNondeg (show pg.fn 285 = some _ from rfl) s_permRows q1s
theorem q0j : q5m pg 266 := t_isRegular (show pg.fn 266 = some _ from rfl) s_isSol_42 s_nonDeg_285
theorem q60 : j8f pg := q6w (show pg.fn 39 = some _ from rfl) q31
theorem s_grow : S_grow pg := t_grow (show pg.fn 429 = some _ from rfl)
theorem s_concat : q7w pg := t_concat (show pg.fn 381 = some _ from rfl) s_grow
theorem s_whole : q7p pg := t_whole (show pg.fn 271 = some _ from rfl) q1s s_concat
theorem s_labels : q7s pg := q6u (show pg.fn 388 = some _ from rfl)
theorem s_solO_301 : q5c pg 301 := q2y (show pg.fn 301 = some _ from rfl) s_whole s_labels
theorem s_maxL : S_maxL pg := t_max (show pg.fn 290 = some _ from rfl)
theorem s_isIndec : q1k pg := t_isIndec (show pg.fn 300 = some _ from rfl) s_solO_301 s_maxL
theorem s_identity : q2m pg := t_identity (show pg.fn 335 = some _ from rfl)
theorem q6x : q5d pg 384 := q6t (show pg.fn 384 = some _ from rfl)
theorem s_index0 : q7t pg := q5g (show pg.fn 384 = some _ from rfl)
theorem s_renum_386 : q2h pg 386 := t_numbered (show pg.fn 386 = some _ from rfl) q6x s_index0
theorem q2p : j67 pg 330 := q6v (show pg.fn 330 = some _ from rfl) s_identity s_whole s_renum_386
theorem s_bs_206 : S_bs pg 206 := t_bs_impl (show pg.fn 206 = some _ from rfl) q0j q60 s_isIndec q2p
theorem s_pairMap_56 : j7v pg 56 := t_l02Map (show pg.fn 56 = some _ from rfl) q5y
theorem s_coll57 : q7z pg := t_coll57 (show pg.fn 57 = some _ from rfl)
theorem s_do_68 : S_do pg 68 := do_of (show pg.fn 68 = some _ from rfl) s_own
theorem s_same : S_same pg := t_same (show pg.fn 67 = some _ from rfl)
theorem s_fault58 : q5f pg := t_fault58 (show pg.fn 58 = some _ from rfl) s_do_68 s_same
theorem s_isSol_41 : q2k pg 41 := t_l02Is (show pg.fn 41 = some _ from rfl) s_pairMap_56 s_coll57 s_fault58
theorem s_reg_264 : q5m pg 264 := t_l07Is (show pg.fn 264 = some _ from rfl) s_isSol_41 q2o
theorem s_both : S_both pg := t_l07Both (show pg.fn 273 = some _ from rfl) q30 q5x
theorem s_orbit : S_orbit pg := t_l01Orbit (show pg.fn 430 = some _ from rfl) s_has
theorem s_orbits : q7q pg := t_l01Orbits (show pg.fn 387 = some _ from rfl) s_orbit
theorem q50 : q5c pg 299 := t_l07Orbits (show pg.fn 299 = some _ from rfl) s_both s_orbits
theorem q51 : j9q pg := t_greatest (show pg.fn 288 = some _ from rfl)
theorem s_renum_385 : q2h pg 385 := t_renumber (show pg.fn 385 = some _ from rfl) s_has q6y
theorem q2q : j67 pg 329 := t_l07Blocks (show pg.fn 329 = some _ from rfl) s_unit s_both s_renum_385
theorem s_bs_205 : S_bs pg 205 := t_bs_spec (show pg.fn 205 = some _ from rfl) s_reg_264 s_in_30 q50 q51 q2q
theorem s_prim_198 : q6q pg 198 := t_prim_impl (show pg.fn 198 = some _ from rfl) q0j s_isIndec s_maxL q2p
theorem s_prim_197 : q6q pg 197 := t_prim_spec (show pg.fn 197 = some _ from rfl) s_reg_264 q50 q51 q2q
theorem s_likeI : q0a pg := t_likeI (show pg.fn 141 = some _ from rfl)
theorem s_clone : S_clone pg := t_clone (show pg.fn 36 = some _ from rfl)
theorem s_copyT_275 : q0c pg 275 := t_cloneTable (show pg.fn 275 = some _ from rfl) s_clone
theorem s_lambda_135 : q7r pg 135 := t_lam_impl (show pg.fn 135 = some _ from rfl) q0j s_copyT_275
theorem s_rho_127 : S_rho pg 127 := t_rho_impl (show pg.fn 127 = some _ from rfl) q0j q1s
theorem s_top5 : S_top5 pg := t_top5 (show pg.fn 219 = some _ from rfl)
theorem s_law120 : S_law120 pg := t_law120 (show pg.fn 120 = some _ from rfl) s_big s_drB_252 s_bs_206 s_bs_205 s_prim_198 s_prim_197 s_likeI s_lambda_135 s_rho_127 s_top5
theorem own : ownKnob Tryz.prog.godebug = none := by kernel_rfl
theorem part_le {H : Type} {d : DataW H} {l : List (DataW H)} (h : d ∈ l) : Rows.uptoBulk d ≤ Rows.uptoBulkAll l := by
 induction l with
 | nil => cases h
 | cons x r ih =>
  simp only [Rows.uptoBulkAll]
  cases List.mem_cons.1 h with
  | inl e => subst e; omega
  | inr e => have := ih e; omega
theorem one_le {H : Type} (d : DataW H) : 1 ≤ Rows.uptoBulk d := by
 cases d with
 | lit l => cases l <;> simp [Rows.uptoBulk]
 | _ => simp [Rows.uptoBulk]
theorem length_le {H : Type} (l : List (DataW H)) : l.length ≤ Rows.uptoBulkAll l := by
 induction l with
 | nil => simp [Rows.uptoBulkAll]
 | cons x r ih => have := one_le x; simp only [Rows.uptoBulkAll, List.length_cons]; omega
theorem bulk {H : Type} : Bulk (H := H) Rows.uptoBulk :=
 ⟨fun es rest => by have := length_le es; simp only [Rows.uptoBulk]; omega,
  fun es rest d h => by have := part_le h; simp only [Rows.uptoBulk]; omega,
  fun ps d h => by have := part_le h; simp only [Rows.uptoBulk]; omega⟩
theorem bound {H : Type} {l : List (DataW H)} (hk : Rows.uptoSmall H l = true) : Rows.uptoBulkAll l ≤ 1048576 := by
 simpa [Rows.uptoSmall] using hk
theorem laid : laidOutB Tryz.prog = true := by kernel_rfl
theorem read22 : Tryz.prog.readableRec 22 = true ∧ 22 < Tryz.prog.types.size := ⟨by kernel_rfl, of_decide_eq_true (by kernel_rfl)⟩
set_option maxRecDepth 100000 in
theorem contract (H : Type) (enc : TypeId × Value → H) (W : World) (base : Nat) (args : Array Value) (ds gs : List (DataW H)) (before : List MemPlace)
 (hval : ∀ (j : Nat) t v, Tryz.f4.params[j]? = some t → args[j]? = some v → Value.okWide Tryz.prog W .any base t v)
 (hW : DataW.Whole enc Tryz.prog Tryz.f4.params.toList Rows.fnBlocksSpec.vars false W args.toList ds gs before) (hk : Rows.uptoSmall H (ds ++ gs) = true) :
 Calls Tryz.prog 4 args W fun e W' => ∃ v, e = .returned v ∧ Rows.fnBlocksSpec.post enc Tryz.prog Tryz.f4 false true false false W args v W' := by
 have hW' := hW
 obtain ⟨p, q, hA, hV, rfl, hfz, hnd⟩ := hW
 rw [Tryz.params4] at hA hval
 obtain ⟨v0, vs0, d0, ds0, p0, q0, hargs, rfl, rfl, h0, r0⟩ := Go.ChangeShapes.trodAll_cons hA
 obtain ⟨rfl, rfl, rfl⟩ := Go.ChangeShapes.trodAll_nil r0
 obtain rfl : args = #[v0] := by cases args; simp_all
 have hb := bound hk
 have hb0 : Rows.uptoBulk d0 ≤ 1048576 := Nat.le_trans (part_le (by simp)) hb
 obtain ⟨a0, g0, x0⟩ := open_argB (fm := fm) bulk Tryz.underlying22 Tryz.underlying5 (by kernel_rfl) (hval 0 22 v0 rfl rfl) h0
 obtain ⟨args', hc⟩ := s_law120 a0 ⟨Nat.le_trans x0.1 hb0, x0.2⟩
 refine (run_true (pact hc) (by simp) rfl (fun s t ht => ?_)).mono fun e W' ⟨he, hg⟩ => ?_
 · match s, ht with
   | 0, ht =>
    cases ht
    exact g0
 · subst he
   exact ⟨_, rfl, post_true hW' hg rfl rfl (by kernel_rfl) laid (fun t ht => by rw [Tryz.params4] at ht; simp at ht; rcases ht with rfl <;> first | exact read22) rfl⟩
set_option maxRecDepth 100000 in
theorem lifted (os : Os) (started : os.Started) (H : Type) (enc : TypeId × Value → H) (F : Stop.Interp) :
 ReturnsInHanded {} Tryz.checked os 4 .any ((Rows.OpenSpec.upto Rows.fnBlocksSpec).pre6 enc Tryz.prog Tryz.f4 Rows.fnBlocksUptoRow.domain false) (((Rows.OpenSpec.upto Rows.fnBlocksSpec).at F).post enc Tryz.prog Tryz.f4 false true false false) := by
 refine returnsInHanded_of_cond (C := Tryz.checked) (s := Rows.OpenSpec.upto Rows.fnBlocksSpec) (k := Rows.uptoSmall) rfl own started (by kernel_rfl) Tryz.func4
  (OpenSpec.witness (enc := enc) (C := Tryz.checked) (s := Rows.OpenSpec.upto Rows.fnBlocksSpec) (k := Rows.uptoSmall) rfl false ⟨#[], #[.slice none 0 0], []⟩ 8 (by kernel_rfl) (by kernel_rfl) (by kernel_rfl)
   (x := ([.nil], [], [])) (by kernel_rfl) rfl (by kernel_rfl)) ?_
 intro W base args ds gs before hval hW _ hk _
 exact contract H enc W base args ds gs before hval hW hk
theorem over : Rows.fnBlocksUptoRow.holds Tryz.pinned (Rows.OpenSpec.upto Rows.fnBlocksSpec) :=
 OpenClaim.holds_of_cond 4 Tryz.f4 rfl rfl rfl rfl rfl rfl rfl ⟨rfl, rfl, rfl, rfl, rfl⟩ rfl rfl rfl rfl rfl (by kernel_rfl) Tryz.func4 (by kernel_rfl)
  (of_decide_eq_true (by kernel_rfl)) (by unfold Func.isWrapper; first | (rw [if_pos (by decide +kernel)]; kernel_rfl) | (rw [if_neg (by decide +kernel)]; exact ⟨rfl, rfl⟩))
  (fun os started H enc _ F => lifted os started H enc F)
theorem proved : Rows.FnBlocksUptoSaid :=
 over
end Go.Proofs.YtpaklggigidikaaGreat.fnBlocks
