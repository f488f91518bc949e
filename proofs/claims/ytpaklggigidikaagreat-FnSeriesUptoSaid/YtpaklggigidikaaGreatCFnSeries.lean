/- The law FnSeries returns true for all arguments that hold together at most 1048576 values. -/
import Derived.Test.YtpaklggigidikaaGreatTie
import Derived.Test.YtpaklggigidikaaGreatP1
import Derived.Test.YtpaklggigidikaaGreatP2
namespace Go.Proofs.YtpaklggigidikaaGreat.fnSeries
open Go.Mch Tie
theorem s_big : w91 pg := t_big (show pg.fn 128 = some _ from rfl)
theorem w5h : z5b pg := v4q (show pg.fn 269 = some _ from rfl)
theorem q3u : q0k pg := t_nxt (show pg.fn 336 = some _ from rfl)
theorem s_aff : w94 pg := t_aff (show pg.fn 424 = some _ from rfl)
theorem z1q : S_in pg 30 := w6q (show pg.fn 30 = some _ from rfl)
theorem q6w : q02 pg 46 := z5o (show pg.fn 46 = some _ from rfl) z1q
theorem q4x : q05 pg := w6s (show pg.fn 69 = some _ from rfl)
theorem w65 : w2k pg := t_has (show pg.fn 62 = some _ from rfl) q4x
theorem q9r : z4z pg 47 := z8h (show pg.fn 47 = some _ from rfl) z1q w65
theorem q9u : q2d pg := z8g (show pg.fn 410 = some _ from rfl) q9r
theorem s_sqs : w9t pg := t_sqs (show pg.fn 417 = some _ from rfl)
theorem s_flt : w9x pg := t_flt (show pg.fn 418 = some _ from rfl)
theorem s_cyI : w90 pg := t_cyI (show pg.fn 363 = some _ from rfl) q6w q9u s_sqs q9r s_flt
theorem q9o : q56 pg := v4f (show pg.fn 334 = some _ from rfl)
theorem w62 : w2c pg := t_own (show pg.fn 31 = some _ from rfl)
theorem w5e : z4w pg := v4g (show pg.fn 425 = some _ from rfl) w62
theorem v5w : w41 pg := t_flp (show pg.fn 449 = some _ from rfl) q9o w5e
theorem v5r : w2a pg := v4n (show pg.fn 423 = some _ from rfl)
theorem s_prd : w9u pg := t_prd (show pg.fn 458 = some _ from rfl)
theorem z9i : z2l pg := t_drw (show pg.fn 368 = some _ from rfl) q3u q9o
theorem z6a : q7l pg 279 := z8f (show pg.fn 279 = some _ from rfl)
theorem s_twd : w9r pg := t_twd (show pg.fn 459 = some _ from rfl) q3u z9i q9o z6a w5e
theorem s_uni : w9q pg := t_uni (show pg.fn 460 = some _ from rfl)
theorem q40 : q8u pg 280 := z8i (show pg.fn 280 = some _ from rfl) w62
theorem s_ivl : w9v pg := t_ivl (show pg.fn 461 = some _ from rfl) q40 q4x
theorem z1r : q6b pg := z5n (show pg.fn 398 = some _ from rfl)
theorem v5t : w2f pg := v4p (show pg.fn 406 = some _ from rfl) z1r
theorem s_any : w93 pg := t_any (show pg.fn 445 = some _ from rfl) q3u v5w v5r s_prd s_twd s_uni s_ivl v5t
theorem q4y : q8s pg 367 := w2r (show pg.fn 367 = some _ from rfl)
theorem v5q : w19 pg := v4m (show pg.fn 422 = some _ from rfl) q4y
theorem v5x : w42 pg := t_dr2 (show pg.fn 412 = some _ from rfl) q3u s_any z9i v5q
theorem w3h : q8v pg := w2x (show pg.fn 375 = some _ from rfl)
theorem q6v : q3r pg 265 := z8e (show pg.fn 265 = some _ from rfl) w3h
theorem q3j : j87 pg 350 := z8d (show pg.fn 350 = some _ from rfl) q9u q6v
theorem z1l : z2f pg 351 := z5m (show pg.fn 351 = some _ from rfl)
theorem z9f : w9w pg 304 := z8j (show pg.fn 304 = some _ from rfl)
theorem s_cyc : w9z pg := t_cyc (show pg.fn 364 = some _ from rfl) z9f
theorem z9l : z7n pg 427 := t_cyA (show pg.fn 427 = some _ from rfl) q3u s_aff s_cyI v5x q3j z1l s_cyc v5w
theorem z9m : z7n pg 378 := v4r (show pg.fn 378 = some _ from rfl) q3u z9l z9i q4y
theorem s_cys : w9y pg := t_cys (show pg.fn 366 = some _ from rfl) z1r q4x
theorem v5l : w40 pg := t_tbs (show pg.fn 428 = some _ from rfl) q3u z9i
theorem z3a : q7n pg := v4o (show pg.fn 292 = some _ from rfl) q3u
theorem s_bad : w92 pg := t_bad (show pg.fn 413 = some _ from rfl) q3u v5l q9o z3a
theorem z9a : z2h pg 379 := t_spl (show pg.fn 379 = some _ from rfl) q3u v5x z9i v5l s_bad
theorem q9q : z2h pg 268 := v4k (show pg.fn 268 = some _ from rfl) q3u z9m s_cys z9a
theorem z9k : z7m pg 253 := t_dSL (show pg.fn 253 = some _ from rfl) w5h q9q z3a
theorem q7w : S_in pg 35 := w2q (show pg.fn 35 = some _ from rfl)
theorem q41 : j9a pg := z1h (show pg.fn 54 = some _ from rfl) q7w
theorem z6e : q3e pg := z5p (show pg.fn 64 = some _ from rfl) q41
theorem z1p : q04 pg := z1g (show pg.fn 70 = some _ from rfl)
theorem q0l : j6k pg := q6d (show pg.fn 63 = some _ from rfl) z1p
theorem z6c : q02 pg 50 := z8k (show pg.fn 50 = some _ from rfl) q7w z6e q0l
theorem q3i : j7l pg 59 := z1f (show pg.fn 59 = some _ from rfl) z6c
theorem w3i : q8w pg := w2y (show pg.fn 60 = some _ from rfl)
theorem z9g : q59 pg := z8n (show pg.fn 61 = some _ from rfl)
theorem z6f : q3f pg 42 := q9d (show pg.fn 42 = some _ from rfl) q3i w3i z9g
theorem q9v : j94 pg := q9b (show pg.fn 66 = some _ from rfl) q7w
theorem z1o : q03 pg := z1b (show pg.fn 65 = some _ from rfl) q9v
theorem z6d : q3c pg := z5k (show pg.fn 51 = some _ from rfl) z1o q0l
theorem q9p : q2c pg := z7w (show pg.fn 376 = some _ from rfl)
theorem w61 : z2g pg := w6k (show pg.fn 377 = some _ from rfl)
theorem q6u : q3r pg 267 := q87 (show pg.fn 267 = some _ from rfl) q9p w61
theorem q9t : j87 pg 285 := z5q (show pg.fn 285 = some _ from rfl) z6d q6u
theorem q1e : q57 pg 266 := z1e (show pg.fn 266 = some _ from rfl) z6f q9t
theorem q6x : q0h pg := z5s (show pg.fn 335 = some _ from rfl)
theorem w66 : z2k pg := w6t (show pg.fn 276 = some _ from rfl)
theorem j8p : j6v pg 384 := q7s (show pg.fn 384 = some _ from rfl)
theorem w3d : q8r pg := q6c (show pg.fn 384 = some _ from rfl)
theorem z1m : q3b pg 386 := z5l (show pg.fn 386 = some _ from rfl) j8p w3d
theorem j8q : j5s pg 291 := q6e (show pg.fn 291 = some _ from rfl) q6u q6x w66 z1m
theorem w3e : q8t pg := z8m (show pg.fn 399 = some _ from rfl)
theorem q3t : q7m pg 391 false := q7r (show pg.fn 391 = some _ from rfl)
theorem q4v : q7m pg 392 true := q7q (show pg.fn 392 = some _ from rfl)
theorem z9b : q8o pg := q88 (show pg.fn 308 = some _ from rfl) q9p q3t q4v
theorem v5p : w18 pg := z5h (show pg.fn 400 = some _ from rfl)
theorem q1c : j6u pg 321 := z1a (show pg.fn 321 = some _ from rfl) j8q w3e z9b v5p
theorem w5f : z4x pg := z5g (show pg.fn 310 = some _ from rfl) q1c
theorem z6b : q7l pg 277 := v4i (show pg.fn 277 = some _ from rfl)
theorem w25 : S_sl pg 202 := z7y (show pg.fn 202 = some _ from rfl) q1e w5f q7w q6x z6b j8q
theorem q9s : j7l pg 56 := w2w (show pg.fn 56 = some _ from rfl) q6w
theorem w3j : q8x pg := w2z (show pg.fn 57 = some _ from rfl)
theorem w67 : S_do pg 68 := do_of (show pg.fn 68 = some _ from rfl) w62
theorem w5g : z4y pg := v4l (show pg.fn 67 = some _ from rfl)
theorem z9h : q6a pg := z8o (show pg.fn 58 = some _ from rfl) w67 w5g
theorem z6g : q3f pg 41 := w6p (show pg.fn 41 = some _ from rfl) q9s w3j z9h
theorem q4w : q57 pg 264 := w6o (show pg.fn 264 = some _ from rfl) z6g q3j
theorem v5s : w2b pg := w2v (show pg.fn 397 = some _ from rfl) q40
theorem z1n : q3b pg 385 := z5i (show pg.fn 385 = some _ from rfl) w65 q4x
theorem j8r : j5s pg 289 := q9a (show pg.fn 289 = some _ from rfl) q6v w5g z1n
theorem z6h : q3g pg := z5t (show pg.fn 288 = some _ from rfl)
theorem q1d : j6u pg 320 := q89 (show pg.fn 320 = some _ from rfl) j8r z6h z1r
theorem v5o : w15 pg := z1c (show pg.fn 319 = some _ from rfl) v5s q1d
theorem w26 : S_sl pg 201 := z7x (show pg.fn 201 = some _ from rfl) q4w v5o z1q q9o j8r
theorem z9e : j93 pg := w6n (show pg.fn 141 = some _ from rfl)
theorem w27 : S_rs pg 189 := z7z (show pg.fn 189 = some _ from rfl) q1e w5f
theorem w28 : S_ro pg 187 := z8b (show pg.fn 187 = some _ from rfl) q1e q1c
theorem w29 : S_ro pg 186 := z8a (show pg.fn 186 = some _ from rfl) q4w q1d
theorem z9d : q3d pg := w6l (show pg.fn 137 = some _ from rfl) z9e
theorem w63 : z2i pg := w6m (show pg.fn 218 = some _ from rfl) z9d
theorem w3b : q8q pg := w2s (show pg.fn 218 = some _ from rfl) z9d
theorem v5k : w12 pg := v4h (show pg.fn 219 = some _ from rfl)
theorem w68 : z2m pg := w6u (show pg.fn 293 = some _ from rfl) q3u z3a
theorem z9j : z7m pg 254 := t_dCS (show pg.fn 254 = some _ from rfl) w5h q9q z3a w68
theorem w3a : q8p pg := z5j (show pg.fn 318 = some _ from rfl)
theorem v5v : w2j pg := z5u (show pg.fn 405 = some _ from rfl) j8p
theorem q3k : j88 pg 333 := z5r (show pg.fn 333 = some _ from rfl) v5v
theorem q7x : j89 pg := q7t (show pg.fn 39 = some _ from rfl) q41
theorem v5u : w2g pg := q9c (show pg.fn 403 = some _ from rfl)
theorem w64 : z2j pg := w6r (show pg.fn 357 = some _ from rfl) q7x v5u
theorem q7v : j6v pg 287 := z8l (show pg.fn 287 = some _ from rfl) j8p
theorem v5n : w14 pg := v4j (show pg.fn 358 = some _ from rfl) q7v
theorem v5m : w13 pg := q7u (show pg.fn 239 = some _ from rfl) q3i w64 q3k z9b v5n
theorem w3f : S_cs pg 200 := z8q (show pg.fn 200 = some _ from rfl) q1e j8q w3a q3k v5m
theorem z9c : q58 pg := z8c (show pg.fn 316 = some _ from rfl)
theorem q9w : j88 pg 331 := z1d (show pg.fn 331 = some _ from rfl) w65
theorem s_sub : w9s pg := w2u (show pg.fn 332 = some _ from rfl) q4x
theorem w3g : S_cs pg 199 := z8p (show pg.fn 199 = some _ from rfl) q4w j8r z9c q9w s_sub
theorem w3c : z5a pg := w2t (show pg.fn 121 = some _ from rfl) s_big z9k w25 w26 z9e w27 w28 w29 w63 w3b v5k z9j w3f w3g
theorem own : ownKnob Tryz.prog.godebug = none := by kernel_rfl
theorem z1w {H : Type} {d : DataW H} {l : List (DataW H)} (h : d ∈ l) : Rows.uptoBulk d ≤ Rows.uptoBulkAll l := by
 induction l with
 | nil => cases h
 | cons x r ih =>
  simp only [Rows.uptoBulkAll]
  cases List.mem_cons.1 h with
  | inl e => subst e; omega
  | inr e => have := ih e; omega
theorem one_le {H : Type} (d : DataW H) : 1 ≤ Rows.uptoBulk d := by
 cases d with
 | lit l => cases l <;> simp [Rows.uptoBulk]
 | _ => simp [Rows.uptoBulk]
theorem length_le {H : Type} (l : List (DataW H)) : l.length ≤ Rows.uptoBulkAll l := by
 induction l with
 | nil => simp [Rows.uptoBulkAll]
 | cons x r ih => have := one_le x; simp only [Rows.uptoBulkAll, List.length_cons]; omega
theorem bulk {H : Type} : Bulk (H := H) Rows.uptoBulk :=
 ⟨fun es rest => by have := length_le es; simp only [Rows.uptoBulk]; omega,
  fun es rest d h => by have := z1w h; simp only [Rows.uptoBulk]; omega,
  fun ps d h => by have := z1w h; simp only [Rows.uptoBulk]; omega⟩
theorem bound {H : Type} {l : List (DataW H)} (hk : Rows.uptoSmall H l = true) : Rows.uptoBulkAll l ≤ 1048576 := by
 simpa [Rows.uptoSmall] using hk
theorem laid : laidOutB Tryz.prog = true := by kernel_rfl
theorem v6f : Tryz.prog.readableRec 22 = true ∧ 22 < Tryz.prog.types.size := ⟨by kernel_rfl, of_decide_eq_true (by kernel_rfl)⟩
set_option maxRecDepth 100000 in
theorem contract (H : Type) (enc : TypeId × Value → H) (W : World) (base : Nat) (args : Array Value) (ds gs : List (DataW H)) (before : List MemPlace)
 (hval : ∀ (j : Nat) t v, Tryz.f5.params[j]? = some t → args[j]? = some v → Value.okWide Tryz.prog W .any base t v)
 (hW : DataW.Whole enc Tryz.prog Tryz.f5.params.toList Rows.fnSeriesSpec.vars false W args.toList ds gs before) (hk : Rows.uptoSmall H (ds ++ gs) = true) :
 Calls Tryz.prog 5 args W fun e W' => ∃ v, e = .returned v ∧ Rows.fnSeriesSpec.post enc Tryz.prog Tryz.f5 false true false false W args v W' := by
 have hW' := hW
 obtain ⟨p, q, hA, hV, rfl, hfz, hnd⟩ := hW
 rw [Tryz.params5] at hA hval
 obtain ⟨v0, vs0, d0, ds0, p0, q0, hargs, rfl, rfl, h0, r0⟩ := Go.ChangeShapes.trodAll_cons hA
 obtain ⟨rfl, rfl, rfl⟩ := Go.ChangeShapes.trodAll_nil r0
 obtain rfl : args = #[v0] := by cases args; simp_all
 have hb := bound hk
 have hb0 : Rows.uptoBulk d0 ≤ 1048576 := Nat.le_trans (z1w (by simp)) hb
 obtain ⟨a0, g0, x0⟩ := z98 (fm := fm) bulk Tryz.underlying22 Tryz.underlying5 (by kernel_rfl) (hval 0 22 v0 rfl rfl) h0
 obtain ⟨args', hc⟩ := w3c a0 ⟨Nat.le_trans x0.1 hb0, x0.2⟩
 refine (w3k (pact hc) (by simp) rfl (fun s t ht => ?_)).mono fun e W' ⟨he, hg⟩ => ?_
 · match s, ht with
   | 0, ht =>
    cases ht
    exact g0
 · subst he
   exact ⟨_, rfl, z90 hW' hg rfl rfl (by kernel_rfl) laid (fun t ht => by rw [Tryz.params5] at ht; simp at ht; rcases ht with rfl <;> first | exact v6f) rfl⟩
set_option maxRecDepth 100000 in
theorem lifted (os : Os) (started : os.Started) (H : Type) (enc : TypeId × Value → H) (F : Stop.Interp) :
 ReturnsInHanded {} Tryz.checked os 5 .any ((Rows.OpenSpec.upto Rows.fnSeriesSpec).pre6 enc Tryz.prog Tryz.f5 Rows.fnSeriesUptoRow.domain false) (((Rows.OpenSpec.upto Rows.fnSeriesSpec).at F).post enc Tryz.prog Tryz.f5 false true false false) := by
 refine returnsInHanded_of_cond (C := Tryz.checked) (s := Rows.OpenSpec.upto Rows.fnSeriesSpec) (k := Rows.uptoSmall) rfl own started (by kernel_rfl) Tryz.func5
  (OpenSpec.witness (enc := enc) (C := Tryz.checked) (s := Rows.OpenSpec.upto Rows.fnSeriesSpec) (k := Rows.uptoSmall) rfl false ⟨#[], #[.slice none 0 0], []⟩ 8 (by kernel_rfl) (by kernel_rfl) (by kernel_rfl)
   (x := ([.nil], [], [])) (by kernel_rfl) rfl (by kernel_rfl)) ?_
 intro W base args ds gs before hval hW _ hk _
 exact contract H enc W base args ds gs before hval hW hk
theorem over : Rows.fnSeriesUptoRow.holds Tryz.pinned (Rows.OpenSpec.upto Rows.fnSeriesSpec) :=
 OpenClaim.holds_of_cond 5 Tryz.f5 rfl rfl rfl rfl rfl rfl rfl ⟨rfl, rfl, rfl, rfl, rfl⟩ rfl rfl rfl rfl rfl (by kernel_rfl) Tryz.func5 (by kernel_rfl)
  (of_decide_eq_true (by kernel_rfl)) (by unfold Func.isWrapper; first | (rw [if_pos (by decide +kernel)]; kernel_rfl) | (rw [if_neg (by decide +kernel)]; exact ⟨rfl, rfl⟩))
  (fun os started H enc _ F => lifted os started H enc F)
theorem proved : Rows.FnSeriesUptoSaid :=
 over
end Go.Proofs.YtpaklggigidikaaGreat.fnSeries
