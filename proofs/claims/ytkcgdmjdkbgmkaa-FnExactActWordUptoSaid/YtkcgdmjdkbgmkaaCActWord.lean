/- The program's ActWord returns what the reference's returns, for all arguments that hold together at most 1048576 values. -/
import Derived.Test.YtkcgdmjdkbgmkaaTie
import Derived.Test.YtkcgdmjdkbgmkaaP1
namespace Go.Proofs.Ytkcgdmjdkbgmkaa.fnExactActWord
open Go.Mch Tie
theorem s_in_30 : S_in pg 30 := t_l01In (show pg.fn 30 = some _ from rfl)
theorem s_table_46 : S_table pg 46 := t_l01Table (show pg.fn 46 = some _ from rfl) s_in_30
theorem s_pairMap_56 : S_pairMap pg 56 := t_l02Map (show pg.fn 56 = some _ from rfl) s_table_46
theorem s_coll57 : S_coll57 pg := t_coll57 (show pg.fn 57 = some _ from rfl)
theorem s_own : S_own pg := t_own (show pg.fn 31 = some _ from rfl)
theorem s_do_68 : S_do pg 68 := do_of (show pg.fn 68 = some _ from rfl) s_own
theorem s_same : S_same pg := t_same (show pg.fn 67 = some _ from rfl)
theorem s_fault58 : S_fault58 pg := t_fault58 (show pg.fn 58 = some _ from rfl) s_do_68 s_same
theorem s_isSol_41 : S_isSol pg 41 := t_l02Is (show pg.fn 41 = some _ from rfl) s_pairMap_56 s_coll57 s_fault58
theorem s_word : S_word pg := t_l09Word (show pg.fn 53 = some _ from rfl) s_in_30
theorem s_code37 : S_code37 pg := t_l09Code (show pg.fn 37 = some _ from rfl) s_isSol_41 s_word
theorem s_aw_15 : S_aw pg 15 := t_aw_spec (show pg.fn 15 = some _ from rfl) s_code37 s_in_30
theorem z_in_35 : S_in pg0 35 := t_within (show pg0.fn 35 = some _ from rfl)
theorem z_allWithin : S_allWithin pg0 := t_allWithin (show pg0.fn 54 = some _ from rfl) z_in_35
theorem z_isTable1 : S_isTable1 pg0 := t_isTable1 (show pg0.fn 64 = some _ from rfl) z_allWithin
theorem z_indexFunc : S_indexFunc pg0 := t_indexFunc (show pg0.fn 70 = some _ from rfl)
theorem z_containsFunc : S_containsFunc pg0 := t_containsFunc (show pg0.fn 63 = some _ from rfl) z_indexFunc
theorem z_table_50 : S_table pg0 50 := t_isTable (show pg0.fn 50 = some _ from rfl) z_in_35 z_isTable1 z_containsFunc
theorem z_pairMap_59 : S_pairMap pg0 59 := t_isPairMap (show pg0.fn 59 = some _ from rfl) z_table_50
theorem z_coll60 : S_coll60 pg0 := t_coll60 (show pg0.fn 60 = some _ from rfl)
theorem z_fault61 : S_fault61 pg0 := t_fault61 (show pg0.fn 61 = some _ from rfl)
theorem z_isSol_42 : S_isSol pg0 42 := t_IsSolution (show pg0.fn 42 = some _ from rfl) z_pairMap_59 z_coll60 z_fault61
theorem z_areElements : S_areElements pg0 := t_areElements (show pg0.fn 39 = some _ from rfl) z_allWithin
theorem z_chk38 : S_chk38 pg0 := t_checkWords (show pg0.fn 38 = some _ from rfl) z_isSol_42 z_areElements
theorem z_back : S_back pg0 := t_back (show pg0.fn 40 = some _ from rfl)
theorem s_aw_17 : S_aw pg 17 := aw_impl act_call z_chk38 z_areElements z_back
theorem s_szI : S_szI pg := t_szI (show pg.fn 45 = some _ from rfl)
theorem s_szT : S_szT pg := t_szT (show pg.fn 27 = some _ from rfl) s_szI
theorem s_szSol : S_szSol pg := t_szSol (show pg.fn 14 = some _ from rfl) s_szT
theorem s_toI : S_toI pg := t_toI (show pg.fn 7 = some _ from rfl)
theorem s_toT : S_toT pg := t_toT (show pg.fn 32 = some _ from rfl) s_toI
theorem s_toSol : S_toSol pg := t_toSol (show pg.fn 16 = some _ from rfl) s_toT
theorem s_eqI : S_eqI pg := t_eqI (show pg.fn 9 = some _ from rfl)
theorem s_eqT : S_eqT pg := t_eqT (show pg.fn 21 = some _ from rfl) s_eqI
theorem s_eqSol : S_eqSol pg := t_eqSol (show pg.fn 18 = some _ from rfl) s_eqT
theorem s_law1 : S_law1 pg := t_law1 (show pg.fn 1 = some _ from rfl) s_aw_15 s_aw_17 s_szSol s_toSol s_eqSol s_toI s_eqI
theorem own : ownKnob Try.prog.godebug = none := by kernel_rfl
theorem part_le {H : Type} {d : DataW H} {l : List (DataW H)} (h : d ∈ l) : Rows.uptoBulk d ≤ Rows.uptoBulkAll l := by
 induction l with
 | nil => cases h
 | cons x r ih =>
  simp only [Rows.uptoBulkAll]
  cases List.mem_cons.1 h with
  | inl e => subst e; omega
  | inr e => have := ih e; omega
theorem one_le {H : Type} (d : DataW H) : 1 ≤ Rows.uptoBulk d := by
 cases d with
 | lit l => cases l <;> simp [Rows.uptoBulk]
 | _ => simp [Rows.uptoBulk]
theorem length_le {H : Type} (l : List (DataW H)) : l.length ≤ Rows.uptoBulkAll l := by
 induction l with
 | nil => simp [Rows.uptoBulkAll]
 | cons x r ih => have := one_le x; simp only [Rows.uptoBulkAll, List.length_cons]; omega
theorem bulk {H : Type} : Bulk (H := H) Rows.uptoBulk :=
 ⟨fun es rest => by have := length_le es; simp only [Rows.uptoBulk]; omega,
  fun es rest d h => by have := part_le h; simp only [Rows.uptoBulk]; omega,
  fun ps d h => by have := part_le h; simp only [Rows.uptoBulk]; omega⟩
theorem bound {H : Type} {l : List (DataW H)} (hk : Rows.uptoSmall H l = true) : Rows.uptoBulkAll l ≤ 1048576 := by
 simpa [Rows.uptoSmall] using hk
theorem laid : laidOutB Try.prog = true := by kernel_rfl
theorem read2 : Try.prog.readableRec 2 = true ∧ 2 < Try.prog.types.size := ⟨by kernel_rfl, of_decide_eq_true (by kernel_rfl)⟩
theorem read24 : Try.prog.readableRec 24 = true ∧ 24 < Try.prog.types.size := ⟨by kernel_rfl, of_decide_eq_true (by kernel_rfl)⟩
theorem read25 : Try.prog.readableRec 25 = true ∧ 25 < Try.prog.types.size := ⟨by kernel_rfl, of_decide_eq_true (by kernel_rfl)⟩
set_option maxRecDepth 100000 in
theorem contract (H : Type) (enc : TypeId × Value → H) (W : World) (base : Nat) (args : Array Value) (ds gs : List (DataW H)) (before : List MemPlace)
 (hval : ∀ (j : Nat) t v, Try.f3.params[j]? = some t → args[j]? = some v → Value.okWide Try.prog W .any base t v)
 (hW : DataW.Whole enc Try.prog Try.f3.params.toList Rows.fnExactActWordSpec.vars false W args.toList ds gs before) (hk : Rows.uptoSmall H (ds ++ gs) = true) :
 Calls Try.prog 3 args W fun e W' => ∃ v, e = .returned v ∧ Rows.fnExactActWordSpec.post enc Try.prog Try.f3 false true false false W args v W' := by
 have hW' := hW
 obtain ⟨p, q, hA, hV, rfl, hfz, hnd⟩ := hW
 rw [Try.params3] at hA hval
 obtain ⟨v0, vs0, d0, ds0, p0, q0, hargs, rfl, rfl, h0, r0⟩ := Go.ChangeShapes.trodAll_cons hA
 obtain ⟨v1, vs1, d1, ds1, p1, q1, rfl, rfl, rfl, h1, r1⟩ := Go.ChangeShapes.trodAll_cons r0
 obtain ⟨v2, vs2, d2, ds2, p2, q2, rfl, rfl, rfl, h2, r2⟩ := Go.ChangeShapes.trodAll_cons r1
 obtain ⟨rfl, rfl, rfl⟩ := Go.ChangeShapes.trodAll_nil r2
 obtain rfl : args = #[v0, v1, v2] := by cases args; simp_all
 have hb := bound hk
 have hb0 : Rows.uptoBulk d0 ≤ 1048576 := Nat.le_trans (part_le (by simp)) hb
 obtain ⟨a0, b0, g0, x0, y0⟩ := open_sol (fm := fm) bulk Try.underlying24 Try.underlying22 Try.underlying22 Try.underlying25 Try.underlying2 (by kernel_rfl) (by kernel_rfl) (by kernel_rfl) (by kernel_rfl) (by kernel_rfl) rfl rfl (hval 0 24 v0 rfl rfl) h0
 have hb1 : Rows.uptoBulk d1 ≤ 1048576 := Nat.le_trans (part_le (by simp)) hb
 obtain ⟨a1, g1, x1⟩ := open_argI (fm := fm) bulk Try.underlying25 Try.underlying2 (by kernel_rfl) (hval 1 25 v1 rfl rfl) h1
 have hb2 : Rows.uptoBulk d2 ≤ 1048576 := Nat.le_trans (part_le (by simp)) hb
 obtain ⟨a2, g2, x2⟩ := open_argN (fm := fm) Try.underlying2 (hval 2 2 v2 rfl rfl) h2
 obtain ⟨args', hc⟩ := s_law1 a0 b0 a1 a2 ⟨by omega, fun q hq => by have := (x0.2 q hq).1; omega⟩ ⟨by omega, fun q hq => by have := (y0.2 q hq).1; omega⟩ (by omega)
 refine (run_true (pact hc) (by simp) rfl (fun s t ht => ?_)).mono fun e W' ⟨he, hg⟩ => ?_
 · match s, ht with
   | 0, ht =>
    cases ht
    exact g0
   | 1, ht =>
    cases ht
    exact g1
   | 2, ht =>
    cases ht
    exact g2
 · subst he
   exact ⟨_, rfl, post_true hW' hg rfl rfl (by kernel_rfl) laid (fun t ht => by rw [Try.params3] at ht; simp at ht; rcases ht with rfl | rfl | rfl <;> first | exact read2 | exact read24 | exact read25) rfl⟩
set_option maxRecDepth 100000 in
theorem lifted (os : Os) (started : os.Started) (H : Type) (enc : TypeId × Value → H) (F : Stop.Interp) :
 ReturnsInHanded {} Try.checked os 3 .any ((Rows.OpenSpec.upto Rows.fnExactActWordSpec).pre6 enc Try.prog Try.f3 Rows.fnExactActWordUptoRow.domain false) (((Rows.OpenSpec.upto Rows.fnExactActWordSpec).at F).post enc Try.prog Try.f3 false true false false) := by
 refine returnsInHanded_of_cond (C := Try.checked) (s := Rows.OpenSpec.upto Rows.fnExactActWordSpec) (k := Rows.uptoSmall) rfl own started (by kernel_rfl) Try.func3
  (OpenSpec.witness (enc := enc) (C := Try.checked) (s := Rows.OpenSpec.upto Rows.fnExactActWordSpec) (k := Rows.uptoSmall) rfl false ⟨#[], #[.agg #[.slice none 0 0, .slice none 0 0], .slice none 0 0, .int .i64 0], []⟩ 8 (by kernel_rfl) (by kernel_rfl) (by kernel_rfl)
   (x := ([.agg [.nil, .nil], .nil, .lit (.int .i64 0)], [], [])) (by kernel_rfl) rfl (by kernel_rfl)) ?_
 intro W base args ds gs before hval hW _ hk _
 exact contract H enc W base args ds gs before hval hW hk
theorem over : Rows.fnExactActWordUptoRow.holds Try.pinned (Rows.OpenSpec.upto Rows.fnExactActWordSpec) :=
 OpenClaim.holds_of_cond 3 Try.f3 rfl rfl rfl rfl rfl rfl rfl ⟨rfl, rfl, rfl, rfl, rfl⟩ rfl rfl rfl rfl rfl (by kernel_rfl) Try.func3 (by kernel_rfl)
  (of_decide_eq_true (by kernel_rfl)) (by unfold Func.isWrapper; first | (rw [if_pos (by decide +kernel)]; kernel_rfl) | (rw [if_neg (by decide +kernel)]; exact ⟨rfl, rfl⟩))
  (fun os started H enc _ F => lifted os started H enc F)
theorem proved : Rows.FnExactActWordUptoSaid :=
 over
end Go.Proofs.Ytkcgdmjdkbgmkaa.fnExactActWord
