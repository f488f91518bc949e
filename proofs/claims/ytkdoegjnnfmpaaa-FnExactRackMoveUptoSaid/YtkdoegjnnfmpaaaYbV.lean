/- One operation of the compact code against the model's. -/
import Derived.Test.YtkdoegjnnfmpaaaYdC
namespace Go.Mch

def okDst (nt : Nat) (q : Q) (d : Option Nat) : Bool :=
  match q with
  | .st .. => d.isNone
  | .sts .. => d.isNone
  | .call .. => d.all (fun d => decide (d < nt))
  | .callm .. => d.all (fun d => decide (d < nt))
  | .freeze _ => false
  | .settle _ => false
  | _ => d.any (fun d => decide (d < nt))

section
variable {P : Program} {cx : Cx} {nt : Nat} {Kt : Env → Prop} {o : Oper} {a : Act} {w : World} {e : Env} {d : Nat} {G : Rl} {m : K}

theorem okDst_some {nt : Nat} {d : Option Nat} (h : d.any (fun d => decide (d < nt)) = true) : ∃ x, d = some x ∧ x < nt := by
  cases d with
  | none => simp at h
  | some x => exact ⟨x, rfl, by simpa using h⟩

theorem arr1 {α : Type} {as : Array α} {l : List α} (h : as.toList = l) : as = l.toArray := by rw [← h]

theorem stepQ_sound (hG : ∀ f args args' r, G f args args' r → Pact P cx.fm f args args' r) (hN : ∀ b, ¬ cx.N b) (hm : m ≠ .own) (hm2 : m = .fresh → ∀ b, ¬ cx.M b) (h : Rel cx nt e a w)
    {q : Q} (hq : okQ P cx.fm q o.op = true) (hd : okDst nt q o.dst = true) (hs : stepQ G m o.dst q Kt e) : Good P cx nt Kt o a w := by
  generalize hop : o.op = op at hq
  unfold okQ at hq
  split at hq
  next x y =>
    obtain ⟨d, hdd, hlt⟩ := okDst_some hd
    simp only [stepQ, bindP, hdd] at hs
    obtain ⟨v, h1, hK⟩ := hs
    exact good_move h (.inl hop) hq hdd hlt h1 hK
  next x y =>
    obtain ⟨d, hdd, hlt⟩ := okDst_some hd
    simp only [stepQ, bindP, hdd] at hs
    obtain ⟨v, h1, hK⟩ := hs
    split at hK
    · exact good_move h (.inr hop) hq hdd hlt h1 hK
    · obtain ⟨y, h2, hK⟩ := hK
      exact good_asg h hop hq hdd hlt h1 h2 hK
  next x y =>
    obtain ⟨d, hdd, hlt⟩ := okDst_some hd
    simp only [stepQ, bindP, hdd] at hs
    obtain ⟨v, h1, h2, hK⟩ := hs
    exact good_move h (.inl hop) hq hdd hlt h1 hK
  next x y t x' y' =>
    have hdd : o.dst = none := by simpa [okDst] using hd
    simp only [stepQ, bindP] at hs
    simp only [Bool.and_eq_true, beq_iff_eq] at hq
    obtain ⟨p, h1, v, h2, hK⟩ := hs
    split at hK
    · split at hK
      · rename_i h4
        obtain ⟨h5, hK⟩ := hK
        exact good_st (n := none) h hop hq.1.1 hq.1.2 hq.2 hdd h1 h2 (t1 := .sc _) (e1 := e) rfl h4 rfl (by simp only [T.cells, List.length_cons, List.length_nil]; omega) rfl hK
      · exact hK.elim
    · exact hK.elim
  next x y =>
    obtain ⟨d, hdd, hlt⟩ := okDst_some hd
    simp only [stepQ, bindP, hdd] at hs
    obtain ⟨v, h1, hK⟩ := hs
    exact good_move h (.inr hop) hq hdd hlt h1 hK
  next c x y c' x' y' =>
    obtain ⟨d, hdd, hlt⟩ := okDst_some hd
    simp only [stepQ, bindP, hdd] at hs
    simp only [Bool.and_eq_true] at hq
    obtain ⟨t, h1, v, h2, hK⟩ := hs
    exact good_pick h hop hq.1.1 hq.1.2 hq.2 hdd hlt h1 h2 hK
  next op x y op' t x' y' u =>
    obtain ⟨d, hdd, hlt⟩ := okDst_some hd
    simp only [stepQ, bindP, hdd] at hs
    simp only [Bool.and_eq_true, beq_iff_eq] at hq
    obtain ⟨p, h1, q, h2, v, h3, hK⟩ := hs
    obtain ⟨⟨rfl, hx⟩, hy⟩ := hq
    exact good_bin h hop hx hy hdd hlt h1 h2 h3 hK
  next neg x y op t x' y' u =>
    obtain ⟨d, hdd, hlt⟩ := okDst_some hd
    simp only [stepQ, bindP, hdd] at hs
    simp only [Bool.and_eq_true, beq_iff_eq] at hq
    obtain ⟨p, h1, q, h2, hK⟩ := hs
    obtain ⟨⟨⟨hn, ht⟩, hx⟩, hy⟩ := hq
    have ht' : P.underlying t = some .bool := by
      split at ht
      · assumption
      · cases ht
    exact good_beq h hop hn ht' hx hy hdd hlt h1 h2 hK
  next neg x op t x' y' u =>
    obtain ⟨d, hdd, hlt⟩ := okDst_some hd
    simp only [stepQ, bindP, hdd] at hs
    simp only [Bool.and_eq_true, beq_iff_eq] at hq
    obtain ⟨p, h1, hK⟩ := hs
    obtain ⟨⟨⟨hn, ht⟩, hx⟩, hy⟩ := hq
    exact good_isnil h hop hn ht hx hy hdd hlt h1 hK
  next op x op' t x' =>
    obtain ⟨d, hdd, hlt⟩ := okDst_some hd
    simp only [stepQ, bindP, hdd] at hs
    simp only [Bool.and_eq_true, beq_iff_eq] at hq
    obtain ⟨p, h1, v, h2, hK⟩ := hs
    obtain ⟨rfl, hx⟩ := hq
    exact good_un h hop hx hdd hlt h1 h2 hK
  next k x s t x' =>
    obtain ⟨d, hdd, hlt⟩ := okDst_some hd
    simp only [stepQ, bindP, hdd] at hs
    simp only [Bool.and_eq_true] at hq
    obtain ⟨n, h1, hK⟩ := hs
    obtain ⟨ht, hx⟩ := hq
    split at ht
    · rename_i hs' ht'
      simp only [beq_iff_eq] at ht
      subst ht
      exact good_conv h hop hs' ht' hx hdd hlt h1 hK
    · cases ht
  next x as ts =>
    obtain ⟨d, hdd, hlt⟩ := okDst_some hd
    simp only [stepQ, bindP, hdd] at hs
    split at hq
    · rename_i x' t has hts
      simp only [Bool.and_eq_true] at hq
      obtain ⟨n, h1, hK⟩ := hs
      exact good_len h (by rw [hop, arr1 has, arr1 hts]) hq.1 hq.2 hdd hlt h1 hK
    · cases hq
  next x as ts =>
    obtain ⟨d, hdd, hlt⟩ := okDst_some hd
    simp only [stepQ, bindP, hdd] at hs
    split at hq
    · rename_i x' t has hts
      simp only [Bool.and_eq_true] at hq
      obtain ⟨n, h1, hK⟩ := hs
      obtain ⟨ht, hx⟩ := hq
      have ht' : P.underlying t = some .string := by
        split at ht
        · assumption
        · cases ht
      exact good_slen h (by rw [hop, arr1 has, arr1 hts]) ht' hx hdd hlt h1 hK
    · cases hq
  next sz x i t x' i' =>
    obtain ⟨d, hdd, hlt⟩ := okDst_some hd
    simp only [stepQ, bindP, hdd] at hs
    simp only [Bool.and_eq_true, Option.any_eq_true, beq_iff_eq] at hq
    obtain ⟨p, h1, n, h2, v, h3, hK⟩ := hs
    obtain ⟨⟨⟨el, hel, hsz⟩, hx⟩, hi⟩ := hq
    exact good_idx h hop hel hsz hx hi hdd hlt h1 h2 h3 hK
  next x i t x' i' =>
    obtain ⟨d, hdd, hlt⟩ := okDst_some hd
    simp only [stepQ, bindP, hdd] at hs
    simp only [Bool.and_eq_true] at hq
    obtain ⟨p, h1, n, h2, hK⟩ := hs
    obtain ⟨⟨ht, hx⟩, hi⟩ := hq
    have ht' : P.underlying t = some .string := by
      split at ht
      · assumption
      · cases ht
    split at hK
    · obtain ⟨b, h3, hK⟩ := hK
      exact good_at h hop ht' hx hi hdd hlt h1 h2 h3 hK
    · exact hK.elim
  next off x t x' f =>
    obtain ⟨d, hdd, hlt⟩ := okDst_some hd
    simp only [stepQ, bindP, hdd] at hs
    simp only [Bool.and_eq_true, Option.any_eq_true, beq_iff_eq, bne_iff_ne, ne_eq] at hq
    obtain ⟨p, h1, v, h2, hK⟩ := hs
    obtain ⟨⟨fl, hf, rfl, n, hn, hn0⟩, hx⟩ := hq
    exact good_fld h hop hf hn hn0 hx hdd hlt h1 h2 hK
  next off n x t x' f =>
    obtain ⟨d, hdd, hlt⟩ := okDst_some hd
    simp only [stepQ, bindP, hdd] at hs
    simp only [Bool.and_eq_true, Option.any_eq_true, beq_iff_eq] at hq
    obtain ⟨p, h1, v, h2, hK⟩ := hs
    obtain ⟨⟨fl, hf, rfl, hn⟩, hx⟩ := hq
    exact good_fldv h hop hf hn hx hdd hlt h1 h2 hK
  next n x t x' =>
    obtain ⟨d, hdd, hlt⟩ := okDst_some hd
    simp only [stepQ, bindP, hdd] at hs
    simp only [Bool.and_eq_true] at hq
    obtain ⟨p, h1, v, h2, hK⟩ := hs
    exact good_ld h hop hq.1 hq.2 hdd hlt h1 h2 hK
  next n x y t x' y' =>
    have hdd : o.dst = none := by simpa [okDst] using hd
    simp only [stepQ, bindP] at hs
    simp only [Bool.and_eq_true, beq_iff_eq] at hq
    obtain ⟨p, h1, v, h2, z, h3, hK⟩ := hs
    split at hK
    · split at hK
      · rename_i h4
        obtain ⟨⟨h5, h6, h7⟩, hK⟩ := hK
        exact good_st h hop hq.1.1 hq.1.2 hq.2 hdd h1 h2 h3 h4 h5 h6 h7 hK
      · exact hK.elim
    · exact hK.elim
  next x x' =>
    obtain ⟨d, hdd, hlt⟩ := okDst_some hd
    simp only [stepQ, bindP, hdd] at hs
    obtain ⟨p, h1, hK⟩ := hs
    split at hK
    · exact good_nilck h hop hq hdd hlt h1 (.inl ⟨_, _, _, rfl⟩) hK
    · exact good_nilck h hop hq hdd hlt h1 (.inr ⟨_, _, rfl⟩) hK
    · exact hK.elim
  next zs t =>
    obtain ⟨d, hdd, hlt⟩ := okDst_some hd
    simp only [stepQ, hdd] at hs
    exact good_alloc hN h hop hq hdd hlt hs
  next x t x' =>
    obtain ⟨d, hdd, hlt⟩ := okDst_some hd
    simp only [stepQ, bindP, hdd] at hs
    obtain ⟨v, h1, z, h2, h3, hK⟩ := hs
    exact good_box hN h hop hq hdd hlt h1 h2 h3 hK
  next zs ps t ps' =>
    obtain ⟨d, hdd, hlt⟩ := okDst_some hd
    simp only [stepQ, bindP, hdd] at hs
    simp only [Bool.and_eq_true] at hq
    obtain ⟨vps, h1, vs, h2, hK⟩ := hs
    obtain ⟨⟨hz, hu⟩, hp⟩ := hq
    split at hu
    · rename_i fs hu'
      exact good_build h hop hz hu' hu hp hdd hlt h1 h2 hK
    · cases hu
  next z n t l c =>
    obtain ⟨d, hdd, hlt⟩ := okDst_some hd
    simp only [stepQ, bindP, hdd] at hs
    simp only [Bool.and_eq_true, Option.any_eq_true, beq_iff_eq, decide_eq_true_eq] at hq
    obtain ⟨k, h1, ⟨h2, h3⟩, hK⟩ := hs
    obtain ⟨⟨⟨el, hel, ⟨hsz, hz⟩, b, hb, hb2⟩, hl⟩, hc⟩ := hq
    exact good_mks hN h hop hel hsz (by rw [Option.any_eq_true]; exact hz) hb hb2 hl hc hdd hlt h1 h2 h3 hK
  next ps t n ps' =>
    obtain ⟨d, hdd, hlt⟩ := okDst_some hd
    simp only [stepQ, bindP, hdd] at hs
    simp only [Bool.and_eq_true, Option.any_eq_true, beq_iff_eq, decide_eq_true_eq] at hq
    obtain ⟨vs, h1, y, h2, h3, hK⟩ := hs
    obtain ⟨⟨⟨⟨el, hel, hsz, hz⟩, hn⟩, hr⟩, hps⟩ := hq
    exact good_bsl hN h hop hel hsz (by rw [Option.any_eq_true]; obtain ⟨z, hz1, hz2⟩ := hz; exact ⟨z, hz1, by simpa using hz2⟩) hn hr hps hdd hlt h1 h2 h3 hK
  next mv sz x y as ts =>
    obtain ⟨d, hdd, hlt⟩ := okDst_some hd
    simp only [stepQ, bindP, hdd] at hs
    split at hq
    · rename_i x' y' t u has hts
      simp only [Bool.and_eq_true, Option.any_eq_true, beq_iff_eq, decide_eq_true_eq] at hq
      obtain ⟨p, h1, q, h2, z, h3, u', h4, ⟨h5, h6⟩, hK⟩ := hs
      obtain ⟨⟨⟨⟨⟨el, hel, ⟨hsz, hz⟩, b, hb, hb2⟩, hpos⟩, hu⟩, hx⟩, hy⟩ := hq
      refine good_app hN h (by rw [hop, arr1 has, arr1 hts]) hel hsz (by rw [Option.any_eq_true]; obtain ⟨z, hz1, hz2⟩ := hz; exact ⟨z, hz1, by simpa using hz2⟩) hb hb2 hpos hu hx hy hdd hlt h1 h2 h3 h4 h5 h6 (fun hz he => ?_) (fun hz he => ?_) (fun ts hz => ?_)
      · rw [hz] at hK; exact hK.1 he
      · rw [hz] at hK; exact hK.2 he
      · rw [hz] at hK; exact hK
    · cases hq
  next sz x lo hi t x' lo' hi' =>
    obtain ⟨d, hdd, hlt⟩ := okDst_some hd
    simp only [stepQ, bindP, hdd] at hs
    simp only [Bool.and_eq_true, Option.any_eq_true, beq_iff_eq, decide_eq_true_eq] at hq
    obtain ⟨p, h1, l, h2, hh, h3, v, h4, hK⟩ := hs
    obtain ⟨⟨⟨⟨⟨el, hel, hsz⟩, hpos⟩, hx⟩, hlo⟩, hhi⟩ := hq
    exact good_sl h hop hel hsz hpos hx hlo hhi hdd hlt h1 h2 h3 h4 hK
  next x i x' i' =>
    obtain ⟨d, hdd, hlt⟩ := okDst_some hd
    simp only [stepQ, bindP, hdd] at hs
    simp only [Bool.and_eq_true, beq_iff_eq] at hq
    obtain ⟨p, h1, v, h2, hK⟩ := hs
    obtain ⟨rfl, hx⟩ := hq
    exact good_ext h hop hx hdd hlt h1 h2 hK
  next f caps g first caps' =>
    obtain ⟨d, hdd, hlt⟩ := okDst_some hd
    simp only [stepQ, bindP, hdd] at hs
    simp only [Bool.and_eq_true, beq_iff_eq, List.isEmpty_iff] at hq
    obtain ⟨y, h1, hK⟩ := hs
    exact good_fnc hN hm hm2 h (by rw [hop, arr1 hq.2]) hq.1.1 hq.1.2 hdd hlt h1 hK
  next f args f' args' ats =>
    simp only [okDst] at hd
    simp only [stepQ, bindP] at hs
    simp only [Bool.and_eq_true] at hq
    obtain ⟨fv, h1, hK⟩ := hs
    split at hK
    · obtain ⟨ts, h2, ts', r, h3, h4, h5, e', h6, hK⟩ := hK
      exact good_call (fun f args args' r _ hg => hG f args args' r hg) hN h hop hq.1.1 hq.1.2 hq.2 (fun d hdd => by rw [hdd] at hd; simpa using hd) h1 h2 h3 (fun hl => (h5 hl).1) h6 hK
    · exact hK.elim
  next f args ks f' args' ats =>
    simp only [okDst] at hd
    simp only [stepQ, bindP] at hs
    simp only [Bool.and_eq_true] at hq
    obtain ⟨fv, h1, hK⟩ := hs
    split at hK
    · obtain ⟨vs, h2, h3, y, h4, h5, ts', r, h6, h7, e2, h8, e3, h9, hK⟩ := hK
      exact good_callm hG hN h hop hq.1 hq.2 (fun d hdd => by rw [hdd] at hd; simpa using hd) h1 h2 h3 h4 h5 h6 h7 h8 h9 hK
    · exact hK.elim
  next s t x' =>
    obtain ⟨d, hdd, hlt⟩ := okDst_some hd
    simp only [stepQ, bindP, hdd] at hs
    obtain ⟨v, h1, hK⟩ := hs
    split at hK
    · rename_i ts d' hd'
      cases hd'
      obtain ⟨⟨h2, h3⟩, hK⟩ := hK
      exact good_boxk hN h hop hq hdd hlt h1 h2 h3 hK
    · exact hK.elim
  next => cases hq

end
end Go.Mch
