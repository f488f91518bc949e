/- Regions that draw their order, against the model's. -/
import Derived.Test.YtkdoegjnnfmpaaaYbZ
namespace Go.Mch

def okRow (P : Program) (fm : Nat → Nat) (nt : Nat) (ops : Array Oper) : List O → List Oper → Bool
  | [], [] => true
  | o :: l, x :: xs => okO P fm nt ops o x && okRow P fm nt ops l xs
  | _, _ => false

def maskOf (acc : List Nat) : List Edge → Nat
  | [] => 0
  | e :: es => if Region.binds .any e then (2 ^ e.on ||| acc.getD e.on 0) ||| maskOf acc es else maskOf acc es

/-- For each operation, those that come before it in every order. -/
def masks : List Oper → List Nat → List Nat
  | [], acc => acc
  | x :: xs, acc => masks xs (acc ++ [maskOf acc x.after.toList])

def okEdges : Nat → List Oper → Bool
  | _, [] => true
  | i, x :: xs => x.after.toList.all (fun e => !Region.binds .any e || decide (e.on < i)) && okEdges (i + 1) xs

def dstIn (ds : List Nat) (o : O) : Bool := o.d.all ds.contains

def okPairs (ms ds : List Nat) (os : List O) : Bool :=
  (List.range os.length).all fun i => (List.range i).all fun j => (ms.getD i 0).testBit j || (commutes (os.getD j default) (os.getD i default) && dstIn ds (os.getD j default) && dstIn ds (os.getD i default))

def okDsts : List O → Bool
  | [] => true
  | o :: l => (match o.d with | some d => l.all (fun p => p.d != some d) | none => true) && okDsts l

def okDraw (P : Program) (fm : Nat → Nat) (nt : Nat) (ops : Array Oper) (ds : List Nat) (os : List O) : Bool :=
  okRow P fm nt ops os ops.toList && okEdges 0 ops.toList && okDsts os && okPairs (masks ops.toList []) ds os && os.all (fun o => o.q.rOnly)

section
variable {P : Program} {cx : Cx} {nt : Nat} {Kt : Env → Prop} {G : Rl} {m : K} {ops : Array Oper} {os : List O}

def Closed (ops : Array Oper) (listed : Array Bool) : Prop := ∀ (i : Nat) (x : Oper), ops[i]? = some x → listed.getD i true = true → ∀ e, e ∈ x.after → Region.binds .any e = true → listed.getD e.on false = true

def Dn (ops : Array Oper) (i j : Nat) : Prop := ∀ (listed : Array Bool) (x : Oper), Closed ops listed → ops[i]? = some x → (∀ e, e ∈ x.after → Region.binds .any e = true → listed.getD e.on false = true) → listed.getD j false = true

theorem getD_tf {l : Array Bool} {j : Nat} (h : l.getD j false = true) : l.getD j true = true := by
  rw [Array.getD_eq_getD_getElem?] at h ⊢
  cases hj : l[j]? with
  | none => rw [hj] at h; simp at h
  | some b => rw [hj] at h; simpa using h

theorem mask_spec {acc : List Nat} (hacc : ∀ i j, (acc.getD i 0).testBit j = true → Dn ops i j) {listed : Array Bool} (hc : Closed ops listed) (hops : ∀ i, i < acc.length → ∃ x, ops[i]? = some x) {j : Nat} :
    ∀ es : List Edge, (∀ e, e ∈ es → Region.binds .any e = true → listed.getD e.on false = true) → (maskOf acc es).testBit j = true → listed.getD j false = true
  | [], _, h => by simp [maskOf] at h
  | e :: es, he, h => by
    simp only [maskOf] at h
    split at h
    · rename_i hb
      simp only [Nat.testBit_or, Bool.or_eq_true] at h
      rcases h with (h | h) | h
      · rw [Nat.testBit_two_pow] at h
        have hj : e.on = j := by simpa using h
        subst hj
        exact he e (by simp) hb
      · have hl := he e (by simp) hb
        have hlt : e.on < acc.length := by
          rcases Nat.lt_or_ge e.on acc.length with h' | h'
          · exact h'
          · rw [List.getD_eq_getElem?_getD, List.getElem?_eq_none h'] at h; simp at h
        obtain ⟨x, hx⟩ := hops e.on hlt
        exact hacc e.on j h listed x hc hx (hc e.on x hx (getD_tf hl))
      · exact mask_spec hacc hc hops es (fun e' h' => he e' (by simp [h'])) h
    · exact mask_spec hacc hc hops es (fun e' h' => he e' (by simp [h'])) h

theorem masks_spec : ∀ (xs : List Oper) (acc : List Nat), (∀ j, j < xs.length → ops[acc.length + j]? = xs[j]?) → (∀ i, i < acc.length → ∃ x, ops[i]? = some x) → (∀ i j, (acc.getD i 0).testBit j = true → Dn ops i j) →
    ∀ i j, ((masks xs acc).getD i 0).testBit j = true → Dn ops i j
  | [], _, _, _, hacc => hacc
  | x :: xs, acc, hx, hops, hacc => by
    have hx0 : ops[acc.length]? = some x := by have := hx 0 (by simp); simpa using this
    refine masks_spec xs (acc ++ [maskOf acc x.after.toList]) (fun j hj => ?_) (fun i hi => ?_) (fun i j hij => ?_)
    · have := hx (j + 1) (by simpa using hj)
      simp only [List.length_append, List.length_cons, List.length_nil, Nat.zero_add]
      rw [show acc.length + 1 + j = acc.length + (j + 1) from by omega, this]
      rfl
    · simp only [List.length_append, List.length_cons, List.length_nil, Nat.zero_add] at hi
      rcases Nat.lt_or_ge i acc.length with h' | h'
      · exact hops i h'
      · have : i = acc.length := by omega
        subst this
        exact ⟨x, hx0⟩
    · rw [List.getD_eq_getElem?_getD, List.getElem?_append] at hij
      split at hij
      · exact hacc i j (by rw [List.getD_eq_getElem?_getD]; exact hij)
      · by_cases hi : i = acc.length
        · subst hi
          simp at hij
          intro listed y hc hy he
          rw [hx0] at hy
          cases hy
          exact mask_spec hacc hc hops x.after.toList (fun e h1 h2 => he e (by simpa using h1) h2) hij
        · rw [List.getElem?_eq_none (by simp; omega)] at hij
          simp at hij

theorem okRow_get : ∀ {l : List O} {xs : List Oper}, okRow P cx.fm nt ops l xs = true → l.length = xs.length ∧ ∀ (i : Nat) (x : Oper), xs[i]? = some x → okO P cx.fm nt ops (l.getD i default) x = true
  | [], [], _ => ⟨rfl, fun i x h => by simp at h⟩
  | o :: l, x :: xs, h => by
    simp only [okRow, Bool.and_eq_true] at h
    obtain ⟨h1, h2⟩ := okRow_get h.2
    refine ⟨by simp [h1], fun i y hy => ?_⟩
    cases i with
    | zero => simp at hy; subst hy; exact h.1
    | succ i => exact h2 i y (by simpa using hy)
  | [], _ :: _, h => by simp [okRow] at h
  | _ :: _, [], h => by simp [okRow] at h

theorem okEdges_get : ∀ {xs : List Oper} {k : Nat}, okEdges k xs = true → ∀ (i : Nat) (x : Oper), xs[i]? = some x → ∀ e, e ∈ x.after → Region.binds .any e = true → e.on < k + i
  | [], _, _, i, x, h => by simp at h
  | y :: xs, k, h, i, x, hx => by
    simp only [okEdges, Bool.and_eq_true] at h
    intro e he hb
    cases i with
    | zero =>
      simp at hx; subst hx
      have := List.all_eq_true.1 h.1 e (by simpa using he)
      simp only [hb, Bool.not_true, Bool.false_or, decide_eq_true_eq] at this
      omega
    | succ i =>
      have := okEdges_get h.2 i x (by simpa using hx) e he hb
      omega

theorem okDsts_get : ∀ {l : List O}, okDsts l = true → ∀ (i j : Nat) (d : Nat), i < j → j < l.length → (l.getD i default).d = some d → (l.getD j default).d ≠ some d
  | [], _, _, _, _, _, h, _ => by simp at h
  | o :: l, h, i, j, d, hij, hj, hd => by
    simp only [okDsts, Bool.and_eq_true] at h
    cases j with
    | zero => omega
    | succ j =>
      simp only [List.length_cons, Nat.add_lt_add_iff_right] at hj
      cases i with
      | zero =>
        simp only [List.getD_cons_zero] at hd
        rw [hd] at h
        have := List.all_eq_true.1 h.1 (l.getD j default) (by
          rw [List.getD_eq_getElem?_getD, List.getElem?_eq_getElem hj]
          exact List.getElem_mem hj)
        simpa using this
      | succ i => exact okDsts_get h.2 i j d (by omega) hj (by simpa using hd)

theorem okPairs_get {ms ds : List Nat} (h : okPairs ms ds os = true) {i j : Nat} (hi : i < os.length) (hj : j < i) : (ms.getD i 0).testBit j = true ∨ (commutes (os.getD j default) (os.getD i default) = true ∧ dstIn ds (os.getD j default) = true ∧ dstIn ds (os.getD i default) = true) := by
  have h1 := List.all_eq_true.1 h i (by simpa using hi)
  have h2 := List.all_eq_true.1 h1 j (by simpa using hj)
  simpa [and_assoc] using h2

theorem dstIn_spec {ds : List Nat} {o : O} (h : dstIn ds o = true) {d : Nat} (hd : o.d = some d) : d ∈ ds := by
  unfold dstIn at h
  rw [hd] at h
  simpa using h

def pend (n : Nat) (listed : Array Bool) : List Nat := (List.range n).filter fun i => !listed.getD i true

theorem pend_sorted (n : Nat) (listed : Array Bool) : (pend n listed).Pairwise (· < ·) := List.Pairwise.filter _ List.pairwise_lt_range

theorem pend_set {n i : Nat} {listed : Array Bool} {pre post : List Nat} (hs : listed.size = n) (h : pend n listed = pre ++ i :: post) : pend n (listed.setIfInBounds i true) = pre ++ post := by
  have hsort := pend_sorted n listed
  rw [h] at hsort
  have hi : i ∈ pend n listed := by rw [h]; simp
  have hin : i < n := by unfold pend at hi; simp at hi; exact hi.1
  have h1 : pend n (listed.setIfInBounds i true) = (pend n listed).filter (fun j => j != i) := by
    unfold pend
    rw [List.filter_filter]
    apply List.filter_congr
    intro j hj
    simp only [Array.getD_eq_getD_getElem?]
    by_cases hji : j = i
    · subst hji
      rw [Array.getElem?_setIfInBounds_self_of_lt (by omega)]
      simp
    · rw [Array.getElem?_setIfInBounds_ne (Ne.symm hji)]
      have : (j != i) = true := by simpa using hji
      rw [this, Bool.true_and]
  rw [h1, h, List.filter_append, List.filter_cons]
  simp only [bne_self_eq_false, Bool.false_eq_true, if_false]
  rw [List.pairwise_append] at hsort
  obtain ⟨_, h2, h3⟩ := hsort
  rw [List.pairwise_cons] at h2
  rw [List.filter_eq_self.2 fun j hj => ?_, List.filter_eq_self.2 fun j hj => ?_]
  · have := h2.1 j hj
    simp; omega
  · have := h3 j hj i (by simp)
    simp; omega

theorem any_sound (hG : ∀ f args args' r, G f args args' r → Pact P cx.fm f args args' r) (hN : ∀ b, ¬ cx.N b) (hm : m ≠ .own) (hm2 : m = .fresh → ∀ b, ¬ cx.M b) {Q : Exit → Act → World → Prop}
    {fx : List Nat} {f0 : Vl} (hQ : ∀ e a w, Kt e → Rel cx nt e a w → Fx fx f0 a → Q .normal a w) {ds : List Nat} (hoff : os.all (offO fx) = true) (hok : okDraw P cx.fm nt ops ds os = true) : ∀ (fuel : Nat) (listed : Array Bool) (e : Env) (a : Act) (w : World), fuel = (pend ops.size listed).length → listed.size = ops.size → Closed ops listed →
      Rel cx nt e a w → Fx fx f0 a → Fresh (fun d => d ∈ ds ∧ ∃ i, i ∈ pend ops.size listed ∧ (os.getD i default).d = some d) e → wpL G m ((pend ops.size listed).map fun i => os.getD i default) Kt e → wpAny P .any ops Q fuel listed a w := by
  simp only [okDraw, Bool.and_eq_true] at hok
  obtain ⟨⟨⟨⟨k1, k2⟩, k3⟩, k4⟩, k5⟩ := hok
  obtain ⟨hlen, hO⟩ := okRow_get k1
  have hE := okEdges_get k2
  have hD := okDsts_get k3
  have hM := masks_spec (ops := ops) ops.toList [] (fun j hj => by simp) (fun i hi => by simp at hi) (fun i j h => by simp at h)
  have hready : ∀ (listed : Array Bool) (i : Nat), i ∈ Region.ready .any ops listed ↔ i ∈ pend ops.size listed ∧ ∃ x, ops[i]? = some x ∧ ∀ e, e ∈ x.after → Region.binds .any e = true → listed.getD e.on false = true := by
    intro listed i
    unfold Region.ready pend
    simp only [List.mem_filter, List.mem_range, Bool.and_eq_true, and_assoc]
    refine and_congr_right fun hi => and_congr_right fun _ => ?_
    rw [Array.getElem?_eq_getElem hi]
    simp only [Option.map_some, Option.getD_some, Option.some.injEq, exists_eq_left', Array.all_eq_true', Bool.or_eq_true, Bool.not_eq_true']
    exact ⟨fun h e he hb => (h e he).resolve_left (by simp [hb]), fun h e he => by
      cases hb : Region.binds .any e with
      | false => exact .inl rfl
      | true => exact .inr (h e he hb)⟩
  intro fuel
  induction fuel with
  | zero =>
    intro listed e a w hf _ _ hr hfx _ hw
    have h0 : pend ops.size listed = [] := List.length_eq_zero_iff.1 hf.symm
    rw [h0] at hw
    refine ⟨List.eq_nil_iff_forall_not_mem.2 fun i hi => ?_, hQ e a w hw hr hfx⟩
    have := ((hready listed i).1 hi).1
    rw [h0] at this; simp at this
  | succ fuel ih =>
    intro listed e a w hf hsz hcl hr hfx hfr hw
    refine ⟨fun h0 => ?_, fun i hi => ?_⟩
    · exfalso
      cases hp : pend ops.size listed with
      | nil => rw [hp] at hf; simp at hf
      | cons i0 rest =>
        have hi0 : i0 ∈ pend ops.size listed := by rw [hp]; simp
        have hi0' := hi0
        unfold pend at hi0'
        simp only [List.mem_filter, List.mem_range] at hi0'
        have hs := pend_sorted ops.size listed
        rw [hp, List.pairwise_cons] at hs
        have : i0 ∈ Region.ready .any ops listed := by
          rw [hready]
          refine ⟨hi0, _, Array.getElem?_eq_getElem hi0'.1, fun ed he hb => ?_⟩
          have hlt := hE i0 ops[i0] (by simp [hi0'.1]) ed he hb
          rw [Nat.zero_add] at hlt
          cases hl : listed.getD ed.on false with
          | true => rfl
          | false =>
            exfalso
            have hmem : ed.on ∈ pend ops.size listed := by
              unfold pend
              simp only [List.mem_filter, List.mem_range]
              refine ⟨by omega, ?_⟩
              rw [Array.getD_eq_getD_getElem?] at hl ⊢
              rw [Array.getElem?_eq_getElem (by omega)] at hl ⊢
              simpa using hl
            rw [hp] at hmem
            rcases List.mem_cons.1 hmem with h1 | h1
            · omega
            · have := hs.1 _ h1; omega
        rw [h0] at this; simp at this
    · obtain ⟨hip, x, hx, hed⟩ := (hready listed i).1 hi
      obtain ⟨pre, post, hpp⟩ := List.append_of_mem hip
      have hsort := pend_sorted ops.size listed
      rw [hpp, List.pairwise_append] at hsort
      obtain ⟨s1, s2, s3⟩ := hsort
      rw [List.pairwise_cons] at s2
      have hin : i < ops.size := by unfold pend at hip; simp at hip; exact hip.1
      have hil : i < os.length := by rw [hlen]; simpa using hin
      have hmemlt : ∀ j, j ∈ pend ops.size listed → j < os.length := fun j hj => by
        unfold pend at hj; simp at hj; rw [hlen]; simpa using hj.1
      rw [hpp, List.map_append, List.map_cons] at hw
      have hb := bubble (D := fun d => d ∈ ds ∧ ∃ i, i ∈ pend ops.size listed ∧ (os.getD i default).d = some d) (pre.map fun i => os.getD i default) hfr (fun p hp => by
          obtain ⟨j, hj, rfl⟩ := List.mem_map.1 hp
          have hji : j < i := s3 j hj i (by simp)
          suffices hsuf : commutes (os.getD j default) (os.getD i default) = true ∧ dstIn ds (os.getD j default) = true ∧ dstIn ds (os.getD i default) = true from
            ⟨hsuf.1, fun d hd => ⟨dstIn_spec hsuf.2.1 hd, j, by rw [hpp]; simp [hj], hd⟩, fun d hd => ⟨dstIn_spec hsuf.2.2 hd, i, hip, hd⟩⟩
          refine (okPairs_get k4 hil hji).resolve_left fun ht => ?_
          have h1 := hM i j ht listed x hcl hx hed
          have hjp : j ∈ pend ops.size listed := by rw [hpp]; simp [hj]
          unfold pend at hjp
          simp only [List.mem_filter, Bool.not_eq_true'] at hjp
          rw [getD_tf h1] at hjp
          cases hjp.2) (by
          rw [List.map_map, List.pairwise_map]
          refine (List.Pairwise.and_mem.1 s1).imp fun {p q} ⟨hp, hq, hlt⟩ d hd => ?_
          exact hD p q d hlt (hmemlt q (by rw [hpp]; simp [hq])) hd) hw
      rw [← List.map_append] at hb
      have hset := pend_set hsz hpp
      have hox := hO i x (by simpa using hx)
      have hmem : os.getD i default ∈ os := by
        rw [List.getD_eq_getElem?_getD, List.getElem?_eq_getElem hil]
        exact List.getElem_mem hil
      have hrO : (os.getD i default).q.rOnly = true := List.all_eq_true.1 k5 _ hmem
      have hdx : x.dst.all (fun d => !fx.contains d) = true := by
        have h1 := hox
        simp only [okO, Bool.and_eq_true, beq_iff_eq] at h1
        rw [← h1.1.1.1]
        exact List.all_eq_true.1 hoff _ hmem
      have hfr' : Fresh (fun d => d ∈ ds ∧ ∃ j, j ∈ pre ++ post ∧ (os.getD j default).d = some d) e := fun d ⟨hds, j, hj, hd⟩ => hfr d ⟨hds, j, by
        rw [hpp]
        simp only [List.mem_append, List.mem_cons] at hj ⊢
        rcases hj with h1 | h1
        · exact .inl h1
        · exact .inr (.inr h1), hd⟩
      have hstep := fresh_stepO hm hfr' (fun d hd ⟨_, j, hj, hjd⟩ => by
        rcases List.mem_append.1 hj with h1 | h1
        · exact hD j i d (s3 j h1 i (by simp)) hil hjd hd
        · exact hD i j d (s2.1 j h1) (hmemlt j (by rw [hpp]; simp [h1])) hd hjd) hrO hb
      have hdoes := stepO_sound hG hN hm hm2 hr hox hstep
      have hrec : ∀ e' a' w', (wpL G m ((pre ++ post).map fun i => os.getD i default) Kt e' ∧ Fresh (fun d => d ∈ ds ∧ ∃ j, j ∈ pre ++ post ∧ (os.getD j default).d = some d) e') → Rel cx nt e' a' w' → Fx fx f0 a' → wpAny P .any ops Q fuel (listed.setIfInBounds i true) a' w' := by
        intro e' a' w' ⟨h1, h2⟩ h3 hfx'
        refine ih (listed.setIfInBounds i true) e' a' w' ?_ (by simpa using hsz) (fun i' x' hx' hl' ed he hbd => ?_) h3 hfx' (by rw [hset]; exact h2) (by rw [hset]; exact h1)
        · rw [hset]
          rw [hpp] at hf
          simp only [List.length_append, List.length_cons] at hf ⊢
          omega
        · have hold : listed.getD ed.on false = true := by
            by_cases hii : i' = i
            · subst hii
              rw [hx] at hx'
              cases hx'
              exact hed ed he hbd
            · refine hcl i' x' hx' ?_ ed he hbd
              rw [Array.getD_eq_getD_getElem?] at hl' ⊢
              rwa [Array.getElem?_setIfInBounds_ne (Ne.symm hii)] at hl'
          by_cases hei : ed.on = i
          · rw [hei, Array.getD_eq_getD_getElem?, Array.getElem?_setIfInBounds_self_of_lt (by omega)]; rfl
          · rw [Array.getD_eq_getD_getElem?] at hold ⊢
            rwa [Array.getElem?_setIfInBounds_ne (Ne.symm hei)]
      unfold wpOp
      rw [hx]
      simp only
      unfold Does at hdoes
      split
      · rename_i hwt
        rw [if_pos hwt] at hdoes
        exact .inl (Oper.wp_mono (fun a' w' ⟨⟨e', h1, h2⟩, v, ds, h3⟩ => hrec e' a' w' h1 h2 (h3 ▸ hfx.put hdx v ds)) (wp_put (hdoes Q)))
      · rename_i hwt
        rw [if_neg hwt] at hdoes
        obtain ⟨e', h1, h2⟩ := hdoes
        exact hrec e' _ w h1 h2 (hfx.put hdx undef a.defers)

end
end Go.Mch
