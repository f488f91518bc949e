/- Our texts YgD YnG YnH YnI YnJ,end to end. -/
import Derived.Test.YtkcgdmjdkbgmkaaGreatP1
import Derived.Test.YtkcgdmjdkbgmkaaGreatYeB
import Derived.Test.YtkcgdmjdkbgmkaaGreatP2
import Derived.Test.YtkcgdmjdkbgmkaaGreatYeH
namespace Go.Mch

def visW (st:List Bool×List Nat) (w:Nat):List Bool×List Nat:=if st.1.getD w false then st else (st.1.set w true,st.2++[w])
def left (st:List Bool×List Nat):Nat:=st.1.count false+st.2.length
@[simp] theorem visW_length (st:List Bool×List Nat) (w:Nat):(visW st w).1.length=st.1.length:=by unfold visW;split <;> simp
theorem visL_length (ws:List Nat) (st:List Bool×List Nat):(ws.foldl visW st).1.length=st.1.length:=by
 induction ws generalizing st with
 | nil=>rfl
 | cons w ws ih=>simp [ih]
theorem count_set {l:List Bool}:∀ {w:Nat},w<l.length→l.getD w false=false→(l.set w true).count false+1=l.count false:=by
 induction l with
 | nil=>intro w h;simp at h
 | cons b l ih =>
  intro w h h2
  cases w with
  | zero=>simp at h2;subst h2;simp
  | succ w =>
   have:=ih (w:=w) (by simpa using h) (by simpa using h2)
   cases b <;> simp <;> omega
theorem visW_left {st:List Bool×List Nat} {w:Nat} (h:w<st.1.length):left (visW st w)=left st:=by
 unfold visW
 split
 · rfl
 · rename_i h2
   have:=count_set h (by simpa using h2)
   simp only [left,List.length_append,List.length_cons,List.length_nil]
   omega
theorem visL_left {ws:List Nat}:∀ {st:List Bool×List Nat},(∀ w∈ws,w<st.1.length)→left (ws.foldl visW st)=left st:=by
 induction ws with
 | nil=>intro st _;rfl
 | cons w ws ih =>
  intro st h
  simp only [List.foldl_cons]
  rw [ih (fun v hv=>by simp;exact h v (by simp [hv])),visW_left (h w (by simp))]
theorem visL_rng {N:Nat} {ws:List Nat}:∀ {st:List Bool×List Nat},(∀ w∈ws,w<N)→(∀ w∈st.2,w<N)→∀ w∈(ws.foldl visW st).2,w<N:=by
 induction ws with
 | nil=>intro st _ h;exact h
 | cons w ws ih =>
  intro st h h2
  simp only [List.foldl_cons]
  refine ih (fun v hv=>h v (by simp [hv])) ?_
  unfold visW
  split
  · exact h2
  · intro v hv
    rcases List.mem_append.1 hv with h3 | h3
    · exact h2 v h3
    · simp only [List.mem_singleton] at h3;subst h3;exact h v (by simp)

def bfsF (nb:Nat→List Nat):Nat→List Bool→List Nat→List Bool
 | 0,s,_=>s
 | _+1,s,[]=>s
 | f+1,s,v::q=>bfsF nb f ((nb v).foldl visW (s,q)).1 ((nb v).foldl visW (s,q)).2
def orbC (nb:Nat→List Nat) (N:Nat):Nat→List Bool×Int
 | 0=>(List.replicate N false,0)
 | k+1=>if (orbC nb N k).1.getD k false then orbC nb N k else (bfsF nb (N+1) ((orbC nb N k).1.set k true) [k],(orbC nb N k).2+1)
theorem bfsF_length (nb:Nat→List Nat):∀ (f:Nat) (s:List Bool) (q:List Nat),(bfsF nb f s q).length=s.length
 | 0,_,_=>rfl
 | _+1,_,[]=>rfl
 | f+1,s,v::q=>by rw [bfsF,bfsF_length nb f,visL_length]
@[simp] theorem orbC_length (nb:Nat→List Nat) (N k:Nat):(orbC nb N k).1.length=N:=by
 induction k with
 | zero=>simp [orbC]
 | succ k ih=>unfold orbC;split <;> simp [ih,bfsF_length]
theorem orbC_cnt (nb:Nat→List Nat) (N k:Nat):0≤(orbC nb N k).2∧(orbC nb N k).2≤k:=by
 induction k with
 | zero=>simp [orbC]
 | succ k ih=>unfold orbC;split <;> simp <;> omega


def digT (n m v:Nat):List Int:=(List.range m).map fun j=>((v / n ^ (m-1-j) % n:Nat):Int)
@[simp] theorem digT_length (n m v:Nat):(digT n m v).length=m:=by simp [digT]
theorem digT_rng {n m v:Nat} (hn:0<n):inN n (digT n m v):=fun x hx=>by
 simp only [digT,List.mem_map,List.mem_range] at hx
 obtain ⟨j,_,rfl⟩:=hx
 have:=Nat.mod_lt (v / n ^ (m-1-j)) hn
 omega
def numT (n:Nat) (w:List Int):Int:=w.foldl (fun a x=>a*n+x) 0
theorem numT_snoc (n:Nat) (w:List Int) (x:Int):numT n (w++[x])=numT n w*n+x:=by simp [numT]
theorem numT_rng {n:Nat} {w:List Int} (hw:inN n w):∀ k,k≤w.length→0≤numT n (w.take k)∧numT n (w.take k)<((n ^ k:Nat):Int):=by
 intro k
 induction k with
 | zero=>intro _;simp [numT]
 | succ k ih =>
  intro hk
  obtain ⟨h1,h2⟩:=ih (by omega)
  have hx:=hw _ (List.getElem_mem (show k<w.length by omega))
  rw [List.take_succ_eq_append_getElem (by omega),numT_snoc,Nat.pow_succ,Int.natCast_mul]
  constructor
  · have:=Int.mul_nonneg h1 (show (0:Int)≤n by omega)
    omega
  · have h3:numT n (w.take k)+1≤((n ^ k:Nat):Int):=by omega
    have:=Int.mul_le_mul_of_nonneg_right h3 (show (0:Int)≤n by omega)
    rw [Int.add_mul,Int.one_mul] at this
    omega
def nbT (f s:List (List Int)) (m v:Nat):List Nat:=(List.range (m-1)).map fun i=>(numT f.length (dW f s (digT f.length m v) i)).toNat
theorem nbT_get {f s:List (List Int)} {m v i:Nat} (hi:i<(nbT f s m v).length):(nbT f s m v)[i]=(numT f.length (dW f s (digT f.length m v) i)).toNat:=by simp [nbT]
@[simp] theorem nbT_length (f s:List (List Int)) (m v:Nat):(nbT f s m v).length=m-1:=by simp [nbT]
theorem num_mv {f s:List (List Int)} (h:PM f s) {m v:Nat} (i:Nat):0≤numT f.length (dW f s (digT f.length m v) i)∧numT f.length (dW f s (digT f.length m v) i)<((f.length ^ m:Nat):Int):=by
 have:=numT_rng (dW_in h (digT_rng (n:=f.length) (m:=m) (v:=v) h.pos) i) m (by simp [dW_length])
 rwa [List.take_of_length_le (by simp [dW_length])] at this
theorem nbT_rng {f s:List (List Int)} (h:PM f s) {m v:Nat}:∀ w∈nbT f s m v,w<f.length ^ m:=fun w hw=>by
 simp only [nbT,List.mem_map,List.mem_range] at hw
 obtain ⟨i,_,rfl⟩:=hw
 have:=num_mv h (m:=m) (v:=v) i
 omega

def S_digS (pg:Pg):Prop:=∀ n m v:Nat,0<n→n≤1048576→m≤1048576→v≤1048576→Call pg 260 [I v,I n,I m] [I v,I n,I m] (.mem .own (some 1) ((digT n m v).map I))
def digP (n m v c:Nat):List Int:=(List.range m).map fun j=>if m-c≤j then ((v / n ^ (m-1-j) % n:Nat):Int) else 0
@[simp] theorem digP_length (n m v c:Nat):(digP n m v c).length=m:=by simp [digP]
theorem digP_zero (n m v:Nat):digP n m v 0=List.replicate m 0:=by
 apply List.ext_getElem
 · simp
 · intro i h1 h2
   have:¬m≤i:=by simpa using h1
   simp [digP,this]
theorem digP_all (n m v:Nat):digP n m v m=digT n m v:=by
 apply List.map_congr_left
 intro j _
 rw [if_pos (by omega)]
theorem digP_succ {n m v c:Nat} (hc:c<m):(digP n m v c).set (m-1-c) ((v / n ^ c % n:Nat):Int)=digP n m v (c+1):=by
 apply List.ext_getElem
 · simp
 · intro i h1 h2
   simp only [digP_length] at h2
   simp only [List.getElem_set,digP,List.getElem_map,List.getElem_range]
   by_cases hi:m-1-c=i
   · rw [if_pos hi,if_pos (by omega),show m-1-i=c from by omega]
   · rw [if_neg hi]
     by_cases h3:m-c≤i
     · rw [if_pos h3,if_pos (by omega)]
     · rw [if_neg h3,if_neg (by omega)]
theorem div_le' (v c n:Nat):v / n ^ c≤v:=Nat.div_le_self _ _
theorem t_digits {pg:Pg} (hp:pg.fn 260=some c_spec_l06Digits):S_digS pg:=by
 intro n m v hn hn2 hm hv
 refine Call.intro hp rfl (by simp) ?_
 show wp _ _ c_spec_l06Digits.body (post [.t 6] _ _ _) _
 have hn1:¬n=0:=by omega
 simp [c_spec_l06Digits]
 refine ⟨by unfold roomy;omega,by omega,?_⟩
 refine j0a (fun c e=>e=fr [(0,some (.val (I ((v / n ^ c:Nat):Int)))),(1,some (.val (I n))),(7,some (.val (.mem .own (some 1) ((digP n m v c).map I)))),(8,some (.val (I ((m:Int)-1-c))))]) m ?_ ?_ 0 _ (by omega) ?_
 · rintro c e hc rfl
   have hj:(m:Int)-1-c=((m-1-c:Nat):Int):=by omega
   have hs:=digP_succ (n:=n) (v:=v) hc
   have hd:=div_le' v c n
   have hd2:=div_le' v (c+1) n
   have hmod:((v / n ^ c:Nat):Int).tmod n=((v / n ^ c % n:Nat):Int):=by
    rw [Int.tmod_eq_emod_of_nonneg (Int.natCast_nonneg _)];exact (Int.natCast_emod ..).symm
   have hdiv:((v / n ^ c:Nat):Int).tdiv n=((v / n ^ (c+1):Nat):Int):=by
    rw [Int.tdiv_eq_ediv_of_nonneg (Int.natCast_nonneg _),Nat.pow_succ,← Nat.div_div_eq_div_mul];exact (Int.natCast_ediv ..).symm
   rw [hj]
   rw [show (m:Int)-1-((c+1:Nat):Int)=((m-1-c:Nat):Int)-1 from by omega,← hs]
   have hjm:m-1-c<m:=by omega
   generalize m-1-c=j at *
   generalize v / n ^ c % n=a at *
   generalize v / n ^ (c+1)=b at *
   generalize v / n ^ c=g at *
   simp [hn1,hmod,hdiv,hjm]
   omega
 · rintro e rfl
   have hneg:¬((m:Int)≤(m:Int)-1):=by omega
   simp [digP_all,hneg]
 · simp [digP_zero]

def S_digI (pg:Pg):Prop:=∀ n m v:Nat,0<n→n≤1048576→m≤1048576→v≤1048576→Call pg 262 [I n,I m,I v] [I n,I m,I v] (.mem .own (some 1) ((digT n m v).map I))
theorem t_tupleOf {pg:Pg} (hp:pg.fn 262=some c_impl_tupleOf):S_digI pg:=by
 intro n m v hn hn2 hm hv
 refine Call.intro hp rfl (by simp) ?_
 show wp _ _ c_impl_tupleOf.body (post [.t 6] _ _ _) _
 have hn1:¬n=0:=by omega
 simp [c_impl_tupleOf]
 refine ⟨by unfold roomy;omega,by omega,?_⟩
 refine j0a (fun c e=>e=fr [(0,some (.val (I n))),(2,some (.val (I ((v / n ^ c:Nat):Int)))),(7,some (.val (.mem .own (some 1) ((digP n m v c).map I)))),(8,some (.val (I ((m:Int)-1-c))))]) m ?_ ?_ 0 _ (by omega) ?_
 · rintro c e hc rfl
   have hj:(m:Int)-1-c=((m-1-c:Nat):Int):=by omega
   have hs:=digP_succ (n:=n) (v:=v) hc
   have hd:=div_le' v c n
   have hd2:=div_le' v (c+1) n
   have hmod:((v / n ^ c:Nat):Int).tmod n=((v / n ^ c % n:Nat):Int):=by
    rw [Int.tmod_eq_emod_of_nonneg (Int.natCast_nonneg _)];exact (Int.natCast_emod ..).symm
   have hdiv:((v / n ^ c:Nat):Int).tdiv n=((v / n ^ (c+1):Nat):Int):=by
    rw [Int.tdiv_eq_ediv_of_nonneg (Int.natCast_nonneg _),Nat.pow_succ,← Nat.div_div_eq_div_mul];exact (Int.natCast_ediv ..).symm
   rw [hj]
   rw [show (m:Int)-1-((c+1:Nat):Int)=((m-1-c:Nat):Int)-1 from by omega,← hs]
   have hjm:m-1-c<m:=by omega
   generalize m-1-c=j at *
   generalize v / n ^ c % n=a at *
   generalize v / n ^ (c+1)=b at *
   generalize v / n ^ c=g at *
   simp [hn1,hmod,hdiv,hjm]
   omega
 · rintro e rfl
   have hneg:¬((m:Int)≤(m:Int)-1):=by omega
   simp [digP_all,hneg]
 · simp [digP_zero]

def S_numS (pg:Pg):Prop:=∀ (n:Nat) (w:List Int),inN n w→n≤1048576→w.length≤1048576→n ^ w.length≤1048576→Call pg 261 [ix w,I n] [ix w,I n] (I (numT n w))
def S_numI (pg:Pg):Prop:=∀ (n:Nat) (w:List Int),inN n w→n≤1048576→w.length≤1048576→n ^ w.length≤1048576→Call pg 263 [I n,ix w] [I n,ix w] (I (numT n w))
theorem pow_le_len {n:Nat} {w:List Int} (hw:inN n w) (h:n ^ w.length≤1048576) {k:Nat} (hk:k≤w.length):n ^ k≤1048576:=by
 rcases Nat.eq_zero_or_pos n with h0 | h0
 · subst h0
   cases k with
   | zero=>simp
   | succ k=>simp
 · exact Nat.le_trans (Nat.pow_le_pow_right h0 hk) h
theorem num_step {n:Nat} {w:List Int} (hw:inN n w) (hn:n≤1048576) (h:n ^ w.length≤1048576) {k:Nat} (hk:k<w.length) :
 0≤numT n (w.take k)*n∧numT n (w.take k)*n≤1099511627776∧0≤w[k]∧w[k]<n∧numT n (w.take (k+1))=numT n (w.take k)*n+w[k]:=by
 obtain ⟨h1,h2⟩:=numT_rng hw k (by omega)
 have h3:=pow_le_len hw h (show k≤w.length by omega)
 have hx:=hw _ (List.getElem_mem hk)
 refine ⟨Int.mul_nonneg h1 (by omega),?_,hx.1,hx.2,by rw [List.take_succ_eq_append_getElem hk,numT_snoc]⟩
 have:numT n (w.take k)*n≤1048576*1048576:=Int.mul_le_mul (by omega) (by omega) (by omega) (by omega)
 omega
theorem t_number {pg:Pg} (hp:pg.fn 261=some c_spec_l06Number):S_numS pg:=by
 intro n w hw hn hl h
 refine Call.intro hp rfl (by simp) ?_
 show wp _ _ c_spec_l06Number.body (post [.t 4] _ _ _) _
 simp [c_spec_l06Number]
 refine j0a (fun k e=>e=fr [(0,some (.val (ix w))),(1,some (.val (I n))),(5,some (.val (I (numT n (w.take k))))),(6,some (.val (I k)))]) w.length ?_ ?_ 0 _ (by omega) ?_
 · rintro k e hk rfl
   obtain ⟨a1,a2,a3,a4,a5⟩:=num_step hw hn h hk
   simp [hk,a5]
   omega
 · rintro e rfl
   simp
 · simp [numT]
theorem t_numberOf {pg:Pg} (hp:pg.fn 263=some c_impl_numberOf):S_numI pg:=by
 intro n w hw hn hl h
 refine Call.intro hp rfl (by simp) ?_
 show wp _ _ c_impl_numberOf.body (post [.t 4] _ _ _) _
 simp [c_impl_numberOf]
 refine j0a (fun k e=>e=fr [(0,some (.val (I n))),(5,some (.val (I (numT n (w.take k))))),(8,some (.val (ix w))),(9,some (.val (I w.length))),(10,some (.val (I k)))]) w.length ?_ ?_ 0 _ (by omega) ?_
 · rintro k e hk rfl
   obtain ⟨a1,a2,a3,a4,a5⟩:=num_step hw hn h hk
   simp [hk,a5]
   omega
 · rintro e rfl
   simp
 · simp [numT]


def nI (l:List Nat):List Int:=l.map fun x:Nat=>(x:Int)
@[simp] theorem nI_length (l:List Nat):(nI l).length=l.length:=by simp [nI]
@[simp] theorem nI_append (a b:List Nat):nI (a++b)=nI a++nI b:=by simp [nI]
@[simp] theorem nI_nil:nI []=[]:=rfl
@[simp] theorem nI_cons (x:Nat) (l:List Nat):nI (x::l)=(x:Int)::nI l:=rfl
theorem visL_succ {ws:List Nat} {c:Nat} (hc:c<ws.length) (st:List Bool×List Nat):(ws.take (c+1)).foldl visW st=visW ((ws.take c).foldl visW st) ws[c]:=by
 rw [List.take_succ_eq_append_getElem hc,List.foldl_append];rfl

def ctOk (f:List (List Int)) (p:Int):Prop:=(0≤p∧p≤12)∧f.length ^ p.toNat≤5000
instance (f:List (List Int)) (p:Int):Decidable (ctOk f p):=by unfold ctOk;infer_instance
open Classical in
noncomputable def ctR (f s:List (List Int)) (p:Int):Int:=if isSol f s then if ctOk f p then (orbC (nbT f s p.toNat) (f.length ^ p.toNat) (f.length ^ p.toNat)).2 else 0 else 0
open Classical in
noncomputable def ctC (f s:List (List Int)) (p:Int):Int:=if isSol f s then if 0≤p∧p≤12 then if f.length ^ p.toNat≤5000 then 0 else 3 else 2 else 1
def S_ct (pg:Pg) (n:Nat):Prop:=∀ (f s:List (List Int)) (p:Int),fits f→fits s→Call pg n [sol f s,I p] [sol f s,I p] (.tup [I (ctR f s p),I (ctC f s p)])
theorem pow_step {n k m:Nat} (hn:0<n) (hk:k<m) (h:5000<n ^ (k+1)):¬n ^ m≤5000:=by
 have:=Nat.pow_le_pow_right hn (show k+1≤m by omega)
 omega

set_option maxRecDepth 10000 in
theorem t_ct_spec {pg:Pg} (hp:pg.fn 124=some c_spec_CountTupleOrbits) (h41:S_isSol pg 41) (h30:S_in pg 30) (h260:S_digS pg) (h43:S_do pg 43) (h261:S_numS pg):S_ct pg 124:=by
 intro f s p hf hs
 refine Call.intro hp rfl (by simp) ?_
 show wp _ _ c_spec_CountTupleOrbits.body (post [.t 4,.t 5] _ _ _) _
 simp [c_spec_CountTupleOrbits]
 refine j0e (h41 f s hf hs) rfl rfl (fun _=>rfl) ?_
 by_cases h:isSol f s
 · have hpm:=PM.of h.1
   have h0:=hpm.pos
   have h12:=hpm.small
   simp [j1p h]
   refine j0e (h30 p 0 12) rfl rfl (fun _=>rfl) ?_
   by_cases h1:0≤p∧p≤12
   · simp [h1]
     obtain ⟨m,rfl⟩:=Int.eq_ofNat_of_zero_le h1.1
     have hm12:m≤12:=by omega
     refine j0a (fun k e=>f.length ^ k≤5000∧e=fr [(1,some (.val (I m))),(2,some (.val (.mem .own none [tb f,tb s]))),(6,some (.val (I f.length))),(7,some (.val (I ((f.length ^ k:Nat):Int)))),(8,some (.val (I k)))]) m ?_ ?_ 0 _ (by omega) ?_
     · rintro k e hk ⟨hk5,rfl⟩
       have hmul:((f.length ^ k:Nat):Int)*f.length=((f.length ^ (k+1):Nat):Int):=by rw [Nat.pow_succ,Int.natCast_mul]
       have hb:f.length ^ (k+1)≤60000:=by
        rw [Nat.pow_succ]
        exact Nat.le_trans (Nat.mul_le_mul hk5 h12) (by omega)
       generalize hA:f.length ^ k=A at *
       generalize hB:f.length ^ (k+1)=A' at *
       simp [hk,hmul]
       by_cases h5:A'≤5000
       · have h5':¬(5000:Int)<A':=by omega
         simp [h5']
         omega
       · have h5':(5000:Int)<A':=by omega
         have hno:=pow_step h0 hk (by omega:5000<f.length ^ (k+1))
         have e1:ctR f s m=0:=by
          have:¬ctOk f (m:Int):=fun hh=>hno (by simpa using hh.2)
          simp [ctR,this]
         have e2:ctC f s m=3:=by simp [ctC,h,h1,hno]
         simp [h5',e1,e2]
         omega
     · rintro e ⟨hk5,rfl⟩
       have hr:ctR f s m=(orbC (nbT f s m) (f.length ^ m) (f.length ^ m)).2:=by
        have:ctOk f (m:Int):=⟨h1,by simpa using hk5⟩
        simp [ctR,h,this]
       have hcc:ctC f s m=0:=by simp [ctC,h,h1,hk5]
       have hnb:∀ v,∀ w∈nbT f s m v,w<f.length ^ m:=fun v=>nbT_rng hpm
       have hnum:=fun v (i:Nat)=>num_mv hpm (m:=m) (v:=v) i
       have hpow:f.length ^ (digT f.length m 0).length=f.length ^ m:=by simp
       rw [hr,hcc]
       have hcall:∀ v i:Nat,i+1<m→Call pg 261 [ix (dW f s (digT f.length m v) i),I f.length] [ix (dW f s (digT f.length m v) i),I f.length] (I (numT f.length (dW f s (digT f.length m v) i))):=fun v i hi =>
        h261 f.length _ (dW_in hpm (digT_rng h0) i) (by omega) (by simp;omega) (by simp;omega)
       generalize hN:f.length ^ m=N at *
       simp
       refine ⟨by unfold roomy;omega,?_⟩
       refine j0a (fun k e=>e=fr [(1,some (.val (I m))),(2,some (.val (.mem .own none [tb f,tb s]))),(6,some (.val (I f.length))),(7,some (.val (I N))),(9,some (.val (.mem .own (some 1) ((orbC (nbT f s m) N k).1.map B)))),(10,some (.val (I (orbC (nbT f s m) N k).2))),(11,some (.val (I k)))]) N ?_ ?_ 0 _ (by omega) ?_
       · rintro k e hk rfl
         have hSl:=orbC_length (nbT f s m) N k
         have hSc:=orbC_cnt (nbT f s m) N k
         have hsucc:orbC (nbT f s m) N (k+1)=if (orbC (nbT f s m) N k).1.getD k false then orbC (nbT f s m) N k else (bfsF (nbT f s m) (N+1) ((orbC (nbT f s m) N k).1.set k true) [k],(orbC (nbT f s m) N k).2+1):=rfl
         rw [hsucc]
         generalize orbC (nbT f s m) N k=S at *
         have hkl:k<S.1.length:=by omega
         have hg:S.1.getD k false=S.1[k]:=by rw [List.getD_eq_getElem?_getD,List.getElem?_eq_getElem hkl];rfl
         rw [hg]
         by_cases hb:S.1[k]=true
         · simp [hk,hkl,hb]
           omega
         · have hb':S.1[k]=false:=by simpa using hb
           have hleft0:left (S.1.set k true,[k])≤N:=by
            have h1:=count_set hkl (by rw [hg];exact hb')
            have h2:S.1.count false≤S.1.length:=List.count_le_length
            simp only [left,List.length_cons,List.length_nil]
            omega
           have hsl0:(S.1.set k true).length=N:=by simp [hSl]
           have hset:(S.1.map B).set k (B true)=(S.1.set k true).map B:=by simp
           generalize hR:bfsF (nbT f s m) (N+1) (S.1.set k true) [k]=R
           simp [hk,hkl,hb']
           refine ⟨by omega,by omega,?_⟩
           refine j0m (α:=Nat×List Bool×List Nat×List Nat) (fun y=>y.1) (fun y e=>bfsF (nbT f s m) y.1 y.2.1 y.2.2.2=R∧left (y.2.1,y.2.2.2)≤y.1∧y.2.1.length=N∧(∀ w∈y.2.2.2,w<N)∧y.2.2.1.length+left (y.2.1,y.2.2.2)≤N ∧
            e=fr [(1,some (.val (I m))),(2,some (.val (.mem .own none [tb f,tb s]))),(6,some (.val (I f.length))),(7,some (.val (I N))),(9,some (.val (.mem .own (some 1) (y.2.1.map B)))),(10,some (.val (I (S.2+1)))),(11,some (.val (I k))),(12,some (.val (.mem .own (some 1) ((nI (y.2.2.1++y.2.2.2)).map I)))),(13,some (.val (I y.2.2.1.length)))]) ?_ (N+1,S.1.set k true,[],[k]) _ ⟨hR,by simp only;omega,hsl0,by simpa using hk,by simp only [List.length_nil];omega,?_⟩
           case refine_2=>simp [← hset]
           rintro ⟨fu,sn,D,q⟩ e ⟨b1,b2,b3,b4,b5,rfl⟩
           simp only at b1 b2 b3 b4 b5
           cases q with
           | nil =>
            have hRs:sn=R:=by cases fu <;> exact b1
            simp [hRs]
            omega
           | cons v q =>
            have hl1:left (sn,v::q)=left (sn,q)+1:=by simp [left];omega
            obtain ⟨fu,rfl⟩:∃ g,fu=g+1:=⟨fu-1,by omega⟩
            rw [bfsF] at b1
            have hvN:=b4 v (by simp)
            have hDN:D.length<N:=by omega
            have hqN:D.length+q.length<N:=by
             have:q.length≤left (sn,q):=by simp [left]
             omega
            have hlt:(D.length:Int)<D.length+(q.length+1):=by omega
            simp [hlt]
            refine j0e (h260 f.length m v h0 (by omega) (by omega) (by omega)) rfl rfl (fun _=>by simp) ?_
            simp
            have hwl:(nbT f s m v).length=m-1:=nbT_length f s m v
            have hst:∀ c,(((nbT f s m v).take c).foldl visW (sn,q)).1.length=N:=fun c=>by rw [visL_length];exact b3
            have hleft:∀ c,left (((nbT f s m v).take c).foldl visW (sn,q))=left (sn,q):=fun c=>visL_left fun w hw=>by
             have:=hnb v w (List.mem_of_mem_take hw)
             simp only;omega
            refine j0a (fun c e=>e=fr [(1,some (.val (I m))),(2,some (.val (.mem .own none [tb f,tb s]))),(6,some (.val (I f.length))),(7,some (.val (I N))),(9,some (.val (.mem .own (some 1) ((((nbT f s m v).take c).foldl visW (sn,q)).1.map B)))),(10,some (.val (I (S.2+1)))),(11,some (.val (I k))),(12,some (.val (.mem .own (some 1) ((nI (D++v::(((nbT f s m v).take c).foldl visW (sn,q)).2)).map I)))),(13,some (.val (I D.length))),(14,some (.val (.mem .own (some 1) ((digT f.length m v).map I)))),(15,some (.val (I c)))]) (m-1) ?_ ?_ 0 _ (by omega) ?_
            · rintro c e hc rfl
              have hcm:c+1<m:=by omega
              have hcm':(c:Int)+1<m:=by omega
              have hcw:c<(nbT f s m v).length:=by omega
              have hst1:=hst c
              have hlc:=hleft c
              have hsuc:=visL_succ hcw (sn,q)
              have hw:((nbT f s m v)[c]:Int)=numT f.length (dW f s (digT f.length m v) c):=by
               rw [nbT_get hcw];have:=hnum v c;omega
              have hwN:=hnb v _ (List.getElem_mem hcw)
              have hq2:(((nbT f s m v).take c).foldl visW (sn,q)).2.length≤left (((nbT f s m v).take c).foldl visW (sn,q)):=by simp [left]
              rw [hsuc]
              have hmv:=h43 f s (digT f.length m v) c hpm (by simpa using hcm) (by simp;omega) (digT_rng h0)
              have hcl:=hcall v c hcm
              rw [← hw] at hcl
              generalize (nbT f s m v)[c]=w at *
              generalize ((nbT f s m v).take c).foldl visW (sn,q)=st at *
              simp [hcm']
              refine ⟨by omega,?_⟩
              refine j0e hmv rfl rfl (fun _=>by simp) ?_
              simp
              refine j0e hcl rfl rfl (fun _=>rfl) ?_
              have hwl2:w<st.1.length:=by omega
              have hgw:st.1.getD w false=st.1[w]:=by rw [List.getD_eq_getElem?_getD,List.getElem?_eq_getElem hwl2];rfl
              unfold visW
              rw [hgw]
              by_cases hsw:st.1[w]=true
              · simp [hwl2,hsw]
                omega
              · have hsw':st.1[w]=false:=by simpa using hsw
                simp [hwl2,hsw',roomy]
                omega
            · rintro e rfl
              have hnlt:¬(((m-1:Nat):Int)+1<m):=by omega
              have htk:(nbT f s m v).take (m-1)=nbT f s m v:=List.take_of_length_le (by omega)
              have hlf:=hleft (m-1)
              have hsf:=hst (m-1)
              have hrg:=visL_rng (N:=N) (st:=(sn,q)) (hnb v) (fun w hw=>b4 w (by simp [hw]))
              rw [htk] at hlf hsf ⊢
              generalize (nbT f s m v).foldl visW (sn,q)=st at *
              simp [hnlt]
              refine ⟨by omega,by omega,fu,by omega,st.1,D++[v],st.2,b1,?_,hsf,hrg,?_,by simp⟩
              · show left st≤fu
                omega
              · show (D++[v]).length+left st≤N
                simp
                omega
            · simp
       · rintro e rfl
         simp
       · simp [orbC]
     · simp
   · have e1:ctR f s p=0:=by
      have:¬ctOk f p:=fun hh=>h1 hh.1
      simp [ctR,this]
     have e2:ctC f s p=2:=by simp [ctC,h,h1]
     simp [h1,e1,e2]
 · have e1:ctR f s p=0:=by simp [ctR,h]
   have e2:ctC f s p=1:=by simp [ctC,h]
   simp [j1d h,e1,e2]
set_option maxRecDepth 10000 in
theorem t_ct_impl {pg:Pg} (hp:pg.fn 125=some c_impl_CountTupleOrbits) (h42:S_isSol pg 42) (h35:S_in pg 35) (h262:S_digI pg) (h44:S_do pg 44) (h263:S_numI pg):S_ct pg 125:=by
 intro f s p hf hs
 refine Call.intro hp rfl (by simp) ?_
 show wp _ _ c_impl_CountTupleOrbits.body (post [.t 4,.t 5] _ _ _) _
 simp [c_impl_CountTupleOrbits]
 refine j0e (h42 f s hf hs) rfl rfl (fun _=>rfl) ?_
 by_cases h:isSol f s
 · have hpm:=PM.of h.1
   have h0:=hpm.pos
   have h12:=hpm.small
   simp [j1p h]
   refine j0e (h35 p 0 12) rfl rfl (fun _=>rfl) ?_
   by_cases h1:0≤p∧p≤12
   · simp [h1]
     obtain ⟨m,rfl⟩:=Int.eq_ofNat_of_zero_le h1.1
     have hm12:m≤12:=by omega
     refine j0a (fun k e=>f.length ^ k≤5000∧e=fr [(1,some (.val (I m))),(2,some (.val (.mem .own none [tb f,tb s]))),(6,some (.val (I f.length))),(7,some (.val (I ((f.length ^ k:Nat):Int)))),(24,some (.val (I m))),(25,some (.val (I k)))]) m ?_ ?_ 0 _ (by omega) ?_
     · rintro k e hk ⟨hk5,rfl⟩
       have hmul:((f.length ^ k:Nat):Int)*f.length=((f.length ^ (k+1):Nat):Int):=by rw [Nat.pow_succ,Int.natCast_mul]
       have hb:f.length ^ (k+1)≤60000:=by
        rw [Nat.pow_succ]
        exact Nat.le_trans (Nat.mul_le_mul hk5 h12) (by omega)
       generalize hA:f.length ^ k=A at *
       generalize hB:f.length ^ (k+1)=A' at *
       simp [hk,hmul]
       by_cases h5:A'≤5000
       · have h5':¬(5000:Int)<A':=by omega
         simp [h5']
         omega
       · have h5':(5000:Int)<A':=by omega
         have hno:=pow_step h0 hk (by omega:5000<f.length ^ (k+1))
         have e1:ctR f s m=0:=by
          have:¬ctOk f (m:Int):=fun hh=>hno (by simpa using hh.2)
          simp [ctR,this]
         have e2:ctC f s m=3:=by simp [ctC,h,h1,hno]
         simp [h5',e1,e2]
         omega
     · rintro e ⟨hk5,rfl⟩
       have hr:ctR f s m=(orbC (nbT f s m) (f.length ^ m) (f.length ^ m)).2:=by
        have:ctOk f (m:Int):=⟨h1,by simpa using hk5⟩
        simp [ctR,h,this]
       have hcc:ctC f s m=0:=by simp [ctC,h,h1,hk5]
       have hnb:∀ v,∀ w∈nbT f s m v,w<f.length ^ m:=fun v=>nbT_rng hpm
       have hnum:=fun v (i:Nat)=>num_mv hpm (m:=m) (v:=v) i
       have hpow:f.length ^ (digT f.length m 0).length=f.length ^ m:=by simp
       rw [hr,hcc]
       have hcall:∀ v i:Nat,i+1<m→Call pg 263 [I f.length,ix (dW f s (digT f.length m v) i)] [I f.length,ix (dW f s (digT f.length m v) i)] (I (numT f.length (dW f s (digT f.length m v) i))):=fun v i hi =>
        h263 f.length _ (dW_in hpm (digT_rng h0) i) (by omega) (by simp;omega) (by simp;omega)
       generalize hN:f.length ^ m=N at *
       simp
       refine ⟨by unfold roomy;omega,?_⟩
       refine j0a (fun k e=>e=fr [(1,some (.val (I m))),(2,some (.val (.mem .own none [tb f,tb s]))),(6,some (.val (I f.length))),(8,some (.val (.mem .own (some 1) ((orbC (nbT f s m) N k).1.map B)))),(9,some (.val (I (orbC (nbT f s m) N k).2))),(36,some (.val (I N))),(37,some (.val (I k)))]) N ?_ ?_ 0 _ (by omega) ?_
       · rintro k e hk rfl
         have hSl:=orbC_length (nbT f s m) N k
         have hSc:=orbC_cnt (nbT f s m) N k
         have hsucc:orbC (nbT f s m) N (k+1)=if (orbC (nbT f s m) N k).1.getD k false then orbC (nbT f s m) N k else (bfsF (nbT f s m) (N+1) ((orbC (nbT f s m) N k).1.set k true) [k],(orbC (nbT f s m) N k).2+1):=rfl
         rw [hsucc]
         generalize orbC (nbT f s m) N k=S at *
         have hkl:k<S.1.length:=by omega
         have hg:S.1.getD k false=S.1[k]:=by rw [List.getD_eq_getElem?_getD,List.getElem?_eq_getElem hkl];rfl
         rw [hg]
         by_cases hb:S.1[k]=true
         · simp [hk,hkl,hb]
           omega
         · have hb':S.1[k]=false:=by simpa using hb
           have hleft0:left (S.1.set k true,[k])≤N:=by
            have h1:=count_set hkl (by rw [hg];exact hb')
            have h2:S.1.count false≤S.1.length:=List.count_le_length
            simp only [left,List.length_cons,List.length_nil]
            omega
           have hsl0:(S.1.set k true).length=N:=by simp [hSl]
           have hset:(S.1.map B).set k (B true)=(S.1.set k true).map B:=by simp
           generalize hR:bfsF (nbT f s m) (N+1) (S.1.set k true) [k]=R
           simp [hk,hkl,hb']
           refine ⟨by omega,by omega,?_⟩
           refine j0m (α:=Nat×List Bool×List Nat) (fun y=>y.1) (fun y e=>bfsF (nbT f s m) y.1 y.2.1 y.2.2=R∧left (y.2.1,y.2.2)≤y.1∧y.2.1.length=N∧(∀ w∈y.2.2,w<N)∧left (y.2.1,y.2.2)≤N ∧
            e=fr [(1,some (.val (I m))),(2,some (.val (.mem .own none [tb f,tb s]))),(6,some (.val (I f.length))),(8,some (.val (.mem .own (some 1) (y.2.1.map B)))),(9,some (.val (I (S.2+1)))),(11,some (.val (.mem .own (some 1) ((nI y.2.2).map I)))),(36,some (.val (I N))),(37,some (.val (I k)))]) ?_ (N+1,S.1.set k true,[k]) _ ⟨hR,by simp only;omega,hsl0,by simpa using hk,by simp only;omega,?_⟩
           case refine_2=>simp [← hset]
           rintro ⟨fu,sn,q⟩ e ⟨b1,b2,b3,b4,b5,rfl⟩
           simp only at b1 b2 b3 b4 b5
           cases q with
           | nil =>
            have hRs:sn=R:=by cases fu <;> exact b1
            simp [hRs]
            omega
           | cons v q =>
            have hl1:left (sn,v::q)=left (sn,q)+1:=by simp [left];omega
            obtain ⟨fu,rfl⟩:∃ g,fu=g+1:=⟨fu-1,by omega⟩
            rw [bfsF] at b1
            have hvN:=b4 v (by simp)
            have hqN:q.length<N:=by
             have:q.length≤left (sn,q):=by simp [left]
             omega
            have hlt:(0:Int)<q.length+1:=by omega
            simp [hlt]
            refine j0e (h262 f.length m v h0 (by omega) (by omega) (by omega)) rfl rfl (fun _=>by simp) ?_
            simp
            have hwl:(nbT f s m v).length=m-1:=nbT_length f s m v
            have hst:∀ c,(((nbT f s m v).take c).foldl visW (sn,q)).1.length=N:=fun c=>by rw [visL_length];exact b3
            have hleft:∀ c,left (((nbT f s m v).take c).foldl visW (sn,q))=left (sn,q):=fun c=>visL_left fun w hw=>by
             have:=hnb v w (List.mem_of_mem_take hw)
             simp only;omega
            refine ⟨by omega,?_⟩
            refine j0a (fun c e=>e=fr [(1,some (.val (I m))),(2,some (.val (.mem .own none [tb f,tb s]))),(6,some (.val (I f.length))),(8,some (.val (.mem .own (some 1) ((((nbT f s m v).take c).foldl visW (sn,q)).1.map B)))),(9,some (.val (I (S.2+1)))),(11,some (.val (.mem .own (some 1) ((nI (v::(((nbT f s m v).take c).foldl visW (sn,q)).2)).map I)))),(12,some (.val (.mem .own (some 1) ((digT f.length m v).map I)))),(36,some (.val (I N))),(37,some (.val (I k))),(64,some (.val (I ((m:Int)-1)))),(65,some (.val (I c)))]) (m-1) ?_ ?_ 0 _ (by omega) ?_
            · rintro c e hc rfl
              have hcm:c+1<m:=by omega
              have hcm':(c:Int)<(m:Int)-1:=by omega
              have hcw:c<(nbT f s m v).length:=by omega
              have hst1:=hst c
              have hlc:=hleft c
              have hsuc:=visL_succ hcw (sn,q)
              have hw:((nbT f s m v)[c]:Int)=numT f.length (dW f s (digT f.length m v) c):=by
               rw [nbT_get hcw];have:=hnum v c;omega
              have hwN:=hnb v _ (List.getElem_mem hcw)
              have hq2:(((nbT f s m v).take c).foldl visW (sn,q)).2.length≤left (((nbT f s m v).take c).foldl visW (sn,q)):=by simp [left]
              rw [hsuc]
              have hmv:=h44 f s (digT f.length m v) c hpm (by simpa using hcm) (by simp;omega) (digT_rng h0)
              have hcl:=hcall v c hcm
              rw [← hw] at hcl
              generalize (nbT f s m v)[c]=w at *
              generalize ((nbT f s m v).take c).foldl visW (sn,q)=st at *
              simp [hcm']
              refine j0e hmv rfl rfl (fun _=>by simp) ?_
              simp
              refine j0e hcl rfl rfl (fun _=>rfl) ?_
              have hwl2:w<st.1.length:=by omega
              have hgw:st.1.getD w false=st.1[w]:=by rw [List.getD_eq_getElem?_getD,List.getElem?_eq_getElem hwl2];rfl
              unfold visW
              rw [hgw]
              by_cases hsw:st.1[w]=true
              · simp [hwl2,hsw]
                omega
              · have hsw':st.1[w]=false:=by simpa using hsw
                simp [hwl2,hsw',roomy]
                omega
            · rintro e rfl
              have hnlt:¬(((m-1:Nat):Int)<(m:Int)-1):=by omega
              have htk:(nbT f s m v).take (m-1)=nbT f s m v:=List.take_of_length_le (by omega)
              have hlf:=hleft (m-1)
              have hsf:=hst (m-1)
              have hrg:=visL_rng (N:=N) (st:=(sn,q)) (hnb v) (fun w hw=>b4 w (by simp [hw]))
              rw [htk] at hlf hsf ⊢
              generalize (nbT f s m v).foldl visW (sn,q)=st at *
              simp [hnlt]
              exact ⟨by omega,by omega,fu,by omega,st.1,st.2,b1,show left st≤fu by omega,hsf,hrg,show left st≤N by omega,by simp [win,take_len (List.map I (nI st.2)) (n:=st.2.length) (by simp)]⟩
            · simp
       · rintro e rfl
         simp
       · simp [orbC]
     · simp
   · have e1:ctR f s p=0:=by
      have:¬ctOk f p:=fun hh=>h1 hh.1
      simp [ctR,this]
     have e2:ctC f s p=2:=by simp [ctC,h,h1]
     simp [h1,e1,e2]
 · have e1:ctR f s p=0:=by simp [ctR,h]
   have e2:ctC f s p=1:=by simp [ctC,h]
   simp [j1d h,e1,e2]
end Go.Mch
namespace Go.Mch

def Rt (nb:Nat→List Nat) (a b:Nat):Prop:=∀ S:Nat→Prop,S a→(∀ x y,S x→y∈nb x→S y)→S b
theorem Rt.refl (nb:Nat→List Nat) (a:Nat):Rt nb a a:=fun _ h _=>h
theorem Rt.trans {nb:Nat→List Nat} {a b c:Nat} (h:Rt nb a b) (h2:Rt nb b c):Rt nb a c:=fun S hs hc=>h2 S (h S hs hc) hc
theorem Rt.step {nb:Nat→List Nat} {a b c:Nat} (h:Rt nb a b) (h2:c∈nb b):Rt nb a c:=fun S hs hc=>hc _ _ (h S hs hc) h2
theorem Rt.rng {nb:Nat→List Nat} {N a b:Nat} (hn:∀ x,x<N→∀ y∈nb x,y<N) (h:Rt nb a b) (ha:a<N):b<N:=h (fun x=>x<N) ha fun x y hx hy=>hn x hx y hy

def seen (st:List Bool) (v:Nat):Prop:=st.getD v false=true
theorem seen_set {st:List Bool} {w v:Nat} (hw:w<st.length):seen (st.set w true) v↔v=w∨seen st v:=by
 unfold seen
 by_cases h:w=v
 · subst h
   simp [List.getD_eq_getElem?_getD,List.getElem?_set_self hw]
 · have h2:¬v=w:=fun e=>h e.symm
   simp [List.getD_eq_getElem?_getD,List.getElem?_set_ne h,h2]
theorem vis_seen {st:List Bool×List Nat} {w v:Nat} (hw:w<st.1.length):seen (visW st w).1 v↔v=w∨seen st.1 v:=by
 unfold visW
 split
 · rename_i h
   constructor
   · exact Or.inr
   · rintro (rfl | h2)
     · exact h
     · exact h2
 · exact seen_set hw
theorem visL_seen {ws:List Nat}:∀ {st:List Bool×List Nat} {v:Nat},(∀ w∈ws,w<st.1.length)→(seen (ws.foldl visW st).1 v↔v∈ws∨seen st.1 v):=by
 induction ws with
 | nil=>intro st v _;simp
 | cons w ws ih =>
  intro st v h
  simp only [List.foldl_cons]
  rw [ih (fun x hx=>by simp;exact h x (by simp [hx])),vis_seen (h w (by simp))]
  simp only [List.mem_cons]
  constructor
  · rintro (h1 | h1 | h1)
    · exact Or.inl (Or.inr h1)
    · exact Or.inl (Or.inl h1)
    · exact Or.inr h1
  · rintro ((h1 | h1) | h1)
    · exact Or.inr (Or.inl h1)
    · exact Or.inl h1
    · exact Or.inr (Or.inr h1)
theorem visL_q {ws:List Nat}:∀ {st:List Bool×List Nat},(∀ w∈ws,w<st.1.length)→(∀ v∈st.2,v∈(ws.foldl visW st).2)∧(∀ v∈(ws.foldl visW st).2,v∈st.2∨v∈ws)∧(∀ v,seen (ws.foldl visW st).1 v→seen st.1 v∨v∈(ws.foldl visW st).2):=by
 induction ws with
 | nil=>intro st _;exact ⟨fun v h=>h,fun v h=>Or.inl h,fun v h=>Or.inl h⟩
 | cons w ws ih =>
  intro st h
  simp only [List.foldl_cons]
  obtain ⟨h1,h2,h3⟩:=ih (st:=visW st w) (fun x hx=>by simp;exact h x (by simp [hx]))
  have k1:∀ v∈st.2,v∈(visW st w).2:=fun v hv=>by unfold visW;split <;> simp [hv]
  have k2:∀ v∈(visW st w).2,v∈st.2∨v=w:=fun v hv=>by
   unfold visW at hv
   split at hv
   · exact Or.inl hv
   · rcases List.mem_append.1 hv with hv | hv
     · exact Or.inl hv
     · exact Or.inr (List.mem_singleton.1 hv)
  have k3:∀ v,seen (visW st w).1 v→seen st.1 v∨v∈(visW st w).2:=fun v hv=>by
   by_cases hs:seen st.1 w
   · have:visW st w=st:=by unfold visW;exact if_pos hs
     rw [this] at hv
     exact Or.inl hv
   · rcases (vis_seen (h w (by simp))).1 hv with rfl | hv
     · refine Or.inr ?_
       have:visW st v=(st.1.set v true,st.2++[v]):=by unfold visW;exact if_neg hs
       rw [this]
       simp
     · exact Or.inl hv
  refine ⟨fun v hv=>h1 v (k1 v hv),fun v hv=>?_,fun v hv=>?_⟩
  · rcases h2 v hv with hv | hv
    · rcases k2 v hv with hv | hv
      · exact Or.inl hv
      · exact Or.inr (by simp [hv])
    · exact Or.inr (by simp [hv])
  · rcases h3 v hv with hv | hv
    · rcases k3 v hv with hv | hv
      · exact Or.inl hv
      · exact Or.inr (h1 v hv)
    · exact Or.inr hv
theorem bfs_spec {nb:Nat→List Nat} {N:Nat} (hn:∀ x,x<N→∀ y∈nb x,y<N):∀ (k:Nat) (st:List Bool) (q:List Nat),st.length=N→(∀ v∈q,v<N∧seen st v)→(∀ v,seen st v→v∈q∨∀ w∈nb v,seen st w)→left (st,q)≤k →
 (∀ v,seen st v→seen (bfsF nb k st q) v)∧(∀ v w,seen (bfsF nb k st q) v→w∈nb v→seen (bfsF nb k st q) w)∧(∀ v,seen (bfsF nb k st q) v→seen st v∨∃ u∈q,Rt nb u v):=by
 intro k
 induction k with
 | zero =>
  intro st q hl hq hc hk
  have:q=[]:=by
   cases q with
   | nil=>rfl
   | cons a q=>simp [left] at hk
  subst this
  refine ⟨fun v h=>h,fun v w h hw=>?_,fun v h=>Or.inl h⟩
  rcases hc v h with h1 | h1
  · simp at h1
  · exact h1 w hw
 | succ k ih =>
  intro st q hl hq hc hk
  cases q with
  | nil =>
   refine ⟨fun v h=>h,fun v w h hw=>?_,fun v h=>Or.inl h⟩
   rcases hc v h with h1 | h1
   · simp at h1
   · exact h1 w hw
  | cons a q =>
   have ha:=hq a (by simp)
   have hw:∀ w∈nb a,w<(st,q).1.length:=fun w hw=>by simp only [hl];exact hn a ha.1 w hw
   obtain ⟨q1,q2,q3⟩:=visL_q hw
   have hs:=fun v=>visL_seen (v:=v) hw
   have hlen:=visL_length (nb a) (st,q)
   have hleft:=visL_left hw
   rw [bfsF]
   generalize (nb a).foldl visW (st,q)=Y at *
   simp only at q1 q3 hs hlen
   obtain ⟨g1,g2,g3⟩:=ih Y.1 Y.2 (by omega) (fun v hv=>by
    rcases q2 v hv with h1 | h1
    · exact ⟨(hq v (by simp [h1])).1,(hs v).2 (Or.inr (hq v (by simp [h1])).2)⟩
    · exact ⟨hn a ha.1 v h1,(hs v).2 (Or.inl h1)⟩) (fun v hv=>by
    rcases q3 v hv with h1 | h1
    · rcases hc v h1 with h2 | h2
      · rcases List.mem_cons.1 h2 with rfl | h2
        · exact Or.inr fun w hw=>(hs w).2 (Or.inl hw)
        · exact Or.inl (q1 v h2)
      · exact Or.inr fun w hw=>(hs w).2 (Or.inr (h2 w hw))
    · exact Or.inl h1) (by
    have:left (Y.1,Y.2)=left Y:=rfl
    rw [this,hleft]
    simp only [left,List.length_cons] at hk ⊢
    omega)
   refine ⟨fun v h=>g1 v ((hs v).2 (Or.inr h)),g2,fun v h=>?_⟩
   rcases g3 v h with h1 | ⟨u,hu,h1⟩
   · rcases (hs v).1 h1 with h2 | h2
     · exact Or.inr ⟨a,by simp,(Rt.refl nb a).step h2⟩
     · exact Or.inl h2
   · rcases q2 u hu with h2 | h2
     · exact Or.inr ⟨u,by simp [h2],h1⟩
     · exact Or.inr ⟨a,by simp,((Rt.refl nb a).step h2).trans h1⟩
noncomputable def frs (R:Nat→Nat→Prop) (k:Nat):List Nat:=(List.range k).filter fun v=>dec (∀ u,u<v→¬R u v)
theorem frs_mem {R:Nat→Nat→Prop} {k v:Nat}:v∈frs R k↔v<k∧∀ u,u<v→¬R u v:=by
 unfold frs
 rw [List.mem_filter,List.mem_range]
 by_cases h:∀ u,u<v→¬R u v
 · simp only [j1p h];exact ⟨fun g=>⟨g.1,h⟩,fun g=>⟨g.1,trivial⟩⟩
 · simp only [j1d h];exact ⟨fun g=>absurd g.2 (by simp),fun g=>absurd g.2 h⟩
theorem frs_succ (R:Nat→Nat→Prop) (k:Nat):(frs R (k+1)).length=(frs R k).length+if dec (∀ u,u<k→¬R u k) then 1 else 0:=by
 unfold frs
 rw [List.range_succ,List.filter_append,List.length_append]
 congr 1
 by_cases h:∀ u,u<k→¬R u k
 · simp [j1p h]
 · simp [j1d h]
theorem orbC_spec {nb:Nat→List Nat} {N:Nat} (hn:∀ x,x<N→∀ y∈nb x,y<N):∀ k,k≤N→(∀ v,seen (orbC nb N k).1 v↔∃ u,u<k∧Rt nb u v)∧(orbC nb N k).2=((frs (Rt nb) k).length:Int):=by
 intro k
 induction k with
 | zero =>
  intro _
  refine ⟨fun v=>⟨fun h=>?_,fun ⟨u,hu,_⟩=>by omega⟩,by simp [orbC,frs]⟩
  unfold seen orbC at h
  simp [List.getD_eq_getElem?_getD,List.getElem?_replicate] at h
  split at h <;> simp at h
 | succ k ih =>
  intro hk
  obtain ⟨i1,i2⟩:=ih (by omega)
  have hl:=orbC_length nb N k
  rw [frs_succ]
  by_cases hs:seen (orbC nb N k).1 k
  · have e:orbC nb N (k+1)=orbC nb N k:=by rw [orbC];exact if_pos hs
    rw [e]
    obtain ⟨u,hu,hr⟩:=(i1 k).1 hs
    have hno:¬∀ u,u<k→¬Rt nb u k:=fun h=>h u hu hr
    refine ⟨fun v=>⟨fun h=>?_,fun ⟨w,hw,h⟩=>?_⟩,by rw [i2];simp [j1d hno]⟩
    · obtain ⟨w,hw,h⟩:=(i1 v).1 h
      exact ⟨w,by omega,h⟩
    · by_cases hwk:w=k
      · subst hwk
        exact (i1 v).2 ⟨u,hu,hr.trans h⟩
      · exact (i1 v).2 ⟨w,by omega,h⟩
  · have e:orbC nb N (k+1)=(bfsF nb (N+1) ((orbC nb N k).1.set k true) [k],(orbC nb N k).2+1):=by rw [orbC];exact if_neg hs
    rw [e]
    have hkl:k<(orbC nb N k).1.length:=by omega
    have hset:=fun v=>seen_set (v:=v) hkl
    have hcnt:=count_set hkl (by unfold seen at hs;simpa using hs)
    have hle:(orbC nb N k).1.count false≤N:=Nat.le_trans List.count_le_length (Nat.le_of_eq hl)
    obtain ⟨g1,g2,g3⟩:=bfs_spec hn (N+1) ((orbC nb N k).1.set k true) [k] (by simp [hl]) (fun v hv=>by
     rw [List.mem_singleton.1 hv]
     exact ⟨by omega,(hset k).2 (Or.inl rfl)⟩) (fun v hv=>by
     rcases (hset v).1 hv with rfl | h1
     · exact Or.inl (by simp)
     · refine Or.inr fun w hw=>(hset w).2 (Or.inr ?_)
       obtain ⟨u,hu,hr⟩:=(i1 v).1 h1
       exact (i1 w).2 ⟨u,hu,hr.step hw⟩) (by simp only [left,List.length_cons,List.length_nil];omega)
    have hno:∀ u,u<k→¬Rt nb u k:=fun u hu hr=>hs ((i1 k).2 ⟨u,hu,hr⟩)
    refine ⟨fun v=>⟨fun h=>?_,fun ⟨w,hw,h⟩=>?_⟩,by show (orbC nb N k).2+1=_;rw [i2];simp [j1p hno]⟩
    · rcases g3 v h with h1 | ⟨u,hu,h1⟩
      · rcases (hset v).1 h1 with rfl | h1
        · exact ⟨v,by omega,Rt.refl nb v⟩
        · obtain ⟨u,hu,hr⟩:=(i1 v).1 h1
          exact ⟨u,by omega,hr⟩
      · rw [List.mem_singleton.1 hu] at h1
        exact ⟨k,by omega,h1⟩
    · by_cases hwk:w=k
      · subst hwk
        exact h (seen _) (g1 w ((hset w).2 (Or.inl rfl))) fun x y hx hy=>g2 x y hx hy
      · exact g1 v ((hset v).2 (Or.inr ((i1 v).2 ⟨w,by omega,h⟩)))
structure Eqr (N:Nat) (R:Nat→Nat→Prop):Prop where
 r:∀ a,R a a
 s:∀ a b,a<N→R a b→R b a
 t:∀ a b c,R a b→R b c→R a c
 g:∀ a b,a<N→R a b→b<N
theorem frs_nodup (R:Nat→Nat→Prop) (k:Nat):(frs R k).Nodup:=List.Pairwise.filter _ List.nodup_range
theorem frs_le {N:Nat} {R R':Nat→Nat→Prop} (h:Eqr N R) (h':Eqr N R') (φ:Nat→Nat) (hr:∀ x,x<N→φ x<N) (hφ:∀ x y,x<N→y<N→R' (φ x) (φ y)→R x y):(frs R N).length≤(frs R' N).length:=by
 have ex:∀ x,x<N→∃ k,k<N+1∧R' k (φ x):=fun x hx=>⟨φ x,by have:=hr x hx;omega,h'.r _⟩
 let g:Nat→Nat:=fun x=>if hx:x<N then Classical.choose (least (ex x hx)) else 0
 have hg:∀ x,x<N→R' (g x) (φ x)∧∀ i,i<g x→¬R' i (φ x):=fun x hx=>by
  have:=Classical.choose_spec (least (ex x hx))
  simp only [g,hx,dif_pos]
  exact this.2
 have hgn:∀ x,x<N→g x<N:=fun x hx=>by
  obtain ⟨h1,h2⟩:=hg x hx
  have h3:=hr x hx
  rcases Nat.lt_or_ge (φ x) (g x) with h4 | h4
  · exact absurd (h'.r _) (h2 _ h4)
  · omega
 have:=len_le_of_sub ((frs R N).map g) (frs R' N) ?_ ?_
 · simpa using this
 · rw [List.Nodup,List.pairwise_map]
   refine (frs_nodup R N).imp_of_mem ?_
   intro a b ha hb hab he
   obtain ⟨a1,a2⟩:=frs_mem.1 ha
   obtain ⟨b1,b2⟩:=frs_mem.1 hb
   have g1:=(hg a a1).1
   have g2:=(hg b b1).1
   rw [he] at g1
   have hR:=hφ a b a1 b1 (h'.t _ _ _ (h'.s _ _ (hgn b b1) g1) g2)
   rcases Nat.lt_trichotomy a b with h1 | h1 | h1
   · exact b2 a h1 hR
   · exact hab h1
   · exact a2 b h1 (h.s _ _ a1 hR)
 · intro v hv
   obtain ⟨x,hx,rfl⟩:=List.mem_map.1 hv
   obtain ⟨x1,_⟩:=frs_mem.1 hx
   obtain ⟨g1,g2⟩:=hg x x1
   refine frs_mem.2 ⟨hgn x x1,fun u hu hR=>g2 u hu (h'.t _ _ _ hR g1)⟩
end Go.Mch
namespace Go.Mch


theorem digT_succ {n m v:Nat}:digT n (m+1) v=digT n m (v / n)++[((v % n:Nat):Int)]:=by
 unfold digT
 rw [List.range_succ,List.map_append]
 congr 1
 · refine List.map_congr_left fun j hj=>?_
   have hj:=List.mem_range.1 hj
   rw [Nat.div_div_eq_div_mul,show m+1-1-j=(m-1-j)+1 by omega,Nat.pow_succ,Nat.mul_comm n]
 · simp
theorem num_dig {n:Nat} (hn:0<n):∀ (m v:Nat),v<n ^ m→numT n (digT n m v)=v:=by
 intro m
 induction m with
 | zero=>intro v hv;simp at hv;subst hv;rfl
 | succ m ih =>
  intro v hv
  have h1:v / n<n ^ m:=by rw [Nat.div_lt_iff_lt_mul hn,← Nat.pow_succ];exact hv
  rw [digT_succ,numT_snoc,ih _ h1]
  have:=Nat.div_add_mod v n
  rw [← Int.natCast_mul,← Int.natCast_add,Nat.mul_comm,this]
theorem dig_num {n:Nat} (hn:0<n):∀ (m:Nat) (w:List Int),w.length=m→inN n w→digT n m (numT n w).toNat=w:=by
 intro m
 induction m with
 | zero=>intro w hl _;rw [List.length_eq_zero_iff.1 hl];rfl
 | succ m ih =>
  intro w hl hw
  obtain ⟨u,x,rfl⟩:∃ u x,w=u++[x]:=⟨w.take m,w[m],by rw [← List.take_succ_eq_append_getElem (by omega),List.take_of_length_le (by omega)]⟩
  have hu:inN n u:=fun v hv=>hw v (by simp [hv])
  have hx:=hw x (by simp)
  have hul:u.length=m:=by simpa using hl
  have hr:=numT_rng hu u.length (Nat.le_refl _)
  rw [List.take_length] at hr
  rw [digT_succ,numT_snoc]
  have e:=ih u hul hu
  generalize numT n u=a at *
  obtain ⟨A,rfl⟩:∃ A:Nat,a=A:=⟨a.toNat,by omega⟩
  obtain ⟨X,rfl⟩:∃ X:Nat,x=X:=⟨x.toNat,by omega⟩
  have hX:X<n:=by omega
  have e1:((A:Int)*n+X).toNat=n*A+X:=by rw [← Int.natCast_mul,← Int.natCast_add,Int.toNat_natCast,Nat.mul_comm]
  rw [e1,Nat.mul_add_div hn,Nat.div_eq_of_lt hX,Nat.mul_add_mod,Nat.mod_eq_of_lt hX,Nat.add_zero]
  rw [Int.toNat_natCast] at e
  rw [e]
theorem numT_lt {n m:Nat} {w:List Int} (hw:inN n w) (hl:w.length=m):0≤numT n w∧(numT n w).toNat<n ^ m:=by
 have hr:=numT_rng hw w.length (Nat.le_refl _)
 rw [List.take_length,hl] at hr
 omega
theorem num_inj {n m:Nat} (hn:0<n) {w w':List Int} (h:inN n w) (h':inN n w') (hl:w.length=m) (hl':w'.length=m) (he:(numT n w).toNat=(numT n w').toNat):w=w':=by
 rw [← dig_num hn m w hl h,← dig_num hn m w' hl' h',he]
theorem dig_inj {n m:Nat} (hn:0<n) {v v':Nat} (h:v<n ^ m) (h':v'<n ^ m) (he:digT n m v=digT n m v'):v=v':=by
 have h1:=num_dig hn m v h
 have h2:=num_dig hn m v' h'
 rw [he,h2] at h1
 omega


theorem onto_fin {N:Nat} {g:Nat→Nat} (S:Nat→Prop) (hr:∀ x,x<N→g x<N) (hi:∀ x y,x<N→y<N→g x=g y→x=y) (hS:∀ x,x<N→S x→S (g x)) {y:Nat} (hy:y<N) (hSy:S y):∃ x,x<N∧S x∧g x=y:=by
 apply Classical.byContradiction
 intro hno
 have hm:∀ v,v∈(List.range N).filter (fun v=>dec (S v))↔v<N∧S v:=fun v=>by
  rw [List.mem_filter,List.mem_range]
  by_cases h:S v
  · simp [h]
  · simp [h]
 have:=len_le_of_sub (y::((List.range N).filter fun v=>dec (S v)).map g) ((List.range N).filter fun v=>dec (S v)) ?_ ?_
 · simp at this
   omega
 · rw [List.nodup_cons]
   constructor
   · intro h
     obtain ⟨x,hx,he⟩:=List.mem_map.1 h
     obtain ⟨h1,h2⟩:=(hm x).1 hx
     exact hno ⟨x,h1,h2,he⟩
   · rw [List.Nodup,List.pairwise_map]
     refine (List.Pairwise.filter _ (List.nodup_range (n:=N))).imp_of_mem ?_
     intro a b ha hb hab he
     exact hab (hi a b ((hm a).1 ha).1 ((hm b).1 hb).1 he)
 · intro v hv
   rcases List.mem_cons.1 hv with rfl | hv
   · exact (hm v).2 ⟨hy,hSy⟩
   · obtain ⟨x,hx,rfl⟩:=List.mem_map.1 hv
     obtain ⟨h1,h2⟩:=(hm x).1 hx
     exact (hm _).2 ⟨hr x h1,hS x h1 h2⟩
theorem rt_sym {N k:Nat} {nb:Nat→List Nat} {g:Nat→Nat→Nat} (hnb:∀ x,nb x=(List.range k).map fun i=>g i x) (hr:∀ i x,x<N→g i x<N) (hi:∀ i x y,i<k→x<N→y<N→g i x=g i y→x=y):Eqr N (Rt nb):=by
 have hmem:∀ x y,y∈nb x↔∃ i,i<k∧g i x=y:=fun x y=>by rw [hnb];simp
 have hrng:∀ x,x<N→∀ y∈nb x,y<N:=fun x hx y hy=>by
  obtain ⟨i,_,rfl⟩:=(hmem x y).1 hy
  exact hr i x hx
 have one:∀ x y,x<N→y∈nb x→Rt nb y x:=fun x y hx hy=>by
  obtain ⟨i,hik,rfl⟩:=(hmem x y).1 hy
  obtain ⟨z,z1,z2,z3⟩:=onto_fin (g:=g i) (Rt nb (g i x)) (hr i) (fun a b ha hb he=>hi i a b hik ha hb he) (fun a _ h=>h.step ((hmem a _).2 ⟨i,hik,rfl⟩)) (hr i x hx) (Rt.refl nb _)
  rwa [hi i z x hik z1 hx z3] at z2
 refine ⟨Rt.refl nb,fun a b ha h=>?_,fun a b c=>Rt.trans,fun a b ha h=>h.rng hrng ha⟩
 exact (h (fun z=>z<N∧Rt nb z a) ⟨ha,Rt.refl nb a⟩ fun x y hx hy=>⟨hrng x hx.1 y hy,(one x y hx.1 hy).trans hx.2⟩).2
theorem dW_inj {f s:List (List Int)} (_h:PM f s) (hi:Inj f s) {w w':List Int} (hw:inN f.length w) (hw':inN f.length w') (hl:w.length=w'.length) {i:Nat} (hk:i+1<w.length) (he:dW f s w i=dW f s w' i):w=w':=by
 obtain ⟨u,a,b,v,rfl,rfl⟩:=cut_at hk
 obtain ⟨u',a',b',v',rfl,hu⟩:=cut_at (w:=w') (k:=u.length) (by omega)
 have ha:=hw a (by simp)
 have hb:=hw b (by simp)
 have ha':=hw' a' (by simp)
 have hb':=hw' b' (by simp)
 have e2:=dW_mid f s u' v' a' b'
 rw [hu] at e2
 rw [dW_mid,e2] at he
 obtain ⟨h1,h2⟩:=List.append_inj he hu.symm
 simp only [List.cons.injEq] at h2
 obtain ⟨h3,h4,h5⟩:=h2
 obtain ⟨h6,h7⟩:=inj_pair hi (x:=a.toNat) (y:=b.toNat) (x':=a'.toNat) (y':=b'.toNat) (by omega) (by omega) (by omega) (by omega) h3 h4
 have:a=a':=by omega
 have:b=b':=by omega
 subst h1 h5
 simp [*]
theorem nbT_eqr {f s:List (List Int)} (h:PM f s) (hi:Inj f s) (m:Nat):Eqr (f.length ^ m) (Rt (nbT f s m)):=by
 refine rt_sym (k:=m-1) (g:=fun i v=>(numT f.length (dW f s (digT f.length m v) i)).toNat) (fun _=>rfl) (fun i v _=>?_) (fun i v v' hik hv hv' he=>?_)
 · have:=num_mv h (m:=m) (v:=v) i
   omega
 · have d1:=digT_rng (n:=f.length) (m:=m) (v:=v) h.pos
   have d2:=digT_rng (n:=f.length) (m:=m) (v:=v') h.pos
   have:=num_inj (m:=m) h.pos (dW_in h d1 i) (dW_in h d2 i) (by simp) (by simp) he
   exact dig_inj h.pos hv hv' (dW_inj h hi d1 d2 (by simp) (by simp;omega) this)


theorem same_orbits {f s F S:List (List Int)} (h:Rg f s) (hi:Inj f s) (H:PM F S) (Hi:Inj F S) (hl:F.length=f.length) (hm:∀ (w:List Int) (k:Nat),inN f.length w→k+1<w.length→dW F S w k=rW (raT f s) w k) (m:Nat) :
 (orbC (nbT F S m) (F.length ^ m) (F.length ^ m)).2=(orbC (nbT f s m) (f.length ^ m) (f.length ^ m)).2:=by
 have E1:=nbT_eqr h.1 hi m
 have E2:=nbT_eqr H Hi m
 have c1:=(orbC_spec (fun x _=>nbT_rng h.1 (m:=m) (v:=x)) (f.length ^ m) (Nat.le_refl _)).2
 have c2:=(orbC_spec (fun x _=>nbT_rng H (m:=m) (v:=x)) (F.length ^ m) (Nat.le_refl _)).2
 rw [c1,c2]
 have hN:F.length ^ m=f.length ^ m:=by rw [hl]
 rw [hN] at E2 ⊢
 clear c1 c2
 have h0:=h.1.pos
 have dr:∀ v,inN f.length (digT f.length m v):=fun v=>digT_rng h0
 have gr:∀ v,inN f.length (gmL f (digT f.length m v)):=fun v=>gm_in h.1 (dr v)
 let φ:Nat→Nat:=fun v=>(numT f.length (gmL f (digT f.length m v))).toNat
 have hφ:∀ v,φ v<f.length ^ m:=fun v=>(numT_lt (gr v) (by simp)).2
 have hdφ:∀ v,digT f.length m (φ v)=gmL f (digT f.length m v):=fun v=>dig_num h0 m _ (by simp) (gr v)
 have iφ:∀ v v',v<f.length ^ m→v'<f.length ^ m→φ v=φ v'→v=v':=fun v v' hv hv' he=>by
  have:=congrArg (digT f.length m) he
  rw [hdφ,hdφ] at this
  exact dig_inj h0 hv hv' (gm_inj h (dr v) (dr v') this)
 have step:∀ v i,i<m-1→(numT F.length (dW F S (digT F.length m (φ v)) i)).toNat=φ (numT f.length (dW f s (digT f.length m v) i)).toNat:=fun v i him=>by
  have hk:i+1<(digT f.length m v).length:=by simp;omega
  show _=(numT f.length (gmL f (digT f.length m (numT f.length (dW f s (digT f.length m v) i)).toNat))).toNat
  rw [dig_num h0 m _ (by simp) (dW_in h.1 (dr v) i),gm_move h (dr v) hk,hl,hdφ,hm _ _ (gr v) (by simp;omega)]
 have mem1:∀ x y,y∈nbT f s m x↔∃ i,i<m-1∧(numT f.length (dW f s (digT f.length m x) i)).toNat=y:=fun x y=>by unfold nbT;simp
 have mem2:∀ x y,y∈nbT F S m x↔∃ i,i<m-1∧(numT F.length (dW F S (digT F.length m x) i)).toNat=y:=fun x y=>by unfold nbT;simp
 have fwd:∀ a b,a<f.length ^ m→Rt (nbT f s m) a b→Rt (nbT F S m) (φ a) (φ b):=fun a b ha hr=>by
  refine hr (fun v=>Rt (nbT F S m) (φ a) (φ v)) (Rt.refl _ _) fun x y hx hy=>?_
  obtain ⟨i,him,rfl⟩:=(mem1 x y).1 hy
  refine hx.step ((mem2 _ _).2 ⟨i,him,step x i him⟩)
 have bwd:∀ a b,a<f.length ^ m→b<f.length ^ m→Rt (nbT F S m) (φ a) (φ b)→Rt (nbT f s m) a b:=fun a b ha hb hr=>by
  obtain ⟨v,v1,v2,v3⟩:=hr (fun w=>∃ v,v<f.length ^ m∧φ v=w∧Rt (nbT f s m) a v) ⟨a,ha,rfl,Rt.refl _ _⟩ (by
   rintro x y ⟨v,v1,rfl,v3⟩ hy
   obtain ⟨i,him,rfl⟩:=(mem2 _ y).1 hy
   refine ⟨_,?_,(step v i him).symm,v3.step ((mem1 v _).2 ⟨i,him,rfl⟩)⟩
   exact nbT_rng h.1 (m:=m) (v:=v) _ ((mem1 v _).2 ⟨i,him,rfl⟩))
  rwa [iφ v b v1 hb v2] at v3
 have sur:=surj_of_inj (n:=f.length ^ m) (g:=φ) (fun v _=>hφ v) (fun v v' hv hv' he=>iφ v v' hv hv' he)
 let ψ:Nat→Nat:=fun v=>if hv:v<f.length ^ m then Classical.choose (sur v hv) else 0
 have hψ:∀ v,v<f.length ^ m→ψ v<f.length ^ m∧φ (ψ v)=v:=fun v hv=>by
  have:=Classical.choose_spec (sur v hv)
  simp only [ψ,hv,dif_pos]
  exact this
 have l1:=frs_le E1 E2 φ (fun x _=>hφ x) bwd
 have l2:=frs_le E2 E1 ψ (fun x hx=>(hψ x hx).1) fun x y hx hy hr=>by
  have:=fwd _ _ (hψ x hx).1 hr
  rwa [(hψ x hx).2,(hψ y hy).2] at this
 rw [Nat.le_antisymm l2 l1]


theorem idP {n:Nat} (h0:0<n) (h12:n≤12):Pm (idL n)∧∀ x,x<n→pN (idL n) x=x∧invQ (idL n) x=x:=by
 have hl:(idL n).length=n:=by simp [idL]
 have pm:Pm (idL n):=⟨permuted_row (g:=fun y=>y) (fun y hy=>hy) (fun y y' _ _ he=>he),by omega,by omega⟩
 have hp:∀ x,x<n→pN (idL n) x=x:=fun x hx=>by simp [pN,idL,hx]
 refine ⟨pm,fun x hx=>⟨hp x hx,?_⟩⟩
 have:=pm.back (i:=x) (by omega)
 rwa [(pN_at pm (x:=x) (by omega)).2.2,hp x hx,Int.toNat_natCast] at this
theorem imT_id {t:List (List Int)} (h:isRk t):imT t (idL t.length)=t:=by
 have ht:Tab t:=h.1.2.2
 obtain ⟨pm,hq⟩:=idP (n:=t.length) (by have:=h.1.1;omega) (by have:=h.1.2.1;omega)
 have hl:(idL t.length).length=t.length:=by simp [idL]
 have e:=tab_eq (t:=t) (n:=t.length) rfl fun r hr=>(ht r hr).1
 conv=>rhs;rw [e]
 refine tabL_congr fun x y hx hy=>?_
 have hlt:=(rck_of h).r x y hx hy
 unfold imG
 rw [(hq x hx).2,(hq y hy).2]
 have:=(pN_at pm (x:=σN t x y) (by omega)).1
 rw [(hq _ hlt).1] at this
 show (idL t.length).getD (σN t x y) 0=_
 rw [this,v2_int h]
theorem tw_id {t:List (List Int)} (h:isRk t):isReg (twF (idL t.length)) (twS t (idL t.length))∧raT (twF (idL t.length)) (twS t (idL t.length))=t∧(twF (idL t.length)).length=t.length ∧
 ∀ (w:List Int) (k:Nat),inN t.length w→k+1<w.length→dW (twF (idL t.length)) (twS t (idL t.length)) w k=rW t w k:=by
 obtain ⟨pm,hq⟩:=idP (n:=t.length) (by have:=h.1.1;omega) (by have:=h.1.2.1;omega)
 have hl:(idL t.length).length=t.length:=by simp [idL]
 obtain ⟨h1,h2⟩:=tw_reg h hl pm.pm (imT_id h)
 obtain ⟨e1,e2⟩:=tw_tabs h hl pm.pm (imT_id h)
 refine ⟨h1,h2,by rw [e1];simp,fun w k hw hk=>?_⟩
 obtain ⟨u,a,b,v,rfl,rfl⟩:=cut_at hk
 have ha:=hw a (by simp)
 have hb:=hw b (by simp)
 rw [dW_mid,rW_mid]
 have hA:a.toNat<t.length:=by omega
 have hB:b.toNat<t.length:=by omega
 have g1:g2 (twF (idL t.length)) a b=b:=by
  unfold g2
  rw [e1,v2_tabL hA hB,(hq _ hB).1]
  omega
 have g2':g2 (twS t (idL t.length)) a b=g2 t b a:=by
  unfold g2
  rw [e2,v2_tabL hA hB,(hq _ hB).1,(hq _ ((rck_of h).r _ _ hB hA)).2,v2_int h]
 rw [g1,g2']
end Go.Mch
namespace Go.Mch

def S_roll (pg:Pg):Prop:=∀ (c:Rw Int) (d:Int),okB c→0≤d→d≤1048576→∃ s:Int×Int,Sr c s∧Call pg 139 [rawB c,H64 d] [rawB c,H64 d] (src c s)
set_option maxRecDepth 10000 in
theorem t_roll {pg:Pg} (hp:pg.fn 139=some c_laws_roll):S_roll pg:=by
 intro c d hc _ _
 have hb:=hc.1
 have hfind:=Call.find (α:=Int×Int) (Q:=fun s=>Sr c s) (args:=[rawB c,H64 d]) (r:=fun s=>src c s) hp rfl (by simp) ?_
 · exact hfind
 show wp _ _ c_laws_roll.body (postX _ [.t 4] _ _ _) _
 generalize hR:postX (fun s:Int×Int=>Sr c s) [.t 4] [rawB c,H64 d] (fun _=>[rawB c,H64 d]) (fun s=>src c s)=R
 simp [c_laws_roll]
 refine j0a (fun k e=>∃ h:Int,e=fr [(0,some (.val (rawB c))),(5,some (.val (src c (0,h)))),(6,some (.val (I k)))]) (lst c).length ?_ ?_ 0 _ (by omega) ⟨_,rfl⟩
 · rintro k e hk ⟨h,rfl⟩
   simp [hk]
   exact ⟨by omega,_,rfl⟩
 · rintro e ⟨h,rfl⟩
   simp
   subst hR
   exact ⟨(0,h),⟨hc,by simp,by simp⟩,by simp [post]⟩
def S_below (pg:Pg):Prop:=∀ (c:Rw Int) (s:Int×Int) (n:Int),Sr c s→∃ (s':Int×Int) (r:Int),(Sr c s'∧0≤r∧(1≤n→r<n)∧(n<1→r=0))∧Call pg 140 [src c s,I n] [src c s',I n] (I r)
set_option maxRecDepth 10000 in
theorem t_below {pg:Pg} (hp:pg.fn 140=some c___laws_dice__below):S_below pg:=by
 intro c s n hs
 have hfind:=Call.findA (α:=(Int×Int)×Int) (Q:=fun Y=>Sr c Y.1∧0≤Y.2∧(1≤n→Y.2<n)∧(n<1→Y.2=0)) (args:=[src c s,I n]) (args':=fun Y=>[src c Y.1,I n]) (r:=fun Y=>I Y.2) hp rfl (by simp [F.lets,c___laws_dice__below,List.range,List.range.loop]) (by simp [kindOf]) ?_
 · obtain ⟨Y,h1,h2⟩:=hfind
   exact ⟨_,_,h1,h2⟩
 show wp _ _ c___laws_dice__below.body (postX _ [.t 4] _ _ _) _
 generalize hR:postX (fun Y:(Int×Int)×Int=>Sr c Y.1∧0≤Y.2∧(1≤n→Y.2<n)∧(n<1→Y.2=0)) [.t 4] [src c s,I n] (fun Y=>[src c Y.1,I n]) (fun Y=>I Y.2)=R
 obtain ⟨a,h⟩:=s
 obtain ⟨hc,ha,hl⟩:=hs
 have hb:=hc.1
 simp only at ha hl
 by_cases hn:n<1
 · simp [c___laws_dice__below,hn]
   subst hR
   exact ⟨((a,h),0),⟨⟨hc,ha,hl⟩,by simp;omega⟩,by simp [post]⟩
 · simp [c___laws_dice__below,hn]
   generalize IntKind.u64.wrap (IntKind.u64.wrap (h*6364136223846793005)+1442695040888963407)=h'
   generalize (h'.fdiv (2 ^ min 33 IntKind.u64.bits) % 2 ^ IntKind.u64.bits).toNat=z
   obtain ⟨y,hy,e⟩:=and24 z
   have hn0:¬n=0:=by omega
   have hmod:∀ x:Int,0≤x→0≤x.tmod n∧x.tmod n<n:=fun x hx=>by
    rw [Int.tmod_eq_emod_of_nonneg hx]
    exact ⟨Int.emod_nonneg _ hn0,Int.emod_lt_of_pos _ (by omega)⟩
   rw [e]
   by_cases hlt:a<(lst c).length
   · obtain ⟨i,rfl⟩:∃ i:Nat,a=i:=⟨a.toNat,by omega⟩
     have hi:i<(lst c).length:=by omega
     have hx:=hc.2 _ (List.getElem_mem hi)
     have hw:IntKind.i64.wrap ((lst c)[i])=(lst c)[i]:=by
      obtain ⟨x,hx'⟩:∃ x:Nat,(lst c)[i]=x:=⟨((lst c)[i]).toNat,by omega⟩
      rw [hx',wr64 (by omega)]
     simp [hlt,hi,hn0,hw]
     subst hR
     have:=hmod (y+(lst c)[i]) (by omega)
     refine ⟨by omega,by omega,((i+1,h'),((y:Int)+(lst c)[i]).tmod n),⟨⟨hc,by simp only;omega,by simp only;omega⟩,by simp only;omega⟩,by simp [post]⟩
   · simp [hlt,hn0]
     subst hR
     have:=hmod y (by omega)
     exact ⟨((a,h'),(y:Int).tmod n),⟨⟨hc,ha,hl⟩,by simp only;omega⟩,by simp [post]⟩
end Go.Mch
namespace Go.Mch

def foT:Option (List (List Int))→T
 | none=>nil
 | some X=>.mem .fresh (some 1) (rowsF X)
theorem frz_fo (o:Option (List (List Int))) (y:Value):T.frz .fresh (.tup [ownT o,.sc y])=.tup [foT o,.sc y]:=by
 cases o with
 | none=>rfl
 | some X=>exact frz_tb X y
theorem same9_e {pg:Pg} (h:S_same9 pg):Call pg 178 [nil,nil] [nil,nil] (B true)∧Call pg 178 [nil,tb []] [nil,tb []] (B true)∧Call pg 178 [tb [],nil] [tb [],nil] (B true)∧Call pg 178 [tb [],tb []] [tb [],tb []] (B true):=by
 have h1:=h .no .no ⟨by simp,by simp⟩
 have h2:=h .no (.of []) ⟨by simp,by simp⟩
 have h3:=h (.of []) .no ⟨by simp,by simp⟩
 have h4:=h (.of []) (.of []) ⟨by simp,by simp⟩
 simp [rawT] at h1 h2 h3 h4
 exact ⟨h1,h2,h3,h4⟩
def S_law88 (pg:Pg):Prop:=∀ c:Rw Int,okB c→∃ args',Call pg 88 [rawB c] args' (B true)
set_option maxHeartbeats 2000000 in
set_option maxRecDepth 20000 in
theorem t_law88 {pg:Pg} (hp:pg.fn 88=some c_laws_FnTupleOrbits) (h128:S_big pg) (h175:S_drU pg 175) (h176:S_to pg 176) (h177:S_to pg 177) (h178:S_same9 pg) (h139:S_roll pg) (h140:S_below pg) (h26:S_tm pg 26) (h141:S_likeI pg) (h179:S_drK pg 179) (h125:S_ct pg 125) (h124:S_ct pg 124) (h148:S_dr pg 148) (h171:S_tw pg 171):S_law88 pg:=by
 intro c hc
 obtain ⟨X,w,⟨hX1,hX2,hw1,hw2⟩,hd⟩:=h175 c hc
 obtain ⟨f,s⟩:=X
 have hf:fits f:=hX1.fits
 have hs:fits s:=hX2.fits
 refine ⟨[rawB c],Call.intro hp rfl (by simp) ?_⟩
 show wp _ _ c_laws_FnTupleOrbits.body (post [.t 2] _ _ _) _
 refine wp_cut' (fun e=>e=fr [(0,some (.val (rawB c)))]) (fun J hJ _=>?_) ?_
 · simp
   exact hJ _ rfl
 rintro e rfl
 refine wp_cut' (fun e=>e=fr [(0,some (.val (rawB c))),(31,some (.val (B false)))]) (fun J hJ hJr=>?_) ?_
 · simp
   refine j0e (h128 c) rfl rfl (fun _=>rfl) ?_
   by_cases hbig:(4096:Int)<(lst c).length
   · simp [hbig]
     exact hJr _ (by simp [post])
   · simp [hbig]
     exact hJ _ rfl
 rintro e rfl
 refine wp_cut' (fun e=>e=fr [(0,some (.val (rawB c))),(3,some (.val (.mem .own none [j09 f,j09 s]))),(4,some (.val (ownL w)))]) (fun J hJ _=>?_) ?_
 · simp
   refine j0e hd rfl rfl (fun _=>by simp) ?_
   simp
   exact hJ _ rfl
 rintro e rfl
 obtain ⟨o1,e1,hc1⟩:=h176 f s w hf hs (by omega)
 obtain ⟨o2,e2,hc2⟩:=h177 f s w hf hs (by omega)
 have hcd:toC f s w=0→∃ Z,toO f s w=some Z∧isSol f s∧isTup f.length w∧tO f s w=some Z:=fun h0=>by
  unfold toC at h0
  split at h0
  · split at h0
    · rename_i h1 h2
      obtain ⟨Z,hZ⟩:∃ Z,tO f s w=some Z:=by
       cases hz:tO f s w with
       | none=>rw [hz] at h0;exact absurd h0 (by decide)
       | some Z=>exact ⟨Z,rfl⟩
      exact ⟨Z,by unfold toO;rw [if_pos ⟨h1,h2⟩,hZ],h1,h2,hZ⟩
    · exact absurd h0 (by decide)
  · exact absurd h0 (by decide)
 have hco:toC f s w≠0→toO f s w=none:=fun h0=>by
  unfold toO
  split
  · rename_i h
    unfold toC at h0
    rw [if_pos h.1,if_pos h.2] at h0
    cases hz:tO f s w with
    | none=>rfl
    | some Z=>rw [hz] at h0;exact absurd rfl h0
  · rfl
 refine wp_cut' (fun e=>e=fr [(0,some (.val (rawB c))),(3,some (.val (.mem .own none [j09 f,j09 s]))),(4,some (.val (ownL w))),(5,some (.val (foT o1))),(6,some (.val (I (toC f s w))))]) (fun J hJ _=>?_) ?_
 · clear e1 e2 hc2
   cases o1 with
   | none =>
    have hz:=frz_fo none (.int .i64 (toC f s w))
    simp only [ownT,foT] at hc1 hz ⊢
    simp
    refine j0e hc1 rfl rfl (fun _=>by simp) ?_
    simp [hz]
    exact hJ _ rfl
   | some Z =>
    have hz:=frz_fo (some Z) (.int .i64 (toC f s w))
    simp only [ownT,foT] at hc1 hz ⊢
    simp
    refine j0e hc1 rfl rfl (fun _=>by simp) ?_
    simp [hz]
    exact hJ _ rfl
 rintro e rfl
 refine wp_cut' (fun e=>e=fr [(0,some (.val (rawB c))),(3,some (.val (.mem .own none [j09 f,j09 s]))),(5,some (.val (foT o1))),(6,some (.val (I (toC f s w)))),(57,some (.val (B false)))]) (fun J hJ _=>?_) ?_
 · by_cases h0:toC f s w=0
   · obtain ⟨Z,z1,z2,z3,z4⟩:=hcd h0
     have hZ:=tO_len (PM.of z2.1) (tup_in z3) z4
     have hw0:w∈Z:=((orbO_spec z4).1.2 w).2 (TR.start _ _ _)
     have e0:toR f s w=Z:=by simp [toR,z1]
     rw [e0] at e1 e2
     obtain rfl:o1=some Z:=by
      cases o1 with
      | none=>simp only [lso_none] at e1;rw [← e1] at hw0;simp at hw0
      | some l=>simp only [lso_some] at e1;rw [e1]
     obtain rfl:o2=some Z:=by
      cases o2 with
      | none=>simp only [lso_none] at e2;rw [← e2] at hw0;simp at hw0
      | some l=>simp only [lso_some] at e2;rw [e2]
     have hlk:=h178.tb Z Z ⟨by omega,fun r hr=>by have:=(hZ.2 r hr).2;omega⟩
     rw [h0] at hc2 ⊢
     simp only [ownT,foT] at hc2 ⊢
     simp
     refine j0e hc2 rfl rfl (fun _=>by simp) ?_
     simp
     refine j0e hlk rfl rfl (fun _=>by simp) ?_
     simp
     exact hJ _ (by simp [h0,foT])
   · have e0:toR f s w=[]:=by simp [toR,hco h0]
     rw [e0] at e1 e2
     obtain ⟨q1,q2,q3,q4⟩:=same9_e h178
     generalize toC f s w=cd at *
     rcases (by cases o1 with
      | none=>exact Or.inl rfl
      | some l=>simp only [lso_some] at e1;exact Or.inr (by rw [e1]):o1=none∨o1=some []) with rfl | rfl <;>
     rcases (by cases o2 with
      | none=>exact Or.inl rfl
      | some l=>simp only [lso_some] at e2;exact Or.inr (by rw [e2]):o2=none∨o2=some []) with rfl | rfl
     all_goals
      simp only [ownT,foT] at hc2 ⊢
      simp
      refine j0e hc2 rfl rfl (fun _=>by simp) ?_
      simp
      first
       | refine j0e q1 rfl rfl (fun _=>by simp) ?_
       | refine j0e q2 rfl rfl (fun _=>by simp) ?_
       | refine j0e q3 rfl rfl (fun _=>by simp) ?_
       | refine j0e q4 rfl rfl (fun _=>by simp) ?_
      simp
      exact hJ _ (by simp [foT])
 rintro e rfl
 refine wp_cut' (fun e=>∃ (x:List Int) (k:Int),e=fr [(0,some (.val (rawB c))),(3,some (.val (.mem .own none [j09 f,j09 s]))),(5,some (.val (foT o1))),(10,some (.val (.mem .fresh (some 1) (x.map I)))),(11,some (.val (I k))),(73,some (.val (B false)))]∨e=fr [(0,some (.val (rawB c))),(3,some (.val (.mem .own none [j09 f,j09 s]))),(5,some (.val (foT o1))),(59,some (.val (B false)))]) (fun J hJ _=>?_) ?_
 · by_cases h0:toC f s w=0
   · obtain ⟨Z,z1,z2,z3,z4⟩:=hcd h0
     have hpm:=PM.of z2.1
     have hZ:=tO_len hpm (tup_in z3) z4
     have hmem:=(orbO_spec z4).1.2
     have hw0:w∈Z:=(hmem w).2 (TR.start _ _ _)
     have e0:toR f s w=Z:=by simp [toR,z1]
     rw [e0] at e1
     obtain rfl:o1=some Z:=by
      cases o1 with
      | none=>simp only [lso_none] at e1;rw [← e1] at hw0;simp at hw0
      | some l=>simp only [lso_some] at e1;rw [e1]
     have hZ0:0<Z.length:=List.length_pos_of_mem hw0
     obtain ⟨q,k1,hc3⟩:=h139 c 1261 hc (by omega) (by omega)
     obtain ⟨q2,r,⟨r1,r2,r3,_⟩,hc4⟩:=h140 c q Z.length k1
     have r3:=r3 (by omega)
     obtain ⟨i,rfl⟩:∃ i:Nat,r=i:=⟨r.toNat,by omega⟩
     have hi:i<Z.length:=by omega
     have hxm:Z[i]∈Z:=List.getElem_mem hi
     have hx:=hZ.2 _ hxm
     have hmv:∀ k:Nat,k+1<(Z[i]).length→dW f s Z[i] k∈Z∧Call pg 26 [sol f s,ix Z[i],I k] [sol f s,ix Z[i],I k] (.tup [ownL (dW f s Z[i] k),I 0]):=fun k hk=>by
      refine ⟨(hmem _).2 (TR.step _ _ _ ((hmem _).1 hxm) (by omega)),?_⟩
      have k1:=h26 f s Z[i] k hf hs (by omega)
      have ok1:tmOk f Z[i] k:=⟨⟨by have:=z3.1;omega,fun v hv=>by have:=hx.1 v hv;omega⟩,by omega,by omega⟩
      have a1:tmR f s Z[i] k=some (dW f s Z[i] k):=by simp [tmR,z2,ok1]
      have a2:tmC f s Z[i] k=0:=by simp [tmC,z2,ok1]
      rw [a1,a2] at k1
      exact k1
     have hxl:(Z[i]).length≤13:=by omega
     have hlk:∀ (a b:List Int),a.length≤1048576→Call pg 141 [ix a,ix b] [ix a,ix b] (B (decide (a=b))):=fun a b ha=>h141.ix a b ha
     have hZl:=fun a (ha:a<Z.length)=>(hZ.2 _ (List.getElem_mem ha)).2
     generalize hxx:Z[i]=x at *
     simp only [foT,h0]
     simp
     refine j0e hc3 rfl rfl (fun h=>by simp at h) ?_
     simp
     refine callS (ts':=[rawB c,I q2.1,H64 q2.2]) (r:=I i) (by simpa using hc4) ?_
     simp [hi,hxx]
     refine j0a (fun k e=>e=fr [(0,some (.val (rawB c))),(3,some (.val (.mem .own none [j09 f,j09 s]))),(5,some (.val (.mem .fresh (some 1) (rowsF Z)))),(10,some (.val (.mem .fresh (some 1) (x.map I)))),(11,some (.val (I k)))]) (x.length-1) ?_ ?_ 0 _ (by omega) rfl
     · rintro k e hk rfl
       have hk1:(k:Int)+1<x.length:=by omega
       obtain ⟨m1,m2⟩:=hmv k (by omega)
       generalize dW f s x k=W at *
       simp [hk1]
       refine ⟨by omega,?_⟩
       refine j0e m2 rfl rfl (fun _=>by simp) ?_
       simp
       refine j0a (fun j e=>e=fr [(0,some (.val (rawB c))),(3,some (.val (.mem .own none [j09 f,j09 s]))),(5,some (.val (.mem .fresh (some 1) (rowsF Z)))),(10,some (.val (.mem .fresh (some 1) (x.map I)))),(11,some (.val (I k))),(12,some (.val (ownL W))),(13,some (.val (I 0))),(14,some (.val (B (dec (W∈Z.take j))))),(15,some (.val (I j)))]) Z.length ?_ ?_ 0 _ (by omega) (by rw [j1d (by simp)];rfl)
       · rintro j e hj rfl
         by_cases hin:W∈Z.take j
         · have h2:W∈Z.take (j+1):=by rw [List.take_succ_eq_append_getElem hj];exact List.mem_append_left _ hin
           rw [j1p hin,j1p h2]
           simp [hj,j01]
           omega
         · have hq:=hlk Z[j] W (by have:=hZl j hj;omega)
           have h2:dec (W∈Z.take (j+1))=decide (Z[j]=W):=by
            rw [List.take_succ_eq_append_getElem hj]
            by_cases he:Z[j]=W
            · rw [decide_eq_true he];exact j1p (List.mem_append_right _ (by simp [he]))
            · rw [decide_eq_false he]
              refine j1d fun h=>?_
              rcases List.mem_append.1 h with h | h
              · exact hin h
              · exact he (List.mem_singleton.1 h).symm
           rw [j1d hin,h2]
           simp [hj]
           refine j0e hq rfl rfl (fun _=>by simp) ?_
           simp
           omega
       · rintro e rfl
         rw [List.take_length,j1p m1]
         simp
         omega
     · rintro e rfl
       have hk1:¬(((x.length-1:Nat):Int)+1<x.length):=by omega
       simp [hk1]
       refine ⟨by omega,hJ _ ?_⟩
       exact ⟨x,_,Or.inl rfl⟩
   · have h0':=h0
     generalize toC f s w=cd at *
     cases o1 <;> simp only [foT] at hJ ⊢ <;> simp [h0] <;> exact hJ _ ⟨[],0,Or.inr rfl⟩
 clear hcd hco e1 e2 hc1 hc2 hd hX1 hX2 hf hs hw1 hw2
 rintro e ⟨x,kk,he⟩
 obtain ⟨⟨f2,s2⟩,k,⟨hX1,hX2,hk⟩,hd⟩:=h179 c hc
 refine wp_cut' (fun e=>e=fr [(16,some (.val (.mem .own none [j09 f2,j09 s2]))),(17,some (.val (I k)))]) (fun J hJ _=>?_) ?_
 · cases o1 <;> simp only [foT] at he <;> rcases he with rfl | rfl
   all_goals
    simp
    refine j0e hd rfl rfl (fun _=>by simp) ?_
    simp
    exact hJ _ rfl
 clear he x kk f s w o1 o2
 rintro e rfl
 obtain ⟨f,rfl⟩:∃ f,f=f2:=⟨f2,rfl⟩
 obtain ⟨s,rfl⟩:∃ s,s=s2:=⟨s2,rfl⟩
 have hf:fits f:=hX1.fits
 have hs:fits s:=hX2.fits
 have hc1:=h125 f s k hf hs
 have hc2:=h124 f s k hf hs
 have hc3:=h148 f s hf hs
 by_cases hgo:isReg f s
 · have hrg:=rg_of hgo
   have hpm:=hrg.1
   have h0:=hpm.pos
   have h12:=hpm.small
   have d1:drC f s=0:=by simp [drC,j1p hgo.1,hgo.2]
   have d2:drR f s=some (raT f s):=by simp [drR,j1p hgo]
   rw [d1,d2] at hc3
   have hrk:=ra_rck hrg hgo.1.2.1
   have hrl:=raT_length f s
   have hft:fits (raT f s):=⟨by omega,fun r hr=>by rw [tabL_row hr];omega⟩
   obtain ⟨t1,t2,t3,t4⟩:=tw_id hrk
   obtain ⟨ff,fs⟩:=tab_fit (PM.of t1.1.1)
   have hc4:=h171 (raT f s) (idL (raT f s).length) hft (by simp;omega)
   have hok:isRk (raT f s)∧(idL (raT f s).length).length=(raT f s).length∧j05 (idL (raT f s).length)∧imT (raT f s) (idL (raT f s).length)=raT f s:=⟨hrk,by simp,(idP (by omega) (by omega)).1.pm,imT_id hrk⟩
   have c4:twC (raT f s) (idL (raT f s).length)=0:=by simp only [twC];rw [if_pos hok.1,if_pos ⟨hok.2.1,hok.2.2.1⟩,if_pos hok.2.2.2]
   have r4:twR (raT f s) (idL (raT f s).length)=some (twF (idL (raT f s).length),twS (raT f s) (idL (raT f s).length)):=by simp only [twR,if_pos hok]
   rw [c4,r4] at hc4
   have hc5:=h125 (twF (idL (raT f s).length)) (twS (raT f s) (idL (raT f s).length)) k ff fs
   have hso:=same_orbits hrg hgo.1.2.1 (PM.of t1.1.1) t1.1.2.1 (by rw [t3,hrl]) (fun w j hw hj=>t4 w j (by rw [hrl];exact hw) hj) k.toNat
   have eC:ctC (twF (idL (raT f s).length)) (twS (raT f s) (idL (raT f s).length)) k=ctC f s k:=by
    unfold ctC
    rw [if_pos t1.1,if_pos hgo.1,t3,hrl]
   have eR:ctR (twF (idL (raT f s).length)) (twS (raT f s) (idL (raT f s).length)) k=ctR f s k:=by
    have hcc:ctOk (twF (idL (raT f s).length)) k↔ctOk f k:=by unfold ctOk;rw [t3,hrl]
    unfold ctR
    rw [if_pos t1.1,if_pos hgo.1,hso]
    by_cases h:ctOk f k
    · rw [if_pos h,if_pos (hcc.2 h)]
    · rw [if_neg h,if_neg fun g=>h (hcc.1 g)]
   rw [eC,eR] at hc5
   have hun:∀ j:Nat,j≤f.length→(idL j).length=j:=fun j _=>by simp
   clear hso eC eR t1 t2 t3 t4 ff fs hok c4 r4 hd hX1 hX2 d1 d2
   rw [hrl] at hc4 hc5
   generalize ctR f s k=n at *
   generalize ctC f s k=cd at *
   generalize twF (idL f.length)=F at *
   generalize twS (raT f s) (idL f.length)=S at *
   generalize raT f s=T at *
   simp only [ownT,solT] at hc3 hc4
   simp
   refine j0e hc1 rfl rfl (fun _=>by simp) ?_
   simp
   refine j0e hc2 rfl rfl (fun _=>by simp) ?_
   simp
   refine j0e hc3 rfl rfl (fun _=>by simp) ?_
   by_cases hcd0:cd=0
   · subst hcd0
     simp
     refine j0a (fun j e=>e=fr [(17,some (.val (I k))),(18,some (.val (I n))),(22,some (.val (.mem .own none [j09 T]))),(24,some (.val (ownL (idL j)))),(25,some (.val (I j)))]) f.length ?_ ?_ 0 _ (by omega) rfl
     · rintro j e hj rfl
       have hl:=idL_length j
       rw [idL_succ]
       generalize idL j=G at *
       simp [hj,hrl]
       exact ⟨by unfold roomy;omega,by omega,by simp only [ownL,List.map_append,List.map_cons,List.map_nil]⟩
     · rintro e rfl
       generalize idL f.length=G at *
       simp [hrl]
       refine j0e hc4 rfl rfl (fun _=>by simp) ?_
       simp
       refine j0e hc5 rfl rfl (fun _=>by simp) ?_
       simp
   · simp [hcd0,j01]
 · have d2:drR f s=none:=by simp [drR,j1d hgo]
   have d1:drC f s≠0:=by
    unfold drC
    by_cases h1:isSol f s
    · have h2:¬nonDeg f s:=fun h=>hgo ⟨h1,h⟩
      simp [j1p h1,h2]
    · simp [j1d h1]
   rw [d2] at hc3
   generalize drC f s=c3 at *
   generalize ctR f s k=n at *
   generalize ctC f s k=cd at *
   simp only [ownT] at hc3
   simp
   refine j0e hc1 rfl rfl (fun _=>by simp) ?_
   simp
   refine j0e hc2 rfl rfl (fun _=>by simp) ?_
   simp
   refine j0e hc3 rfl rfl (fun _=>by simp) ?_
   by_cases hcd0:cd=0
   · simp [hcd0,d1]
   · simp [hcd0,j01]
end Go.Mch
