/- Our texts YlO YlX YlN YmC YnB YnL YnE YnM YoE YkK YkL YhO YkP YoF,end to end. -/
import Derived.Test.YtkcgdmjdkbgmkaaGreatP2
import Derived.Test.YtkcgdmjdkbgmkaaGreatP1
import Derived.Test.YtkcgdmjdkbgmkaaGreatM1
namespace Go.Mch
def Rn (k:Int):Prop:=-4611686018427387904≤k∧k≤1099511627776
def S_count (pg:Pg):Prop:=∀ (c:Rw Int) (s:Int×Int) (n:Int),Sr c s→-1≤n→n≤1048576→∃ (s':Int×Int) (k:Int),(Sr c s'∧Rn k)∧Call pg 293 [src c s,I n] [src c s',I n] (I k)
set_option maxRecDepth 10000 in
theorem t_count {pg:Pg} (hp:pg.fn 293=some c_spec_l01Count) (h336:S_nxt pg) (h292:S_pick pg):S_count pg:=by
 intro c s n hs m0 m12
 have hfind:=Call.findA (α:=(Int×Int)×Int) (Q:=fun Y=>Sr c Y.1∧Rn Y.2) (args:=[src c s,I n]) (args':=fun Y=>[src c Y.1,I n]) (r:=fun Y=>I Y.2) hp rfl (by simp [F.lets,c_spec_l01Count,List.range,List.range.loop]) (by simp [kindOf]) ?_
 · obtain ⟨Y,h1,h2⟩:=hfind
   exact ⟨_,_,h1,h2⟩
 show wp _ _ c_spec_l01Count.body (postX _ _ _ _ _) _
 generalize hR:postX (fun Y:(Int×Int)×Int=>Sr c Y.1∧Rn Y.2) c_spec_l01Count.rs [src c s,I n] (fun Y=>[src c Y.1,I n]) (fun Y=>I Y.2)=R
 have hfin:∀ (s':Int×Int) (k:Int),Sr c s'→Rn k→R .ret (fr [(0,some (.val (src c s'))),(1,some (.val (I n))),(4,some (.val (I k)))]):=by
  intro s' k a1 a2
  subst hR
  exact ⟨(s',k),⟨a1,a2⟩,by simp [post,c_spec_l01Count]⟩
 obtain ⟨s1,r,⟨k1,k2⟩,hc1⟩:=h336.at hs (n:=14) (by omega)
 simp [c_spec_l01Count]
 refine callS (ts':=[rawB c,I s1.1,H64 s1.2]) (r:=I r) (by simpa using hc1) ?_
 by_cases hr:r=0
 · obtain ⟨s2,z,⟨j1,j2⟩,hc2⟩:=h292 c s1 [-1,n+1,1099511627776,-4611686018427387904] k1 (by simp) (by simp)
   simp [hr]
   refine ⟨by omega,?_⟩
   refine callS (ts':=[rawB c,I s2.1,H64 s2.2]) (r:=I z) (by simpa [ix] using hc2) ?_
   simp
   refine hfin s2 z j1 ?_
   simp at j2
   rcases j2 with rfl | rfl | rfl | rfl <;> constructor <;> omega
 · obtain ⟨s2,z,⟨j1,j2,j3,j4⟩,hc2⟩:=h336 c s1 (n+1) k1
   have hz:0≤z∧z≤n+1:=by
    by_cases h1:1≤n+1
    · have:=j3 h1;omega
    · have:=j4 (by omega);omega
   simp [hr]
   refine ⟨by omega,?_⟩
   refine callS (ts':=[rawB c,I s2.1,H64 s2.2]) (r:=I z) (by simpa using hc2) ?_
   simp
   exact hfin s2 z j1 ⟨by omega,by omega⟩
def S_drK (pg:Pg) (f:Nat):Prop:=∀ c:Rw Int,okB c→∃ (X:S2) (k:Int),(Bd X.1∧Bd X.2∧Rn k)∧Call pg f [rawB c] [rawB c] (.tup [ownS X,I k])
end Go.Mch
namespace Go.Mch
structure Cnj (L:List (List Int)):Prop where
 pos:0<L.length
 six:L.length≤6
 pm:∀ p∈L,Pm p∧p.length=3
 cl:∀ i j (hi:i<L.length) (hj:j<L.length),∃ m,∃ h:m<L.length,L[m]=thenL (thenL (invL L[i]) L[j]) L[i]
end Go.Mch
namespace Go.Mch
theorem S_likeI.ix {pg:Pg} (h:S_likeI pg) (X Y:List Int) (hs:X.length≤1048576):Call pg 141 [ix X,ix Y] [ix X,ix Y] (B (decide (X=Y))):=h (.of X) (.of Y) hs
end Go.Mch
namespace Go.Mch
def SqS (X:S2):Prop:=∃ m,0<m∧m≤12∧(X.1.length=m∧∀ r∈X.1,r.length=m)∧(X.2.length=m∧∀ r∈X.2,r.length=m)
end Go.Mch
namespace Go.Mch
theorem Bd.fits {t:List (List Int)} (h:Bd t):fits t:=⟨by have:=h.1;omega,fun r hr=>by have:=h.2 r hr;omega⟩
end Go.Mch
namespace Go.Mch

def itr (g:Nat→Nat):Nat→Nat→Nat
 | 0,a=>a
 | k+1,a=>g (itr g k a)
structure Bij (N:Nat) (g:Nat→Nat):Prop where
 r:∀ x,x<N→g x<N
 i:∀ x y,x<N→y<N→g x=g y→x=y


end Go.Mch
namespace Go.Mch




def trT (n:Nat):List (List Int):=tabL n fun _ y=>(y:Int)
end Go.Mch
namespace Go.Mch

theorem ra_triv {f s:List (List Int)} (h:Rg f s):isInv f s↔raT f s=trT f.length:=by
 have nd:=nd_of h
 have ht:raT f s=trT f.length↔∀ x y,x<f.length→y<f.length→ra f s x y=y:=by
  constructor
  · intro he x y hx hy
    have:=(ra_v h.1 hx hy).2.1
    have e:v2 (trT f.length) x y=(y:Int):=v2_tabL hx hy
    rw [← he,(ra_v h.1 hx hy).1,← this] at e
    omega
  · intro he
    refine tabL_congr fun x y hx hy=>?_
    rw [← (ra_v h.1 hx hy).2.1,he x y hx hy]
 rw [ht]
 constructor
 · intro hi x y hx hy
   obtain ⟨b,hb,rfl⟩:=nd.ss y x hy hx
   rw [ra_at h hy hb]
   have:=(hi y hy b hb).1
   rw [← (h.1.v2f _ _).1] at this
   omega
 · intro ht x hx y hy
   have e:∀ a b,a<f.length→b<f.length→σN f (σN f a b) (τN s b a)=a:=fun a b ha hb=>by rw [← ra_at h ha hb,ht _ _ (h.1.v2f a b).2 ha]
   have u:=(h.1.v2f x y).2
   have v:=(h.1.v2s x y).2
   have e1:=e x y hx hy
   have e2:=e _ _ u v
   rw [e1] at e2
   have e3:=nd.is x _ _ hx (nd.rt _ _ v u) hy e2
   unfold iv
   rw [← (h.1.v2f _ _).1,← (h.1.v2s _ _).1,e1,e3]
   exact ⟨rfl,rfl⟩
end Go.Mch
namespace Go.Mch


def mulc:Nat→Nat→Nat
 | _,0=>1
 | 0,_+1=>0
 | n+1,k+1=>mulc n (k+1)+mulc (n+1) k
theorem mul_0 (n:Nat):mulc n 0=1:=by cases n <;> rw [mulc]
theorem mul_z (k:Nat):mulc 0 (k+1)=0:=by rw [mulc]
theorem mul_s (n k:Nat):mulc (n+1) (k+1)=mulc n (k+1)+mulc (n+1) k:=by rw [mulc]
theorem mul_ab:∀ n:Nat,(∀ k,(k+1)*mulc n (k+1)=(n+k)*mulc n k)∧∀ k,(n+k)*mulc n k=n*mulc (n+1) k:=by
 intro n
 induction n with
 | zero =>
  refine ⟨fun k=>?_,fun k=>?_⟩
  · cases k with
    | zero=>simp [mul_z]
    | succ k=>simp [mul_z]
  · cases k with
    | zero=>simp
    | succ k=>simp [mul_z]
 | succ n ih =>
  obtain ⟨a,b⟩:=ih
  have a':∀ k,(k+1)*mulc (n+1) (k+1)=(n+1+k)*mulc (n+1) k:=fun k=>by
   rw [mul_s,Nat.mul_add,a k,b k,← Nat.add_mul]
   congr 1
   omega
  refine ⟨a',fun k=>?_⟩
  induction k with
  | zero=>simp [mul_0]
  | succ k ihk =>
   rw [mul_s (n+1) k,Nat.mul_add,← ihk,← a' k,← Nat.add_mul]
def nfW:Nat→Nat→List (List Int)
 | _,0=>[[]]
 | 0,_+1=>[]
 | n+1,k+1=>nfW n (k+1)++(nfW (n+1) k).map fun w=>w++[(n:Int)]
theorem nfW_s (n k:Nat):nfW (n+1) (k+1)=nfW n (k+1)++(nfW (n+1) k).map fun w=>w++[(n:Int)]:=by rw [nfW]
theorem nfW_len:∀ n k,(nfW n k).length=mulc n k
 | 0,0=>by rw [nfW,mulc];rfl
 | n+1,0=>by rw [nfW,mulc];rfl
 | 0,k+1=>by rw [nfW,mulc];rfl
 | n+1,k+1=>by rw [nfW_s,mul_s,List.length_append,List.length_map,nfW_len n (k+1),nfW_len (n+1) k]
def NF (w:List Int):Prop:=w.Pairwise (·≤·)
theorem nf_snoc {w:List Int} {x:Int}:NF (w++[x])↔NF w∧∀ v∈w,v≤x:=by
 unfold NF
 rw [List.pairwise_append]
 constructor
 · rintro ⟨h1,_,h3⟩
   exact ⟨h1,fun v hv=>h3 v hv x (by simp)⟩
 · rintro ⟨h1,h2⟩
   exact ⟨h1,by simp,fun v hv y hy=>by rw [List.mem_singleton.1 hy];exact h2 v hv⟩
theorem nfW_mem:∀ (n k:Nat) (w:List Int),w∈nfW n k↔NF w∧w.length=k∧inN n w
 | n,0,w=>by
  have:nfW n 0=[[]]:=by cases n <;> rw [nfW]
  rw [this,List.mem_singleton]
  constructor
  · rintro rfl
    exact ⟨List.Pairwise.nil,rfl,by intro x hx;simp at hx⟩
  · rintro ⟨_,h,_⟩
    exact List.length_eq_zero_iff.1 h
 | 0,k+1,w=>by
  constructor
  · intro h;simp [nfW] at h
  · rintro ⟨_,h2,h3⟩
    obtain ⟨a,v,rfl⟩:∃ a v,w=a::v:=by cases w with
     | nil=>simp at h2
     | cons a v=>exact ⟨a,v,rfl⟩
    have:=h3 a (by simp)
    omega
 | n+1,k+1,w=>by
  rw [nfW_s,List.mem_append,nfW_mem n (k+1) w,List.mem_map]
  constructor
  · rintro (⟨h1,h2,h3⟩ | ⟨v,hv,rfl⟩)
    · exact ⟨h1,h2,fun x hx=>by have:=h3 x hx;omega⟩
    · obtain ⟨v1,v2,v3⟩:=(nfW_mem (n+1) k v).1 hv
      refine ⟨nf_snoc.2 ⟨v1,fun x hx=>by have:=v3 x hx;omega⟩,by simp [v2],fun x hx=>?_⟩
      rcases List.mem_append.1 hx with hx | hx
      · exact v3 x hx
      · rw [List.mem_singleton.1 hx];omega
  · rintro ⟨h1,h2,h3⟩
    obtain ⟨v,x,rfl⟩:∃ v x,w=v++[x]:=⟨w.take k,w[k],by rw [← List.take_succ_eq_append_getElem (by omega),List.take_of_length_le (by omega)]⟩
    obtain ⟨v1,v2⟩:=nf_snoc.1 h1
    have hx:=h3 x (by simp)
    by_cases hxn:x=n
    · refine Or.inr ⟨v,(nfW_mem (n+1) k v).2 ⟨v1,by simpa using h2,fun y hy=>h3 y (by simp [hy])⟩,by rw [hxn]⟩
    · refine Or.inl ⟨h1,h2,fun y hy=>?_⟩
      have hy0:=h3 y hy
      rcases List.mem_append.1 hy with hy | hy
      · have:=v2 y hy;omega
      · rw [List.mem_singleton.1 hy];omega
theorem nfW_nodup:∀ n k,(nfW n k).Nodup
 | 0,0=>by simp [nfW]
 | n+1,0=>by simp [nfW]
 | 0,k+1=>by simp [nfW]
 | n+1,k+1=>by
  rw [nfW_s,List.nodup_append]
  refine ⟨nfW_nodup n (k+1),?_,fun a ha b hb hab=>?_⟩
  · rw [List.Nodup,List.pairwise_map]
    refine (nfW_nodup (n+1) k).imp ?_
    intro a b hab he
    exact hab (List.append_cancel_right he)
  · subst hab
    obtain ⟨v,_,rfl⟩:=List.mem_map.1 hb
    have:=((nfW_mem n (k+1) _).1 ha).2.2 (n:Int) (by simp)
    omega


def swp (w:List Int) (i:Nat):List Int:=(w.set i (w.getD (i+1) 0)).set (i+1) (w.getD i 0)
theorem swp_mid (u v:List Int) (a b:Int):swp (u++a::b::v) u.length=u++b::a::v:=by
 simp [swp,List.getD_eq_getElem?_getD]
@[simp] theorem swp_length (w:List Int) (i:Nat):(swp w i).length=w.length:=by simp [swp]
theorem swp_cons (a:Int) (w:List Int) (i:Nat):swp (a::w) (i+1)=a::swp w i:=by simp [swp]
def Sw (w x:List Int):Prop:=TR swp (w.length-1) w x
theorem Sw.refl (w:List Int):Sw w w:=TR.start _ _ _
theorem Sw.len {w x:List Int} (h:Sw w x):x.length=w.length:=h (fun y=>y.length=w.length) rfl fun y hy i _=>by simp [hy]
theorem Sw.trans {w x y:List Int} (h:Sw w x) (h2:Sw x y):Sw w y:=by
 have:=h.len
 unfold Sw at h h2 ⊢
 rw [this] at h2
 exact TR.trans h h2
theorem Sw.cons {w x:List Int} (a:Int) (h:Sw w x):Sw (a::w) (a::x):=by
 unfold Sw at h ⊢
 refine TR.map (a::·) (P:=fun y=>y.length=w.length) rfl (fun y hy i _=>by simp [hy]) (fun y hy i hlt=>⟨i+1,by simp;omega,swp_cons a y i⟩) h
theorem Sw.one (a b:Int) (w:List Int):Sw (a::b::w) (b::a::w):=by
 have:=TR.step swp ((a::b::w).length-1) (a::b::w) (TR.start _ _ _) (i:=0) (by simp)
 exact this
theorem Sw.perm {w x:List Int} (h:Sw w x):w.Perm x:=by
 refine (h (fun y=>y.length=w.length∧w.Perm y) ⟨rfl,List.Perm.refl _⟩ fun y hy i hi=>⟨by simp [hy.1],hy.2.trans ?_⟩).2
 have hl:=hy.1
 obtain ⟨u,a,b,v,rfl,rfl⟩:=cut_at (w:=y) (k:=i) (by omega)
 rw [swp_mid]
 exact List.Perm.append_left u (List.Perm.swap b a v)
theorem sw_ins (a:Int):∀ w:List Int,NF w→∃ x,NF x∧Sw (a::w) x:=by
 intro w
 induction w with
 | nil=>intro _;exact ⟨[a],by simp [NF],Sw.refl _⟩
 | cons b w ih =>
  intro h
  have h':=List.pairwise_cons.1 h
  by_cases hab:a≤b
  · refine ⟨a::b::w,List.pairwise_cons.2 ⟨fun y hy=>?_,h⟩,Sw.refl _⟩
    rcases List.mem_cons.1 hy with rfl | hy
    · exact hab
    · have:=h'.1 y hy;omega
  · obtain ⟨x,x1,x2⟩:=ih h'.2
    refine ⟨b::x,List.pairwise_cons.2 ⟨fun y hy=>?_,x1⟩,(Sw.one a b w).trans (x2.cons b)⟩
    have:=x2.perm.mem_iff.2 hy
    rcases List.mem_cons.1 this with rfl | hy
    · omega
    · exact h'.1 y hy
theorem sw_nf:∀ w:List Int,∃ x,NF x∧Sw w x
 | []=>⟨[],List.Pairwise.nil,Sw.refl _⟩
 | a::w=>by
  obtain ⟨x,x1,x2⟩:=sw_nf w
  obtain ⟨y,y1,y2⟩:=sw_ins a x x1
  exact ⟨y,y1,(x2.cons a).trans y2⟩
theorem nf_uniq:∀ {x y:List Int},NF x→NF y→x.Perm y→x=y
 | [],y,_,_,h=>(List.Perm.nil_eq h)
 | a::x,[],_,_,h=>by have:=h.length_eq;simp at this
 | a::x,b::y,hx,hy,h=>by
  have hx':=List.pairwise_cons.1 hx
  have hy':=List.pairwise_cons.1 hy
  have e:a=b:=by
   have m1:=h.mem_iff.1 (show a∈a::x by simp)
   have m2:=h.mem_iff.2 (show b∈b::y by simp)
   have l1:b≤a:=by
    rcases List.mem_cons.1 m1 with e | m
    · omega
    · exact hy'.1 a m
   have l2:a≤b:=by
    rcases List.mem_cons.1 m2 with e | m
    · omega
    · exact hx'.1 b m
   omega
  subst e
  rw [nf_uniq hx'.2 hy'.2 (List.Perm.cons_inv h)]


theorem flip_count {F S:List (List Int)} (H:PM F S) (Hi:Inj F S) (hm:∀ (w:List Int) (i:Nat),inN F.length w→i+1<w.length→dW F S w i=swp w i) (k:Nat):(frs (Rt (nbT F S k)) (F.length ^ k)).length=mulc F.length k:=by
 have h0:=H.pos
 have E:=nbT_eqr H Hi k
 have mem1:∀ x y,y∈nbT F S k x↔∃ i,i<k-1∧(numT F.length (dW F S (digT F.length k x) i)).toNat=y:=fun x y=>by unfold nbT;simp
 have fw:∀ v u,v<F.length ^ k→Rt (nbT F S k) v u→Sw (digT F.length k v) (digT F.length k u):=fun v u hv hr=>by
  refine (hr (fun x=>x<F.length ^ k∧Sw (digT F.length k v) (digT F.length k x)) ⟨hv,Sw.refl _⟩ ?_).2
  rintro x y ⟨x1,x2⟩ hy
  obtain ⟨i,hi,rfl⟩:=(mem1 x y).1 hy
  have hd:=digT_rng (n:=F.length) (m:=k) (v:=x) h0
  have hl:=numT_lt (dW_in H hd i) (by simp:(dW F S (digT F.length k x) i).length=k)
  refine ⟨hl.2,?_⟩
  rw [dig_num h0 k _ (by simp) (dW_in H hd i),hm _ _ hd (by simp;omega)]
  have:=x2.len
  unfold Sw at x2 ⊢
  exact TR.step _ _ _ x2 (by simp;omega)
 have bw:∀ (w x:List Int),inN F.length w→w.length=k→Sw w x→Rt (nbT F S k) (numT F.length w).toNat (numT F.length x).toNat:=fun w x w1 w2 hs=>by
  refine (hs (fun y=>(inN F.length y∧y.length=k)∧Rt (nbT F S k) (numT F.length w).toNat (numT F.length y).toNat) ⟨⟨w1,w2⟩,Rt.refl _ _⟩ ?_).2
  rintro y ⟨⟨y1,y2⟩,y3⟩ i hi
  have e:=hm y i y1 (by omega)
  refine ⟨⟨by rw [← e];exact dW_in H y1 i,by simp [y2]⟩,y3.step ((mem1 _ _).2 ⟨i,by omega,?_⟩)⟩
  rw [dig_num h0 k y y2 y1,e]
 have inp:∀ {w x:List Int},Sw w x→inN F.length w→inN F.length x:=fun hs hw v hv=>hw v (hs.perm.mem_iff.2 hv)
 rw [← nfW_len]
 have l1:(frs (Rt (nbT F S k)) (F.length ^ k)).length≤(nfW F.length k).length:=by
  have:=len_le_of_sub ((frs (Rt (nbT F S k)) (F.length ^ k)).map fun v=>Classical.choose (sw_nf (digT F.length k v))) (nfW F.length k) ?_ ?_
  · simpa using this
  · rw [List.Nodup,List.pairwise_map]
    refine (frs_nodup _ _).imp_of_mem ?_
    intro a b ha hb hab he
    obtain ⟨a1,a2⟩:=frs_mem.1 ha
    obtain ⟨b1,b2⟩:=frs_mem.1 hb
    have sa:=Classical.choose_spec (sw_nf (digT F.length k a))
    have sb:=Classical.choose_spec (sw_nf (digT F.length k b))
    have ra:=bw _ _ (digT_rng h0) (by simp) sa.2
    have rb:=bw _ _ (digT_rng h0) (by simp) sb.2
    rw [num_dig h0 k a a1,Int.toNat_natCast] at ra
    rw [num_dig h0 k b b1,Int.toNat_natCast] at rb
    rw [he] at ra
    have hr:=ra.trans (E.s _ _ b1 rb)
    rcases Nat.lt_trichotomy a b with h1 | h1 | h1
    · exact b2 a h1 hr
    · exact hab h1
    · exact a2 b h1 (E.s _ _ a1 hr)
  · intro x hx
    obtain ⟨v,hv,rfl⟩:=List.mem_map.1 hx
    have sv:=Classical.choose_spec (sw_nf (digT F.length k v))
    exact (nfW_mem _ _ _).2 ⟨sv.1,by rw [sv.2.len];simp,inp sv.2 (digT_rng h0)⟩
 have l2:(nfW F.length k).length≤(frs (Rt (nbT F S k)) (F.length ^ k)).length:=by
  have ex:∀ x,x<F.length ^ k→∃ j,j<F.length ^ k+1∧Rt (nbT F S k) j x:=fun x hx=>⟨x,by omega,Rt.refl _ _⟩
  let g:Nat→Nat:=fun x=>if hx:x<F.length ^ k then Classical.choose (least (ex x hx)) else 0
  have hg:∀ x,x<F.length ^ k→g x<F.length ^ k+1∧Rt (nbT F S k) (g x) x∧∀ i,i<g x→¬Rt (nbT F S k) i x:=fun x hx=>by
   have:=Classical.choose_spec (least (ex x hx))
   simp only [g,hx,dif_pos]
   exact this
  have hgl:∀ x,x<F.length ^ k→g x<F.length ^ k:=fun x hx=>by
   obtain ⟨_,_,h2⟩:=hg x hx
   rcases Nat.lt_or_ge x (g x) with h4 | h4
   · exact absurd (Rt.refl _ _) (h2 _ h4)
   · omega
  have nl:∀ w∈nfW F.length k,(numT F.length w).toNat<F.length ^ k:=fun w hw=>(numT_lt ((nfW_mem _ _ _).1 hw).2.2 ((nfW_mem _ _ _).1 hw).2.1).2
  have:=len_le_of_sub ((nfW F.length k).map fun w=>g (numT F.length w).toNat) (frs (Rt (nbT F S k)) (F.length ^ k)) ?_ ?_
  · simpa using this
  · rw [List.Nodup,List.pairwise_map]
    refine (nfW_nodup _ _).imp_of_mem ?_
    intro a b ha hb hab he
    obtain ⟨a1,a2,a3⟩:=(nfW_mem _ _ _).1 ha
    obtain ⟨b1,b2,b3⟩:=(nfW_mem _ _ _).1 hb
    have ga:=hg _ (nl a ha)
    have gb:=hg _ (nl b hb)
    rw [he] at ga
    have hr:=(E.s _ _ (hgl _ (nl b hb)) ga.2.1).trans gb.2.1
    have hsw:=fw _ _ (nl a ha) hr
    rw [dig_num h0 k a a2 a3,dig_num h0 k b b2 b3] at hsw
    exact hab (nf_uniq a1 b1 hsw.perm)
  · intro v hv
    obtain ⟨w,hw,rfl⟩:=List.mem_map.1 hv
    obtain ⟨_,g1,g2⟩:=hg _ (nl w hw)
    exact frs_mem.2 ⟨hgl _ (nl w hw),fun u hu hr=>g2 u hu (hr.trans g1)⟩
 omega
theorem inv_count {f s:List (List Int)} (h:isReg f s) (hi:isInv f s) {k:Nat} (h5:f.length ^ k≤5000):(nrm f s k).length=mulc f.length k:=by
 have hrg:=rg_of h
 have hrk:=ra_rck hrg h.1.2.1
 have hrl:=raT_length f s
 obtain ⟨t1,t2,t3,t4⟩:=tw_id hrk
 have htr:=(ra_triv hrg).1 hi
 have hso:=same_orbits hrg h.1.2.1 (PM.of t1.1.1) t1.1.2.1 (by rw [t3,hrl]) (fun w j hw hj=>t4 w j (by rw [hrl];exact hw) hj) k
 have hpm:=hrg.1
 have Hpm:=PM.of t1.1.1
 have c1:=(orbC_spec (fun x _=>nbT_rng hpm (m:=k) (v:=x)) (f.length ^ k) (Nat.le_refl _)).2
 have c2:=(orbC_spec (fun x _=>nbT_rng Hpm (m:=k) (v:=x)) _ (Nat.le_refl _)).2
 rw [c1,c2] at hso
 rw [nrm_frs h.1 h5,List.length_map]
 have hfl:(twF (idL (raT f s).length)).length=f.length:=by rw [t3,hrl]
 have:=flip_count Hpm t1.1.2.1 (fun w i hw hk=>by
  rw [hfl] at hw
  rw [t4 w i (by rw [hrl];exact hw) hk]
  obtain ⟨u,a,b,v,rfl,rfl⟩:=cut_at hk
  rw [rW_mid,swp_mid,htr]
  have ha:=hw a (by simp)
  have hb:=hw b (by simp)
  have e:g2 (trT f.length) b a=a:=by
   unfold g2 trT
   rw [v2_tabL (by omega) (by omega)]
   omega
  rw [e]) k
 rw [hfl] at this hso
 omega
theorem inv_fixed {f s:List (List Int)} (h:isReg f s) (hi:isInv f s):(fixL f s f.length).length=f.length:=by
 have hrg:=rg_of h
 have nd:=nd_of hrg
 have hpm:=hrg.1
 have one:∀ x,x<f.length→(fixTo f s x f.length).length=1:=fun x hx=>by
  obtain ⟨y,hy,e⟩:=nd.ss x x hx hx
  have h1:=(hi x hx y hy).1
  have v:=(hpm.v2s x y).2
  rw [e,← (hpm.v2f _ _).1] at h1
  have hyy:τN s y x=y:=nd.is x _ _ hx v hy (by omega)
  have hf:=filt_one (fun j:Nat=>decide (v2 f x j=x∧v2 s x j=j)) y f.length hy (by
   refine decide_eq_true ⟨?_,?_⟩
   · rw [← (hpm.v2f x y).1,e]
   · rw [← (hpm.v2s x y).1,hyy]) fun z hz hzy=>by
   refine decide_eq_false fun g=>hzy ?_
   refine nd.is x z y hx hz hy ?_
   have:=(hpm.v2f x z).1
   omega
  unfold fixTo
  rw [hf]
  rfl
 have key:∀ x,x≤f.length→(fixL f s x).length=x:=fun x=>by
  induction x with
  | zero=>intro _;rfl
  | succ x ih =>
   intro hx
   rw [fixL_succ,List.length_append,ih (by omega),one x (by omega)]
 exact key _ (Nat.le_refl _)
end Go.Mch
namespace Go.Mch

theorem pow_le {n k N:Nat} (h0:0<n) (hN:n ^ k≤N) {j:Nat} (hj:j≤k):n ^ j≤N:=Nat.le_trans (Nat.pow_le_pow_right h0 hj) hN
def S_normals (pg:Pg):Prop:=∀ (f s:List (List Int)) (k:Nat),isSol f s→k≤8→f.length ^ k≤5000→Call pg 296 [sol f s,I k] [sol f s,I k] (.mem .own (some 1) (rowsF (nrm f s k)))
set_option maxRecDepth 10000 in
theorem t_l09Normals {pg:Pg} (hp:pg.fn 296=some c_spec_l09Normals) (h339:S_class pg):S_normals pg:=by
 intro f s k h hk8 hN
 have hpm:=PM.of h.1
 have h0:=hpm.pos
 have h12:=hpm.small
 have hn1:¬f.length=0:=by omega
 refine Call.intro hp rfl (by simp) ?_
 show wp _ _ c_spec_l09Normals.body (post [.t 4] _ _ _) _
 simp [c_spec_l09Normals]
 refine j0a (fun j e=>e=fr [(1,some (.val (I k))),(2,some (.val (.mem .own none [tb f,tb s]))),(5,some (.val (I f.length))),(6,some (.val (I ((f.length ^ j:Nat):Int)))),(7,some (.val (I j)))]) k ?_ ?_ 0 _ (by omega) ?_
 · rintro j e hj rfl
   have hmul:((f.length ^ j:Nat):Int)*f.length=((f.length ^ (j+1):Nat):Int):=by rw [Nat.pow_succ,Int.natCast_mul]
   have hb:=pow_le h0 hN (show j+1≤k by omega)
   have hb2:=pow_le h0 hN (show j≤k by omega)
   generalize hA:f.length ^ j=A at *
   generalize hB:f.length ^ (j+1)=A' at *
   simp [hj,hmul]
   omega
 · rintro e rfl
   have hcv:=fun v=>cl_spec h k v
   have hdg:=fun v:Nat=>digT_rng (n:=f.length) (m:=k) (v:=v) h0
   have hcls:=fun v:Nat=>h339 f s (digT f.length k v) 5000 h (hdg v) (by rw [digT_length];omega) (by omega) (by omega)
   have hlenS:=nrmS_length f s k
   have hwds:=nrmS_words f s k
   unfold nrm
   have hS0:nrmS f s k 0=(List.replicate (f.length ^ k) false,[]):=rfl
   have hstep:∀ v,nrmS f s k (v+1)=if (nrmS f s k v).1.getD v false then nrmS f s k v else (markL f.length (nrmS f s k v).1 (clV f s k v),(nrmS f s k v).2++[digT f.length k v]):=fun v=>rfl
   generalize hNe:f.length ^ k=N at *
   simp
   refine ⟨by unfold roomy;omega,?_⟩
   refine j0a (fun v e=>e=fr [(1,some (.val (I k))),(2,some (.val (.mem .own none [tb f,tb s]))),(5,some (.val (I f.length))),(6,some (.val (I N))),(8,some (.val (.mem .own (some 1) ((nrmS f s k v).1.map B)))),(9,some (.val (.mem .own (some 1) (rowsF (nrmS f s k v).2)))),(10,some (.val (I v)))]) N ?_ ?_ 0 _ (by omega) ?_
   · rintro v e hv rfl
     have hSl:=hlenS v
     have hwv:=(hwds v).1
     have hcl:=hcls v
     obtain ⟨hc1,hc2⟩:=hcv v
     rw [hstep]
     unfold clV at hc1 hc2 ⊢
     generalize cO f s (digT f.length k v) 5000=o at *
     generalize nrmS f s k v=S at *
     have hkl:v<S.1.length:=by omega
     have hg:S.1.getD v false=S.1[v]:=by rw [List.getD_eq_getElem?_getD,List.getElem?_eq_getElem hkl];rfl
     rw [hg]
     by_cases hb:S.1[v]=true
     · simp [hv,hkl,hb]
       omega
     · have hb':S.1[v]=false:=by simpa using hb
       simp [hv,hkl,hb']
       refine ⟨by unfold roomy;omega,by omega,?_⟩
       refine j0a (fun c e=>e=fr [(1,some (.val (I k))),(2,some (.val (.mem .own none [tb f,tb s]))),(5,some (.val (I f.length))),(6,some (.val (I N))),(8,some (.val (.mem .own (some 1) (S.1.map B)))),(9,some (.val (.mem .own (some 1) (rowsF S.2)))),(10,some (.val (I v))),(11,some (.val (.mem .own (some 1) ((digP f.length k v c).map I)))),(12,some (.val (I ((v / f.length ^ c:Nat):Int)))),(13,some (.val (I ((k:Int)-1-c))))]) k ?_ ?_ 0 _ (by omega) ?_
       · rintro c e hc rfl
         have hj:(k:Int)-1-c=((k-1-c:Nat):Int):=by omega
         have hs:=digP_succ (n:=f.length) (v:=v) hc
         have hd:=div_le' v c f.length
         have hd2:=div_le' v (c+1) f.length
         have hmod:((v / f.length ^ c:Nat):Int).tmod f.length=((v / f.length ^ c % f.length:Nat):Int):=by
          rw [Int.tmod_eq_emod_of_nonneg (Int.natCast_nonneg _)];exact (Int.natCast_emod ..).symm
         have hdiv:((v / f.length ^ c:Nat):Int).tdiv f.length=((v / f.length ^ (c+1):Nat):Int):=by
          rw [Int.tdiv_eq_ediv_of_nonneg (Int.natCast_nonneg _),Nat.pow_succ,← Nat.div_div_eq_div_mul];exact (Int.natCast_ediv ..).symm
         rw [hj]
         rw [show (k:Int)-1-((c+1:Nat):Int)=((k-1-c:Nat):Int)-1 from by omega,← hs]
         have hjm:k-1-c<k:=by omega
         generalize k-1-c=j at *
         generalize v / f.length ^ c % f.length=a at *
         generalize v / f.length ^ (c+1)=b at *
         generalize v / f.length ^ c=g at *
         simp [hn1,hmod,hdiv,hjm]
         omega
       · rintro e rfl
         have hneg:¬((k:Int)≤(k:Int)-1):=by omega
         rw [digP_all]
         generalize digT f.length k v=W at *
         have hro:S.2.length+1≤roomy:=by unfold roomy;omega
         simp [hneg,hro]
         rcases grp_lso o with ⟨rfl,ho⟩ | ⟨X,rfl,ho⟩
         · rw [ho] at hcl
           refine j0e hcl rfl rfl (fun _=>by simp) ?_
           rw [rowsF_snoc]
           simp
           refine j0a (fun j e=>e=fr [(1,some (.val (I k))),(2,some (.val (.mem .own none [tb f,tb s]))),(5,some (.val (I f.length))),(6,some (.val (I N))),(8,some (.val (.mem .own (some 1) (S.1.map B)))),(9,some (.val (.mem .own (some 1) (rowsF S.2++[.mem .fresh (some 1) (W.map I)])))),(10,some (.val (I v))),(14,some (.val nil)),(16,some (.val (I j)))]) 0 ?_ ?_ 0 _ (by omega) ?_
           · intro j e hj
             omega
           · rintro e rfl
             simp [markL]
             omega
           · simp
         · rw [ho] at hcl
           simp only [lso_some] at hc1 hc2 ⊢
           refine j0e hcl rfl rfl (fun _=>by simp) ?_
           rw [← rowsF_snoc]
           generalize S.2++[W]=S2 at *
           simp
           refine j0a (fun j e=>e=fr [(1,some (.val (I k))),(2,some (.val (.mem .own none [tb f,tb s]))),(5,some (.val (I f.length))),(6,some (.val (I N))),(8,some (.val (.mem .own (some 1) ((markL f.length S.1 (X.take j)).map B)))),(9,some (.val (.mem .own (some 1) (rowsF S2)))),(10,some (.val (I v))),(14,some (.val (.mem .own (some 1) (rows X)))),(16,some (.val (I j)))]) X.length ?_ ?_ 0 _ (by omega) ?_
           · rintro j e hj rfl
             obtain ⟨x1,x2,x3,x4⟩:=hc2 _ (List.getElem_mem hj)
             have hmk:=markL_snoc f.length S.1 (X.take j) X[j]
             rw [← List.take_succ_eq_append_getElem hj] at hmk
             have hml:=markL_length f.length (X.take j) S.1
             rw [hmk]
             generalize markL f.length S.1 (X.take j)=Mk at *
             have hpw:f.length ^ X[j].length≤1048576:=by rw [x2,hNe];omega
             simp [hj]
             refine j0a (fun c e=>e=fr [(1,some (.val (I k))),(2,some (.val (.mem .own none [tb f,tb s]))),(5,some (.val (I f.length))),(6,some (.val (I N))),(8,some (.val (.mem .own (some 1) (Mk.map B)))),(9,some (.val (.mem .own (some 1) (rowsF S2)))),(10,some (.val (I v))),(14,some (.val (.mem .own (some 1) (rows X)))),(16,some (.val (I j))),(17,some (.val (I (numT f.length (X[j].take c))))),(18,some (.val (I c)))]) X[j].length ?_ ?_ 0 _ (by omega) ?_
             · rintro c e hc rfl
               obtain ⟨a1,a2,a3,a4,a5⟩:=num_step x1 (by omega) hpw hc
               simp [hj,hc,a5]
               omega
             · rintro e rfl
               have hlt:(numT f.length X[j]).toNat<Mk.length:=by omega
               have hlt2:numT f.length X[j]<Mk.length:=by omega
               simp [hj,x4,hlt,hlt2]
               omega
             · simp [numT]
           · rintro e rfl
             simp
             omega
           · simp [markL]
       · simp [digP_zero]
   · rintro e rfl
     simp
   · rw [hS0]
     simp [rowsF]
 · rfl


theorem frz_grp (X:List (List Int)):T.frz .fresh (.tup [.mem .own (some 1) (rows X),B true])=.tup [.mem .fresh (some 1) (rowsF X),B true]:=by
 show T.tup [T.mem .fresh (some 1) (T.frzL .fresh (rows X)),B true]=_
 rw [frzRowsF]
theorem frz_gno:T.frz .fresh (.tup [nil,B false])=.tup [nil,B false]:=rfl
def S_normI (pg:Pg):Prop:=∀ (f s:List (List Int)) (k:Nat),fits f→fits s→isSol f s→k≤8→f.length ^ k≤5000→Call pg 294 [sol f s,I k,I ((f.length ^ k:Nat):Int)] [sol f s,I k,I ((f.length ^ k:Nat):Int)] (rowN (nrm f s k))
set_option maxRecDepth 10000 in
theorem t_normalWords {pg:Pg} (hp:pg.fn 294=some c_impl_normalWords) (h262:S_digI pg) (h352:S_wordClass pg) (h263:S_numI pg):S_normI pg:=by
 intro f s k hff hfs h hk8 hN
 have hpm:=PM.of h.1
 have h0:=hpm.pos
 have h12:=hpm.small
 have hcv:=fun v=>cl_spec h k v
 have hdg:=fun v:Nat=>digT_rng (n:=f.length) (m:=k) (v:=v) h0
 have hcls:=fun v:Nat=>h352 f s (digT f.length k v) 5000 hff hfs h (hdg v) (by rw [digT_length];omega) (by omega) (by omega)
 have hlenS:=nrmS_length f s k
 have hwds:=nrmS_words f s k
 unfold nrm
 have hS0:nrmS f s k 0=(List.replicate (f.length ^ k) false,[]):=rfl
 have hstep:∀ v,nrmS f s k (v+1)=if (nrmS f s k v).1.getD v false then nrmS f s k v else (markL f.length (nrmS f s k v).1 (clV f s k v),(nrmS f s k v).2++[digT f.length k v]):=fun v=>rfl
 generalize hNe:f.length ^ k=N at *
 refine Call.intro hp rfl (by simp) ?_
 show wp _ _ c_impl_normalWords.body (post [.t 6] _ _ _) _
 simp [c_impl_normalWords]
 refine ⟨by unfold roomy;omega,?_⟩
 refine j0a (fun v e=>e=fr [(1,some (.val (I k))),(3,some (.val (.mem .own none [tb f,tb s]))),(7,some (.val (I f.length))),(8,some (.val (.mem .own (some 1) ((nrmS f s k v).1.map B)))),(9,some (.val (rowN (nrmS f s k v).2))),(22,some (.val (I N))),(23,some (.val (I v)))]) N ?_ ?_ 0 _ (by omega) ?_
 · rintro v e hv rfl
   have hSl:=hlenS v
   have hwv:=(hwds v).1
   have hcl:=hcls v
   have hdc:=h262 f.length k v h0 (by omega) (by omega) (by omega)
   obtain ⟨hc1,hc2⟩:=hcv v
   rw [hstep]
   unfold clV at hc1 hc2 ⊢
   generalize cO f s (digT f.length k v) 5000=o at *
   generalize nrmS f s k v=S at *
   have hkl:v<S.1.length:=by omega
   have hg:S.1.getD v false=S.1[v]:=by rw [List.getD_eq_getElem?_getD,List.getElem?_eq_getElem hkl];rfl
   rw [hg]
   by_cases hb:S.1[v]=true
   · simp [hv,hkl,hb]
     omega
   · have hb':S.1[v]=false:=by simpa using hb
     simp [hv,hkl,hb']
     refine j0e hdc rfl rfl (fun _=>by simp) ?_
     generalize digT f.length k v=W at *
     have hro:S.2.length+1≤roomy:=by unfold roomy;omega
     have hne:S.2++[W]≠[]:=by simp
     rw [rowN_ne hne]
     by_cases hS2:S.2=[]
     · rw [show rowN S.2=nil from by simp [rowN,hS2]]
       simp [roomy]
       rw [show [T.mem .own (some 1) (List.map I W)]=rows (S.2++[W]) from by simp [hS2,rows]]
       have hS2l:(S.2++[W]).length=1:=by simp [hS2]
       generalize S.2++[W]=S2 at *
       rcases grp_lso o with ⟨rfl,ho⟩ | ⟨X,rfl,ho⟩
       · rw [ho] at hcl
         refine j0e hcl rfl rfl (fun _=>by simp) ?_
         simp [frz_gno,hS2l]
         refine j0a (fun j e=>e=fr [(1,some (.val (I k))),(3,some (.val (.mem .own none [tb f,tb s]))),(7,some (.val (I f.length))),(8,some (.val (.mem .own (some 1) (S.1.map B)))),(9,some (.val (.mem .own (some 1) (rows S2)))),(22,some (.val (I N))),(23,some (.val (I v))),(44,some (.val nil)),(45,some (.val (I 0))),(46,some (.val (I j)))]) 0 ?_ ?_ 0 _ (by omega) ?_
         · intro j e hj
           omega
         · rintro e rfl
           simp [markL]
           omega
         · simp
       · rw [ho] at hcl
         simp only [lso_some] at hc1 hc2 ⊢
         refine j0e hcl rfl rfl (fun _=>by simp) ?_
         simp [frz_grp,hS2l]
         refine j0a (fun j e=>e=fr [(1,some (.val (I k))),(3,some (.val (.mem .own none [tb f,tb s]))),(7,some (.val (I f.length))),(8,some (.val (.mem .own (some 1) ((markL f.length S.1 (X.take j)).map B)))),(9,some (.val (.mem .own (some 1) (rows S2)))),(22,some (.val (I N))),(23,some (.val (I v))),(44,some (.val (.mem .fresh (some 1) (rowsF X)))),(45,some (.val (I X.length))),(46,some (.val (I j)))]) X.length ?_ ?_ 0 _ (by omega) ?_
         · rintro j e hj rfl
           obtain ⟨x1,x2,x3,x4⟩:=hc2 _ (List.getElem_mem hj)
           have hmk:=markL_snoc f.length S.1 (X.take j) X[j]
           rw [← List.take_succ_eq_append_getElem hj] at hmk
           have hml:=markL_length f.length (X.take j) S.1
           rw [hmk]
           generalize markL f.length S.1 (X.take j)=Mk at *
           have hpw:f.length ^ X[j].length≤1048576:=by rw [x2,hNe];omega
           have hnm:=h263 f.length X[j] x1 (by omega) (by omega) hpw
           have hlt:(numT f.length X[j]).toNat<Mk.length:=by omega
           have hlt2:numT f.length X[j]<Mk.length:=by omega
           simp [hj]
           refine j0e hnm rfl rfl (fun _=>rfl) ?_
           simp [x4,hlt,hlt2]
           omega
         · rintro e rfl
           simp
           omega
         · simp [markL]
     · rw [rowN_ne hS2]
       simp [hro]
       rw [show rows S.2++[T.mem .own (some 1) (List.map I W)]=rows (S.2++[W]) from by simp [rows]]
       have hS2l:(S.2++[W]).length=S.2.length+1:=by simp
       generalize S.2++[W]=S2 at *
       rcases grp_lso o with ⟨rfl,ho⟩ | ⟨X,rfl,ho⟩
       · rw [ho] at hcl
         refine j0e hcl rfl rfl (fun _=>by simp) ?_
         simp [frz_gno,hS2l]
         refine j0a (fun j e=>e=fr [(1,some (.val (I k))),(3,some (.val (.mem .own none [tb f,tb s]))),(7,some (.val (I f.length))),(8,some (.val (.mem .own (some 1) (S.1.map B)))),(9,some (.val (.mem .own (some 1) (rows S2)))),(22,some (.val (I N))),(23,some (.val (I v))),(44,some (.val nil)),(45,some (.val (I 0))),(46,some (.val (I j)))]) 0 ?_ ?_ 0 _ (by omega) ?_
         · intro j e hj
           omega
         · rintro e rfl
           simp [markL]
           omega
         · simp
       · rw [ho] at hcl
         simp only [lso_some] at hc1 hc2 ⊢
         refine j0e hcl rfl rfl (fun _=>by simp) ?_
         simp [frz_grp,hS2l]
         refine j0a (fun j e=>e=fr [(1,some (.val (I k))),(3,some (.val (.mem .own none [tb f,tb s]))),(7,some (.val (I f.length))),(8,some (.val (.mem .own (some 1) ((markL f.length S.1 (X.take j)).map B)))),(9,some (.val (.mem .own (some 1) (rows S2)))),(22,some (.val (I N))),(23,some (.val (I v))),(44,some (.val (.mem .fresh (some 1) (rowsF X)))),(45,some (.val (I X.length))),(46,some (.val (I j)))]) X.length ?_ ?_ 0 _ (by omega) ?_
         · rintro j e hj rfl
           obtain ⟨x1,x2,x3,x4⟩:=hc2 _ (List.getElem_mem hj)
           have hmk:=markL_snoc f.length S.1 (X.take j) X[j]
           rw [← List.take_succ_eq_append_getElem hj] at hmk
           have hml:=markL_length f.length (X.take j) S.1
           rw [hmk]
           generalize markL f.length S.1 (X.take j)=Mk at *
           have hpw:f.length ^ X[j].length≤1048576:=by rw [x2,hNe];omega
           have hnm:=h263 f.length X[j] x1 (by omega) (by omega) hpw
           have hlt:(numT f.length X[j]).toNat<Mk.length:=by omega
           have hlt2:numT f.length X[j]<Mk.length:=by omega
           simp [hj]
           refine j0e hnm rfl rfl (fun _=>rfl) ?_
           simp [x4,hlt,hlt2]
           omega
         · rintro e rfl
           simp
           omega
         · simp [markL]
 · rintro e rfl
   by_cases hS2:(nrmS f s k N).2=[]
   · simp [rowN,hS2]
   · simp [rowN_ne hS2]
 · rw [hS0]
   simp [rowN]
end Go.Mch
namespace Go.Mch

def nmOk (f:List (List Int)) (p:Int):Prop:=(0≤p∧p≤8)∧f.length ^ p.toNat≤5000
instance (f:List (List Int)) (p:Int):Decidable (nmOk f p):=by unfold nmOk;infer_instance
open Classical in
noncomputable def nmR (f s:List (List Int)) (p:Int):List (List Int):=if isSol f s∧nmOk f p then nrm f s p.toNat else []
open Classical in
noncomputable def nmC (f s:List (List Int)) (p:Int):Int:=if isSol f s then if 0≤p∧p≤8 then if f.length ^ p.toNat≤5000 then 0 else 3 else 2 else 1
def S_many (pg:Pg):Prop:=∀ (f s:List (List Int)) (p:Int),fits f→fits s→Call pg 295 [sol f s,I p] [sol f s,I p] (I (nmC f s p))
theorem t_l09Many {pg:Pg} (hp:pg.fn 295=some c_spec_l09Many) (h41:S_isSol pg 41) (h30:S_in pg 30):S_many pg:=by
 intro f s p hf hs
 refine Call.intro hp rfl (by simp) ?_
 show wp _ _ c_spec_l09Many.body (post [.t 4] _ _ _) _
 simp [c_spec_l09Many]
 refine j0e (h41 f s hf hs) rfl rfl (fun _=>rfl) ?_
 by_cases h:isSol f s
 · have hpm:=PM.of h.1
   have h0:=hpm.pos
   have h12:=hpm.small
   simp [j1d h]
   refine j0e (h30 p 0 8) rfl rfl (fun _=>rfl) ?_
   by_cases h1:0≤p∧p≤8
   · simp [h1]
     obtain ⟨m,rfl⟩:=Int.eq_ofNat_of_zero_le h1.1
     have hm8:m≤8:=by omega
     have hbig:f.length ^ m≤429981696:=Nat.le_trans (Nat.pow_le_pow_left h12 m) (Nat.le_trans (Nat.pow_le_pow_right (by omega) hm8) (by decide))
     have hpw:∀ j,j≤m→f.length ^ j≤429981696:=fun j hj=>Nat.le_trans (Nat.pow_le_pow_right h0 hj) hbig
     refine j0a (fun j e=>e=fr [(1,some (.val (I m))),(2,some (.val (.mem .own none [tb f,tb s]))),(5,some (.val (I ((f.length ^ j:Nat):Int)))),(6,some (.val (I j)))]) m ?_ ?_ 0 _ (by omega) ?_
     · rintro j e hj rfl
       have hmul:((f.length ^ j:Nat):Int)*f.length=((f.length ^ (j+1):Nat):Int):=by rw [Nat.pow_succ,Int.natCast_mul]
       have hb:=hpw (j+1) (by omega)
       generalize hA:f.length ^ j=A at *
       generalize hB:f.length ^ (j+1)=A' at *
       simp [hj,hmul]
       omega
     · rintro e rfl
       have e1:nmC f s m=if f.length ^ m≤5000 then 0 else 3:=by simp [nmC,h,h1]
       rw [e1]
       generalize f.length ^ m=A at *
       by_cases h5:A≤5000
       · have h5':¬(5000:Int)<A:=by omega
         simp [h5,h5']
       · have h5':(5000:Int)<A:=by omega
         simp [h5,h5']
     · rfl
   · have e2:nmC f s p=2:=by simp [nmC,h,h1]
     simp [h1,e2]
 · have e1:nmC f s p=1:=by simp [nmC,h]
   simp [j02 h,e1]
theorem nm_0 {f s:List (List Int)} {p:Int} (h:nmC f s p=0):isSol f s∧nmOk f p:=by
 unfold nmC at h
 split at h
 · rename_i h1
   split at h
   · rename_i h2
     split at h
     · rename_i h3;exact ⟨h1,h2,h3⟩
     · omega
   · omega
 · omega
theorem nm_ne {f s:List (List Int)} {p:Int} (h:nmC f s p≠0):nmR f s p=[]:=by
 unfold nmR
 split
 · rename_i h1
   exact absurd (by simp [nmC,h1.1,h1.2.1,h1.2.2]) h
 · rfl
def S_cc (pg:Pg) (n:Nat):Prop:=∀ (f s:List (List Int)) (p:Int),fits f→fits s→Call pg n [sol f s,I p] [sol f s,I p] (.tup [I (nmR f s p).length,I (nmC f s p)])
def S_nmF (pg:Pg):Prop:=∀ (f s:List (List Int)) (p:Int),fits f→fits s→Call pg 155 [sol f s,I p] [sol f s,I p] (.tup [rowN (nmR f s p),I (nmC f s p)])
set_option maxRecDepth 10000 in
theorem t_NormalWords {pg:Pg} (hp:pg.fn 155=some c_impl_NormalWords) (h42:S_isSol pg 42) (h35:S_in pg 35) (h294:S_normI pg):S_nmF pg:=by
 intro f s p hf hs
 refine Call.intro hp rfl (by simp) ?_
 show wp _ _ c_impl_NormalWords.body (post [.t 4,.t 5] _ _ _) _
 simp [c_impl_NormalWords]
 refine j0e (h42 f s hf hs) rfl rfl (fun _=>rfl) ?_
 by_cases h:isSol f s
 · have hpm:=PM.of h.1
   have h0:=hpm.pos
   have h12:=hpm.small
   simp [j1d h]
   refine j0e (h35 p 0 8) rfl rfl (fun _=>rfl) ?_
   by_cases h1:0≤p∧p≤8
   · simp [h1]
     obtain ⟨m,rfl⟩:=Int.eq_ofNat_of_zero_le h1.1
     have hm8:m≤8:=by omega
     refine j0a (fun j e=>f.length ^ j≤5000∧e=fr [(1,some (.val (I m))),(2,some (.val (.mem .own none [tb f,tb s]))),(6,some (.val (I ((f.length ^ j:Nat):Int)))),(13,some (.val (I m))),(14,some (.val (I j)))]) m ?_ ?_ 0 _ (by omega) ?_
     · rintro j e hj ⟨hk5,rfl⟩
       have hmul:((f.length ^ j:Nat):Int)*f.length=((f.length ^ (j+1):Nat):Int):=by rw [Nat.pow_succ,Int.natCast_mul]
       have hb:f.length ^ (j+1)≤60000:=by
        rw [Nat.pow_succ]
        exact Nat.le_trans (Nat.mul_le_mul hk5 h12) (by omega)
       have hno:=fun h5:5000<f.length ^ (j+1)=>pow_step h0 hj h5
       generalize hA:f.length ^ j=A at *
       generalize hB:f.length ^ (j+1)=A' at *
       simp [hj,hmul]
       by_cases h5:A'≤5000
       · have h5':¬(5000:Int)<A':=by omega
         simp [h5']
         omega
       · have h5':(5000:Int)<A':=by omega
         have hn:=hno (by omega)
         have e2:nmC f s m=3:=by simp [nmC,h,h1,hn]
         simp [h5',e2,nm_ne (f:=f) (s:=s) (p:=m) (by omega),rowN]
         omega
     · rintro e ⟨hk5,rfl⟩
       have e1:nmR f s m=nrm f s m:=by simp [nmR,h,nmOk,hk5];omega
       have e2:nmC f s m=0:=by simp [nmC,h,h1,hk5]
       have hc:=h294 f s m hf hs h hm8 hk5
       rw [e1,e2]
       generalize nrm f s m=Z at *
       by_cases hZ:Z=[]
       · subst hZ
         simp
         refine j0e hc rfl rfl (fun _=>by simp [rowN]) ?_
         simp [rowN]
       · rw [rowN_ne hZ] at hc ⊢
         simp
         refine j0e hc rfl rfl (fun _=>by simp) ?_
         simp
     · exact ⟨by simp,rfl⟩
   · have e2:nmC f s p=2:=by simp [nmC,h,h1]
     simp [h1,e2,nm_ne (f:=f) (s:=s) (p:=p) (by omega),rowN]
 · have e1:nmC f s p=1:=by simp [nmC,h]
   simp [j02 h,e1,nm_ne (f:=f) (s:=s) (p:=p) (by omega),rowN]
theorem t_cc_impl {pg:Pg} (hp:pg.fn 157=some c_impl_CountClasses) (h155:S_nmF pg):S_cc pg 157:=by
 intro f s p hf hs
 refine Call.intro hp rfl (by simp) ?_
 show wp _ _ c_impl_CountClasses.body (post [.t 4,.t 5] _ _ _) _
 simp [c_impl_CountClasses]
 have hc:=h155 f s p hf hs
 generalize nmR f s p=Z at *
 by_cases hZ:Z=[]
 · subst hZ
   refine j0e hc rfl rfl (fun _=>by simp [rowN]) ?_
   simp [rowN]
 · rw [rowN_ne hZ] at hc
   refine j0e hc rfl rfl (fun _=>by simp [noOldL_rowsF]) ?_
   simp
end Go.Mch
namespace Go.Mch
def fshT:Option (List (List Int))→T
 | none=>nil
 | some X=>.mem .own (some 1) (rowsF X)
end Go.Mch
namespace Go.Mch

open Classical in
noncomputable def nmO (f s:List (List Int)) (p:Int):Option (List (List Int)):=if isSol f s∧nmOk f p then some (nrm f s p.toNat) else none
def S_nmS (pg:Pg):Prop:=∀ (f s:List (List Int)) (p:Int),fits f→fits s→Call pg 156 [sol f s,I p] [sol f s,I p] (.tup [fshT (nmO f s p),I (nmC f s p)])
theorem t_nmS {pg:Pg} (hp:pg.fn 156=some c_spec_NormalWords) (h295:S_many pg) (h296:S_normals pg):S_nmS pg:=by
 intro f s p hf hs
 refine Call.intro hp rfl (by simp) ?_
 show wp _ _ c_spec_NormalWords.body (post [.t 4,.t 5] _ _ _) _
 simp [c_spec_NormalWords]
 refine j0e (h295 f s p hf hs) rfl rfl (fun _=>rfl) ?_
 by_cases h:nmC f s p=0
 · obtain ⟨h1,h2,h3⟩:=nm_0 h
   have e1:nmO f s p=some (nrm f s p.toNat):=by simp only [nmO,if_pos (And.intro h1 (show nmOk f p from ⟨h2,h3⟩))]
   obtain ⟨m,rfl⟩:=Int.eq_ofNat_of_zero_le h2.1
   rw [Int.toNat_natCast] at h3 e1
   have hc:=h296 f s m h1 (by omega) h3
   simp [h,e1]
   refine j0e hc rfl rfl (fun _=>by simp [noOldL_rowsF]) ?_
   simp [fshT]
 · have e1:nmO f s p=none:=by
    unfold nmO
    split
    · rename_i hh
      exact absurd (by simp [nmC,hh.1,hh.2.1,hh.2.2]) h
    · rfl
   simp [h,e1,fshT]
end Go.Mch
namespace Go.Mch

theorem t_dNW {pg:Pg} (hp:pg.fn 154=some c_spec_DrawNormalWords) (h269:S_from pg) (h268:S_spl pg 268) (h293:S_count pg) (h292:S_pick pg):S_drK pg 154:=by
 intro c hc
 obtain ⟨s,hs,hc1⟩:=h269 c hc
 obtain ⟨s1,X,⟨k1,k2,k3⟩,hc2⟩:=h268 c s 4 hs (by omega) (by omega)
 obtain ⟨s2,x,⟨k4,k5⟩,hc3⟩:=h293 c s1 6 k1 (by omega) (by omega)
 obtain ⟨s3,y,⟨k6,k7⟩,hc4⟩:=h292 c s2 [0,1,2,3,4,x] k4 (by simp) (by simp)
 have hy:Rn y:=by
  unfold Rn at k5 ⊢
  simp at k7
  rcases k7 with rfl | rfl | rfl | rfl | rfl | rfl <;> first | exact k5 | (constructor <;> omega)
 refine ⟨X,y,⟨k2,k3,hy⟩,Call.intro hp rfl (by simp) ?_⟩
 show wp _ _ c_spec_DrawNormalWords.body (post [.cell 2 (some 2),.t 3] _ _ _) _
 simp [c_spec_DrawNormalWords]
 refine j0e hc1 rfl rfl (fun h=>by simp at h) ?_
 simp
 refine callS (ts':=[rawB c,I s1.1,H64 s1.2]) (r:=ownS X) (by simpa using hc2) ?_
 simp
 refine callS (ts':=[rawB c,I s2.1,H64 s2.2]) (r:=I x) (by simpa using hc3) ?_
 simp
 refine callS (ts':=[rawB c,I s3.1,H64 s3.2]) (r:=I y) (by simpa [ix] using hc4) ?_
 simp


theorem mulc_le {n:Nat} (h0:0<n):∀ k,mulc n k≤n ^ k:=by
 intro k
 induction k with
 | zero=>rw [mul_0];simp
 | succ k ih =>
  have e:=(mul_ab n).1 k
  have h1:n+k≤(k+1)*n:=by
   have:k≤k*n:=Nat.le_mul_of_pos_right k h0
   rw [Nat.add_mul]
   omega
  have h2:(k+1)*mulc n (k+1)≤(k+1)*(n*mulc n k):=by
   rw [e,← Nat.mul_assoc]
   exact Nat.mul_le_mul_right _ h1
  have h3:=Nat.le_of_mul_le_mul_left h2 (by omega)
  rw [Nat.pow_succ,Nat.mul_comm]
  exact Nat.le_trans h3 (Nat.mul_le_mul_left n ih)
def S_ch5 (pg:Pg):Prop:=∀ n k:Nat,0<n→n≤12→k≤8→n ^ k≤5000→Call pg 161 [I ((n:Int)+k-1),I k] [I ((n:Int)+k-1),I k] (I (mulc n k))
theorem t_ch5 {pg:Pg} (hp:pg.fn 161=some c_laws_choose5):S_ch5 pg:=by
 intro n k h0 h12 h8 h5
 refine Call.intro hp rfl (by simp) ?_
 show wp _ _ c_laws_choose5.body (post [.t 4] _ _ _) _
 simp [c_laws_choose5]
 refine j0a (fun i e=>e=fr [(0,some (.val (I ((n:Int)+k-1)))),(1,some (.val (I k))),(5,some (.val (I (mulc n i)))),(6,some (.val (I ((i:Int)+1))))]) k ?_ ?_ 0 _ (by omega) (by rw [mul_0];rfl)
 · rintro i e hi rfl
   have hle:=mulc_le h0 i
   have hp1:n ^ i≤n ^ k:=Nat.pow_le_pow_right h0 (by omega)
   have hA:=(mul_ab n).1 i
   have hq:((n+i)*mulc n i) / (i+1)=mulc n (i+1):=by rw [← hA];exact Nat.mul_div_cancel_left _ (by omega)
   have hm:(n+i)*mulc n i≤20*5000:=Nat.mul_le_mul (by omega) (by omega)
   have e1:(n:Int)+k-1-k+(i+1)=((n+i:Nat):Int):=by omega
   have e2:(mulc n i:Int)*((n+i:Nat):Int)=(((n+i)*mulc n i:Nat):Int):=by rw [← Int.natCast_mul,Nat.mul_comm]
   have e4:(((n+i)*mulc n i:Nat):Int).tdiv ((i:Int)+1)=(mulc n (i+1):Int):=by
    rw [← hq]
    exact tdiv_nat _ (i+1)
   have hb:mulc n (i+1)≤(n+i)*mulc n i:=by rw [← hq];exact Nat.div_le_self _ _
   have hi1:(i:Int)+1≤k:=by omega
   have hi0:¬(i:Int)+1=0:=by omega
   generalize mulc n (i+1)=m' at *
   generalize mulc n i=m at *
   generalize (n+i)*m=w at *
   simp [hi1,hi0,e1,-Int.natCast_add]
   simp only [e2,e4]
   exact ⟨by omega,by omega,by omega,by omega,by omega,by simp⟩
 · rintro e rfl
   have hi1:¬(k:Int)+1≤k:=by omega
   simp [hi1]


theorem clsW_fst {f s:List (List Int)} (h:isSol f s) {k v:Nat} (hv:v∈frs (Rt (nbT f s k)) (f.length ^ k)):∃ h0:0<(clsW f s k v).length,(clsW f s k v)[0]=digT f.length k v:=by
 have hpm:=PM.of h.1
 have E:=nbT_eqr hpm h.2.1 k
 obtain ⟨v1,v2⟩:=frs_mem.1 hv
 have hm:v∈clsN f s k v:=clsN_mem.2 ⟨v1,Rt.refl _ _⟩
 have h0:0<(clsN f s k v).length:=List.length_pos_of_mem hm
 refine ⟨by simpa using h0,?_⟩
 have hp:(clsN f s k v).Pairwise (·<·):=List.Pairwise.filter _ List.pairwise_lt_range
 have e:(clsN f s k v)[0]=v:=by
  obtain ⟨a1,a2⟩:=clsN_mem.1 (List.getElem_mem h0)
  have g1:v≤(clsN f s k v)[0]:=by
   rcases Nat.lt_or_ge (clsN f s k v)[0] v with g | g
   · exact absurd (E.s _ _ v1 a2) (v2 _ g)
   · exact g
  obtain ⟨i,hi,he⟩:=List.getElem_of_mem hm
  rcases Nat.eq_zero_or_pos i with rfl | hip
  · exact he
  · have:=List.pairwise_iff_getElem.1 hp 0 i h0 hi hip
    omega
 simp [clsW,e]
def ExTB (P:Nat→Bool→Prop):Prop:=∃ t b,P t b
theorem ExTB.mk {P:Nat→Bool→Prop} (t:Nat) (b:Bool) (h:P t b):ExTB P:=⟨t,b,h⟩
def S_law80 (pg:Pg):Prop:=∀ c:Rw Int,okB c→∃ args',Call pg 80 [rawB c] args' (B true)
set_option maxHeartbeats 4000000 in
set_option maxRecDepth 20000 in
theorem t_law80 {pg:Pg} (hp:pg.fn 80=some c_laws_FnClassCounts) (h128:S_big pg) (h154:S_drK pg 154) (h155:S_nmF pg) (h156:S_nmS pg) (h137:S_likeT pg) (h157:S_cc pg 157) (h158:S_cw pg 158) (h141:S_likeI pg) (h159:S_ndI pg) (h160:S_ivI pg) (h20:S_fp pg 20) (h161:S_ch5 pg):S_law80 pg:=by
 intro c hc
 obtain ⟨⟨f,s⟩,p,⟨hX1,hX2,hp2⟩,hd⟩:=h154 c hc
 have hf:fits f:=hX1.fits
 have hs:fits s:=hX2.fits
 refine ⟨[rawB c],Call.intro hp rfl (by simp) ?_⟩
 show wp _ _ c_laws_FnClassCounts.body (post [.t 2] _ _ _) _
 simp [c_laws_FnClassCounts]
 refine j0e (h128 c) rfl rfl (fun _=>rfl) ?_
 by_cases hbig:(4096:Int)<(lst c).length
 · simp [hbig]
 · simp [hbig]
   refine j0e hd rfl rfl (fun _=>by simp) ?_
   have hc1:=h155 f s p hf hs
   have hc2:=h156 f s p hf hs
   have hc3:=h157 f s p hf hs
   by_cases h0:nmC f s p=0
   · obtain ⟨hso,hok⟩:=nm_0 h0
     obtain ⟨⟨p0,p8⟩,h5⟩:=id hok
     obtain ⟨k,rfl⟩:∃ k:Nat,p=k:=⟨p.toNat,by omega⟩
     simp only [Int.toNat_natCast] at h5
     have hpm:=PM.of hso.1
     have n0:=hpm.pos
     have n12:=hpm.small
     have hN0:0<f.length ^ k:=Nat.pow_pos n0
     have eO:nmO f s k=some (nrm f s k):=if_pos ⟨hso,hok⟩
     have eR:nmR f s k=nrm f s k:=if_pos ⟨hso,hok⟩
     rw [h0,eR] at hc1 hc3
     rw [h0,eO] at hc2
     have hfr:=nrm_frs hso h5
     have hsum:=sum_cls hso k
     have hcls:=fun v (hv:v<f.length ^ k)=>cO_cls hso (lim:=1000) hv
     have hfst:=fun v hv=>clsW_fst hso (k:=k) (v:=v) hv
     have hml:∀ v∈frs (Rt (nbT f s k)) (f.length ^ k),v<f.length ^ k:=fun v hv=>(frs_mem.1 hv).1
     have h0m:0∈frs (Rt (nbT f s k)) (f.length ^ k):=frs_mem.2 ⟨hN0,fun u hu=>by omega⟩
     have hcw:∀ v,v<f.length ^ k→∃ o,lso o=(if (clsN f s k v).length≤1000 then clsW f s k v else [])∧Call pg 158 [sol f s,ix (digT f.length k v)] [sol f s,ix (digT f.length k v)] (.tup [ownT o,I (if (clsN f s k v).length≤1000 then 0 else 3)]):=fun v hv=>by
      obtain ⟨o,e1,k1⟩:=h158 f s (digT f.length k v) hf hs (by simp;omega)
      have hwd:isWd f.length (digT f.length k v):=⟨fun x hx=>by have:=digT_rng n0 x hx;omega,by simp;omega⟩
      have e2:cwC f s (digT f.length k v)=if (clsN f s k v).length≤1000 then 0 else 3:=by
       unfold cwC
       rw [if_pos hso,if_pos hwd,hcls v hv]
       split <;> rfl
      have e3:cwR f s (digT f.length k v)=if (clsN f s k v).length≤1000 then clsW f s k v else []:=by
       unfold cwR cwO
       rw [if_pos ⟨hso,hwd⟩,hcls v hv]
       split <;> rfl
      rw [e3] at e1
      rw [e2] at k1
      exact ⟨o,e1,k1⟩
     have hdl:∀ v,(digT f.length k v).length=k:=fun v=>by simp
     have hcl:=fun v=>clsW_length f s k v
     have hcN:∀ v,(clsN f s k v).length≤5000:=fun v=>Nat.le_trans (clsN_le f s k v) h5
     have hlen:(nrm f s k).length≤5000:=Nat.le_trans (nrm_len f s k) h5
     have hpw:∀ i,i≤k→f.length ^ i≤5000:=fun i hi=>Nat.le_trans (Nat.pow_le_pow_right n0 hi) h5
     have hps:∀ i,(f.length ^ i:Nat)*f.length=f.length ^ (i+1):=fun i=>(Nat.pow_succ _ _).symm
     have hsm:smallT (nrm f s k):=⟨by omega,fun r hr=>by rw [nrm_row hr];omega⟩
     have hlk:=h137.tb (nrm f s k) (nrm f s k) hsm
     have hinv:isReg f s→isInv f s→(nrm f s k).length=mulc f.length k∧(fixL f s f.length).length=f.length:=fun h1 h2=>⟨inv_count h1 h2 h5,inv_fixed h1 h2⟩
     rw [hfr] at hc1 hc2 hc3 hlen hsm hlk hinv
     generalize frs (Rt (nbT f s k)) (f.length ^ k)=V at *
     have hVl:(V.map (digT f.length k)).length=V.length:=by simp
     have hV0:V.map (digT f.length k)≠[]:=fun h=>by
      have:V=[]:=by simpa using h
      rw [this] at h0m
      simp at h0m
     have hVp:0<V.length:=List.length_pos_of_mem h0m
     rw [hVl] at hlen hc3 hinv
     have hVg:∀ i (hi:i<V.length),(V.map (digT f.length k))[i]'(by simpa using hi)=digT f.length k V[i]:=fun i hi=>by simp
     have hLr:∀ i (hi:i<V.length),(digT f.length k V[i]).length≤1048576:=fun i hi=>by simp;omega
     rw [rowN_ne hV0] at hc1
     have hsr:rowsF (V.map (digT f.length k))=rowsF (V.map (digT f.length k)):=rfl
     obtain ⟨L,hL⟩:∃ L,V.map (digT f.length k)=L:=⟨_,rfl⟩
     rw [hL] at hc1 hc2 hlk hVl
     simp only [fshT] at hc2
     have hLg:∀ i (hi:i<V.length),∃ h:i<L.length,L[i]=digT f.length k V[i]:=fun i hi=>by subst hL;exact ⟨by simpa using hi,by simp⟩
     simp
     refine j0e hc1 rfl rfl (fun _=>by simp) ?_
     simp
     refine j0e hc2 rfl rfl (fun _=>by simp) ?_
     simp
     refine j0e hlk rfl rfl (fun _=>by simp) ?_
     simp
     refine j0e hc3 rfl rfl (fun _=>by simp) ?_
     simp [hVl]
     refine j0a (fun i e=>e=fr [(3,some (.val (.mem .own none [j1q f,j1q s]))),(4,some (.val (I k))),(5,some (.val (j1q L))),(9,some (.val (I V.length))),(11,some (.val (I f.length))),(12,some (.val (I ((f.length ^ i:Nat):Int)))),(13,some (.val (I 0))),(14,some (.val (B true))),(15,some (.val (I i)))]) k ?_ ?_ 0 _ (by omega) (by simp)
     · rintro i e hi rfl
       have hq:=hpw (i+1) (by omega)
       have hm:((f.length ^ i:Nat):Int)*f.length=((f.length ^ (i+1):Nat):Int):=by rw [← hps i,Int.natCast_mul]
       generalize f.length ^ (i+1)=w at *
       generalize f.length ^ i=u at *
       simp [hi,hm]
       omega
     · rintro e rfl
       have hq:=hpw k (by omega)
       simp
       refine j0a (fun i e=>ExTB fun t b=>(t≤1000*i∧(b=true→t=sumL ((V.take i).map fun v=>(clsN f s k v).length)))∧e=fr [(3,some (.val (.mem .own none [j1q f,j1q s]))),(4,some (.val (I k))),(5,some (.val (j1q L))),(9,some (.val (I V.length))),(11,some (.val (I f.length))),(12,some (.val (I ((f.length ^ k:Nat):Int)))),(13,some (.val (I t))),(14,some (.val (B b))),(16,some (.val (I i)))]) V.length ?_ ?_ 0 _ (by omega) (ExTB.mk 0 true ⟨⟨by omega,fun _=>by simp [sumL]⟩,by simp⟩)
       · rintro i e hi ⟨t,b,⟨t1,t2⟩,rfl⟩
         obtain ⟨hiL,hLi⟩:=hLg i hi
         have hvm:=List.getElem_mem hi
         obtain ⟨o,e1,k1⟩:=hcw V[i] (hml _ hvm)
         obtain ⟨w0,w1⟩:=hfst V[i] hvm
         have hwl:=hcl V[i]
         have hdk:=hdl V[i]
         have htk:sumL ((V.take (i+1)).map fun v=>(clsN f s k v).length)=sumL ((V.take i).map fun v=>(clsN f s k v).length)+(clsN f s k V[i]).length:=by
          rw [List.take_succ_eq_append_getElem hi,List.map_append,sumL_app]
          simp [sumL]
         have hlk2:=h141.ix (digT f.length k V[i]) (digT f.length k V[i]) (by omega)
         by_cases hle:(clsN f s k V[i]).length≤1000
         · rw [if_pos hle] at e1 k1
           obtain rfl:o=some (clsW f s k V[i]):=by
            cases o with
            | none=>simp only [lso_none] at e1;rw [← e1] at w0;simp at w0
            | some l=>simp only [lso_some] at e1;rw [e1]
           simp only [ownT] at k1
           have hw0':¬(clsW f s k V[i]).length=0:=by omega
           have hwe:¬clsW f s k V[i]=[]:=fun h=>hw0' (by rw [h];rfl)
           clear hcw hfst hLg hcl hcls e1
           generalize clsW f s k V[i]=W at *
           generalize digT f.length k V[i]=d at *
           generalize (clsN f s k V[i]).length=m at *
           simp [hi,hVl,hLi]
           refine j0e k1 rfl rfl (fun _=>by simp) ?_
           have hm0:¬m=0:=by omega
           have hm0':(0:Int)<m:=by omega
           have hm1:0<m:=by omega
           have hrw0:(rows W)[0]?=some (ownL d):=by rw [rows_get,List.getElem?_eq_getElem w0,w1];rfl
           have hrL:(rows L)[i]?=some (ownL d):=by rw [rows_get,List.getElem?_eq_getElem hiL,hLi];rfl
           simp [hwl,w1,hi,hLi,hVl,hm0,hm1]
           refine j0e hlk2 rfl rfl (fun _=>by simp) ?_
           simp [hwl]
           exact ⟨by omega,by omega,ExTB.mk (t+m) b ⟨⟨by omega,fun hb=>by rw [← List.map_take,htk,← t2 hb]⟩,by simp⟩⟩
         · rw [if_neg hle] at e1 k1
           clear hcw hfst hLg hcl hcls hlk2 w0 w1 hwl
           generalize digT f.length k V[i]=d at *
           generalize (clsN f s k V[i]).length=m at *
           rcases (by cases o with
            | none=>exact Or.inl rfl
            | some l=>simp only [lso_some] at e1;exact Or.inr (by rw [e1]):o=none∨o=some []) with rfl | rfl
           all_goals
            simp only [ownT] at k1
            simp [hi,hVl,hLi]
            refine j0e k1 rfl rfl (fun _=>by simp) ?_
            simp
            exact ⟨by omega,ExTB.mk t false ⟨⟨by omega,by simp⟩,by simp⟩⟩
       · rintro e ⟨t,b,⟨t1,t2⟩,rfl⟩
         have t2:b=true→t=f.length ^ k:=fun hb=>by rw [t2 hb,List.take_length];exact hsum
         have hN5:f.length ^ k≤5000:=h5
         have hc4:=h159 f s hso.1
         have hc5:=h160 f s hso.1
         obtain ⟨o,e1,hc6⟩:=h20 f s hf hs
         have hfx:fixP f s=fixL f s f.length:=if_pos hso
         have hfc:fixC f s=0:=if_pos hso
         rw [hfx] at e1
         rw [hfc] at hc6
         have hfl:=fixL_len f s f.length
         have hnn:f.length*f.length≤144:=Nat.mul_le_mul n12 n12
         have hch:=h161 f.length k n0 n12 (by omega) h5
         clear hcw hfst hLg hcl hcls hsum
         have hfo:(lso o).length=(fixL f s f.length).length:=by rw [e1]
         have hlo:∀ X,o=some X→X.length=(fixL f s f.length).length:=fun X hX=>by rw [hX] at hfo;simpa using hfo
         have hln:o=none→(fixL f s f.length).length=0:=fun h=>by rw [h] at hfo;simpa using hfo.symm
         have ek:((f.length:Int)+(k:Int)-1)=(f.length:Int)+k-1:=rfl
         clear e1 hfo
         generalize fixL f s f.length=Z at *
         generalize f.length ^ k=N at *
         by_cases hnd:nonDeg f s
         · by_cases hiv:isInv f s
           · obtain ⟨v1,v2⟩:=hinv ⟨hso,hnd⟩ hiv
             rw [decide_eq_true hnd] at hc4
             rw [j1d hiv] at hc5
             rw [← v1] at hch
             cases b with
             | true =>
              have ht:=t2 rfl
              subst ht
              cases o with
              | none =>
               simp only [ownT] at hc6
               simp [hVl]
               refine j0e hc4 rfl rfl (fun _=>rfl) ?_
               simp
               refine j0e hc5 rfl rfl (fun _=>rfl) ?_
               simp
               refine j0e hc6 rfl rfl (fun _=>by simp) ?_
               simp
               have hz:=hln rfl
               omega
              | some X =>
               have hX:=hlo X rfl
               simp only [ownT] at hc6
               simp [hVl]
               refine j0e hc4 rfl rfl (fun _=>rfl) ?_
               simp
               refine j0e hc5 rfl rfl (fun _=>rfl) ?_
               simp
               refine j0e hc6 rfl rfl (fun _=>by simp) ?_
               simp
               refine ⟨by omega,by omega,?_⟩
               refine j0e hch rfl rfl (fun _=>rfl) ?_
               simp [hX,v2]
             | false =>
              cases o with
              | none =>
               simp only [ownT] at hc6
               simp [hVl,j00]
               refine j0e hc4 rfl rfl (fun _=>rfl) ?_
               simp
               refine j0e hc5 rfl rfl (fun _=>rfl) ?_
               simp
               refine j0e hc6 rfl rfl (fun _=>by simp) ?_
               simp
               have hz:=hln rfl
               omega
              | some X =>
               have hX:=hlo X rfl
               simp only [ownT] at hc6
               simp [hVl,j00]
               refine j0e hc4 rfl rfl (fun _=>rfl) ?_
               simp
               refine j0e hc5 rfl rfl (fun _=>rfl) ?_
               simp
               refine j0e hc6 rfl rfl (fun _=>by simp) ?_
               simp
               refine ⟨by omega,by omega,?_⟩
               refine j0e hch rfl rfl (fun _=>rfl) ?_
               simp [hX,v2]
           · rw [decide_eq_true hnd] at hc4
             rw [j02 hiv] at hc5
             cases b with
             | true =>
              have ht:=t2 rfl
              subst ht
              cases o with
              | none =>
               simp only [ownT] at hc6
               simp [hVl]
               refine j0e hc4 rfl rfl (fun _=>rfl) ?_
               simp
               refine j0e hc5 rfl rfl (fun _=>rfl) ?_
               simp
               refine j0e hc6 rfl rfl (fun _=>by simp) ?_
               simp [j00]
              | some X =>
               have hX:=hlo X rfl
               simp only [ownT] at hc6
               simp [hVl]
               refine j0e hc4 rfl rfl (fun _=>rfl) ?_
               simp
               refine j0e hc5 rfl rfl (fun _=>rfl) ?_
               simp
               refine j0e hc6 rfl rfl (fun _=>by simp) ?_
               simp [j00]
             | false =>
              cases o with
              | none =>
               simp only [ownT] at hc6
               simp [hVl,j00]
               refine j0e hc4 rfl rfl (fun _=>rfl) ?_
               simp
               refine j0e hc5 rfl rfl (fun _=>rfl) ?_
               simp
               refine j0e hc6 rfl rfl (fun _=>by simp) ?_
               simp [j00]
              | some X =>
               have hX:=hlo X rfl
               simp only [ownT] at hc6
               simp [hVl,j00]
               refine j0e hc4 rfl rfl (fun _=>rfl) ?_
               simp
               refine j0e hc5 rfl rfl (fun _=>rfl) ?_
               simp
               refine j0e hc6 rfl rfl (fun _=>by simp) ?_
               simp [j00]
         · rw [decide_eq_false hnd] at hc4
           generalize dec (isInv f s)=bi at *
           cases b with
           | true =>
            have ht:=t2 rfl
            subst ht
            cases o with
            | none =>
             simp only [ownT] at hc6
             simp [hVl]
             refine j0e hc4 rfl rfl (fun _=>rfl) ?_
             simp
             refine j0e hc5 rfl rfl (fun _=>rfl) ?_
             simp
             refine j0e hc6 rfl rfl (fun _=>by simp) ?_
             simp [j00]
            | some X =>
             have hX:=hlo X rfl
             simp only [ownT] at hc6
             simp [hVl]
             refine j0e hc4 rfl rfl (fun _=>rfl) ?_
             simp
             refine j0e hc5 rfl rfl (fun _=>rfl) ?_
             simp
             refine j0e hc6 rfl rfl (fun _=>by simp) ?_
             simp [j00]
           | false =>
            cases o with
            | none =>
             simp only [ownT] at hc6
             simp [hVl,j00]
             refine j0e hc4 rfl rfl (fun _=>rfl) ?_
             simp
             refine j0e hc5 rfl rfl (fun _=>rfl) ?_
             simp
             refine j0e hc6 rfl rfl (fun _=>by simp) ?_
             simp [j00]
            | some X =>
             have hX:=hlo X rfl
             simp only [ownT] at hc6
             simp [hVl,j00]
             refine j0e hc4 rfl rfl (fun _=>rfl) ?_
             simp
             refine j0e hc5 rfl rfl (fun _=>rfl) ?_
             simp
             refine j0e hc6 rfl rfl (fun _=>by simp) ?_
             simp [j00]
   · have e1:nmR f s p=[]:=nm_ne h0
     have e2:nmO f s p=none:=by
      unfold nmO
      rw [if_neg fun h=>h0 (by
       unfold nmC
       rw [if_pos h.1,if_pos h.2.1,if_pos h.2.2])]
     rw [e1] at hc1
     rw [e2] at hc2
     have hlk:Call pg 137 [nil,nil] [nil,nil] (B true):=by simpa [rawT] using h137 .no .no ⟨by simp,by simp⟩
     simp only [rowN,if_pos,fshT] at hc1 hc2
     generalize nmC f s p=cd at *
     simp
     refine j0e hc1 rfl rfl (fun _=>by simp) ?_
     simp
     refine j0e hc2 rfl rfl (fun _=>by simp) ?_
     simp
     refine j0e hlk rfl rfl (fun _=>by simp) ?_
     simp [h0]
end Go.Mch
