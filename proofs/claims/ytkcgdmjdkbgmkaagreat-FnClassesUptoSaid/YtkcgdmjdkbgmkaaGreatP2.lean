/- Our texts YjD YjE YjU YjF YjG YjW YjX YkA YkB YkD YkE YkF YkH YkM YlB YjA YlC YlD YlE YlF YlG YlH YlI YlX YlK YlN YmC YnI YpC YpA YpD YnA YnB YnC YgD YnG YnJ YoG YpE,end to end. -/
import Derived.Test.YtkcgdmjdkbgmkaaGreatP1
import Derived.Test.YtkcgdmjdkbgmkaaGreatYeD
import Derived.Test.YtkcgdmjdkbgmkaaGreatYeH
import Derived.Test.YtkcgdmjdkbgmkaaGreatM4
import Derived.Test.YtkcgdmjdkbgmkaaGreatYeG
import Derived.Test.YtkcgdmjdkbgmkaaGreatYeB
namespace Go.Mch

theorem Srt.ins {X:List (List Int)} {w:List Int} {i:Nat} (h:Srt X) (h1:∀ j (hj:j<X.length),j<i→cmpL X[j] w<0) (h2:∀ j (hj:j<X.length),i≤j→cmpL w X[j]<0):Srt (X.take i++w::X.drop i):=by
 refine List.pairwise_append.2 ⟨h.sublist (List.take_sublist _ _),List.pairwise_cons.2 ⟨fun b hb=>?_,h.sublist (List.drop_sublist _ _)⟩,fun a ha b hb=>?_⟩
 · obtain ⟨k,hk,rfl⟩:=List.getElem_of_mem hb
   simp only [List.length_drop] at hk
   rw [List.getElem_drop]
   exact h2 _ (by omega) (by omega)
 · obtain ⟨k,hk,rfl⟩:=List.getElem_of_mem ha
   simp only [List.length_take] at hk
   rw [List.getElem_take]
   rcases List.mem_cons.1 hb with rfl | hb
   · exact h1 _ (by omega) (by omega)
   · obtain ⟨m,hm,rfl⟩:=List.getElem_of_mem hb
     simp only [List.length_drop] at hm
     rw [List.getElem_drop]
     exact h.lt (by omega) (by omega)
theorem thr (n:Nat) (P:Nat→Prop):(∀ j k,j≤k→k<n→P k→P j)→∃ i,i≤n∧(∀ j,j<n→j<i→P j)∧∀ j,j<n→i≤j→¬P j:=by
 induction n with
 | zero=>intro _;exact ⟨0,by omega,fun j h=>by omega,fun j h=>by omega⟩
 | succ n ih =>
  intro h
  by_cases hp:P n
  · exact ⟨n+1,by omega,fun j hj _=>h j n (by omega) (by omega) hp,fun j hj h2=>by omega⟩
  · obtain ⟨i,h1,h2,h3⟩:=ih fun j k hjk hk=>h j k hjk (by omega)
    refine ⟨i,by omega,fun j hj hi=>h2 j (by omega) hi,fun j hj hi=>?_⟩
    by_cases hjn:j=n
    · subst hjn;exact hp
    · exact h3 j (by omega) hi
structure At (X:List (List Int)) (w:List Int) (i:Nat):Prop where
 le:i≤X.length
 lo:∀ j (hj:j<X.length),j<i→cmpL X[j] w<0
 hi:∀ j (hj:j<X.length),i≤j→¬cmpL X[j] w<0
def S_put (pg:Pg):Prop:=∀ (X:List (List Int)) (w:List Int),Srt X→X.length≤1000000→(∀ x∈X,x.length≤1048576)→w.length≤1048576→∃ (X':List (List Int)) (b:Bool) (args':List T),Srt X'∧(∀ x,x∈X'↔x∈X∨x=w)∧(b=true↔w ∉ X)∧X'.length≤X.length+1∧args'.length=2∧Call pg 349 [.mem .own (some 1) (tbL X),ix w] args' (.tup [.mem .own (some 1) (tbL X'),B b])
theorem Srt.at {X:List (List Int)} (h:Srt X) (w:List Int):∃ i,At X w i:=by
 obtain ⟨i,h1,h2,h3⟩:=thr X.length (fun j=>cmpL (X.getD j []) w<0) fun j k hjk hk hp=>by
  by_cases he:j=k
  · subst he;exact hp
  · have hj:j<X.length:=by omega
    have:=h.lt hk (show j<k by omega)
    simp only [List.getD_eq_getElem?_getD,List.getElem?_eq_getElem hk,List.getElem?_eq_getElem hj,Option.getD_some] at hp ⊢
    exact cmpL_trans _ _ _ this hp
 refine ⟨i,h1,fun j hj hl=>?_,fun j hj hl=>?_⟩
 · have:=h2 j hj hl
   simpa [hj] using this
 · have:=h3 j hj hl
   simpa [hj] using this
theorem At.mem {X:List (List Int)} {w:List Int} {i:Nat} (h:At X w i) (hs:Srt X):w∈X↔∃ hi:i<X.length,X[i]=w:=by
 constructor
 · intro hm
   obtain ⟨j,hj,rfl⟩:=List.getElem_of_mem hm
   have hij:i≤j:=by
    refine Classical.byContradiction fun hn=>?_
    have:=h.lo j hj (by omega)
    have z:=(cmpL_zero X[j] X[j]).2 rfl
    omega
   by_cases he:i=j
   · subst he;exact ⟨hj,rfl⟩
   · exact absurd (hs.lt hj (by omega)) (h.hi i (by omega) (Nat.le_refl _))
 · rintro ⟨hi,rfl⟩
   exact List.getElem_mem hi
theorem At.ins {X:List (List Int)} {w:List Int} {i:Nat} (h:At X w i) (hs:Srt X) (hn:w ∉ X):Srt (X.take i++w::X.drop i):=by
 refine hs.ins h.lo fun j hj hij=>?_
 have h1:=h.hi j hj hij
 have h2:=cmpL_neg X[j] w
 have h3:cmpL X[j] w≠0:=fun hz=>hn (by rw [← (cmpL_zero _ _).1 hz];exact List.getElem_mem hj)
 omega
def shf (X:List (List Int)) (z:List Int) (q:Nat):List (List Int):=X.take q++z::X.drop q
theorem shf_length (X:List (List Int)) (z:List Int) {q:Nat} (h:q≤X.length):(shf X z q).length=X.length+1:=by simp [shf];omega
theorem shf_get (X:List (List Int)) (z:List Int) {r:Nat} (h:r<X.length):(shf X z (r+1))[r]?=some X[r]:=by
 rw [shf,List.getElem?_append_left (by simp;omega),List.getElem?_take_of_lt (by omega),List.getElem?_eq_getElem h]
theorem shf_set (X:List (List Int)) (z:List Int) {r:Nat} (h:r<X.length):(shf X z (r+1)).set (r+1) X[r]=shf X X[r] r:=by
 have hl:(X.take (r+1)).length=r+1:=by simp;omega
 rw [shf,List.set_append_right _ _ (by omega),hl,Nat.sub_self,List.set_cons_zero,shf,List.take_succ_eq_append_getElem h,List.drop_eq_getElem_cons h,List.append_assoc]
 rfl
theorem tbL_set (X:List (List Int)) (i:Nat) (v:List Int):tbL (X.set i v)=(tbL X).set i (ix v):=by simp [tbL,List.map_set]
theorem shf_fin (X:List (List Int)) (z w:List Int) {q:Nat} (h:q≤X.length):(shf X z q).set q w=X.take q++w::X.drop q:=by
 have hl:(X.take q).length=q:=by simp;omega
 rw [shf,List.set_append_right _ _ (by omega),hl,Nat.sub_self,List.set_cons_zero]
set_option maxRecDepth 10000 in
theorem t_l01Put {pg:Pg} (hp:pg.fn 349=some c_spec_l01Put) (h408:S_less pg) (h67:S_same pg):S_put pg:=by
 intro X w hs hl hr hw
 obtain ⟨i,hi⟩:=hs.at w
 have hmem:=hi.mem hs
 have hle:=hi.le
 have hlets:∀ a b:T,c_spec_l01Put.lets [a,b]=true:=fun a b=>by simp [F.lets,c_spec_l01Put,List.range,List.range.loop]
 by_cases hm:w∈X
 · obtain ⟨hiX,hXi⟩:=hmem.1 hm
   refine ⟨X,false,[.gone,ix w],hs,fun x=>⟨.inl,fun h=>h.elim id fun h=>h▸hm⟩,by simp [hm],by omega,rfl,Call.intro_own hp rfl (hlets _ _) ?_⟩
   show wp _ _ c_spec_l01Put.body (post [.t 4,.t 5] _ _ _) _
   simp [c_spec_l01Put,kindOf]
   refine wpLoop_lower (α:=Nat×Nat) (fun z=>z.2-z.1) (fun z e=>(z.1≤i∧i≤z.2∧z.2≤X.length)∧e=fr [(0,some (.val (.mem .own (some 1) (tbL X)))),(1,some (.val (ix w))),(6,some (.val (I z.1))),(7,some (.val (I z.2)))]) ?_ (0,X.length) _ ⟨⟨by simp,hle,by simp⟩,by simp⟩
   rintro ⟨lo,hI⟩ e ⟨⟨g1,g2,g3⟩,rfl⟩
   simp only at g1 g2 g3
   by_cases hlt:lo<hI
   · have hdiv:((lo:Int)+hI).tdiv 2=(((lo+hI) / 2:Nat):Int):=by
      rw [Int.tdiv_eq_ediv_of_nonneg (by omega)];omega
     have hmid:(lo+hI) / 2<X.length:=by omega
     have hlow:=hi.lo _ hmid
     have hhi:=hi.hi _ hmid
     have hmr:=hr _ (List.getElem_mem hmid)
     generalize hM:(lo+hI) / 2=M at *
     have hcl:=h408 X[M] w hmr
     have hcase:cmpL X[M] w<0↔M<i:=⟨fun hc=>Classical.byContradiction fun hn=>hhi (by omega) hc,hlow⟩
     simp [hlt,hdiv,hmid]
     refine ⟨by omega,by omega,?_⟩
     refine callR hcl rfl rfl (fun _=>rfl) ?_
     by_cases hc:cmpL X[M] w<0
     · have hMi:=hcase.1 hc
       simp [hc]
       exact ⟨by omega,M+1,hI,by omega,⟨by omega,by omega,by omega⟩,by simp⟩
     · have hMi:¬M<i:=fun hh=>hc (hcase.2 hh)
       simp [hc]
       exact ⟨lo,M,by omega,⟨by omega,by omega,by omega⟩,by simp⟩
   · have hlo:lo=i:=by omega
     have hhi:hI=i:=by omega
     subst hlo hhi
     have hsame:=h67 X[hI] w (hr _ (List.getElem_mem hiX))
     simp [hiX]
     refine callR hsame rfl rfl (fun _=>rfl) ?_
     simp [hXi]
 · have hX':Srt (X.take i++w::X.drop i):=hi.ins hs hm
   refine ⟨X.take i++w::X.drop i,true,[.gone,ix w],hX',fun x=>?_,by simp [hm],by simp;omega,rfl,Call.intro_own hp rfl (hlets _ _) ?_⟩
   · rw [List.mem_append,List.mem_cons]
     constructor
     · rintro (h1 | h1 | h1)
       · exact .inl (List.mem_of_mem_take h1)
       · exact .inr h1
       · exact .inl (List.mem_of_mem_drop h1)
     · rintro (h1 | h1)
       · rw [← List.take_append_drop i X] at h1
         rcases List.mem_append.1 h1 with h2 | h2
         · exact .inl h2
         · exact .inr (.inr h2)
       · exact .inr (.inl h1)
   show wp _ _ c_spec_l01Put.body (post [.t 4,.t 5] _ _ _) _
   simp [c_spec_l01Put,kindOf]
   refine wpLoop_lower (α:=Nat×Nat) (fun z=>z.2-z.1) (fun z e=>(z.1≤i∧i≤z.2∧z.2≤X.length)∧e=fr [(0,some (.val (.mem .own (some 1) (tbL X)))),(1,some (.val (ix w))),(6,some (.val (I z.1))),(7,some (.val (I z.2)))]) ?_ (0,X.length) _ ⟨⟨by simp,hle,by simp⟩,by simp⟩
   rintro ⟨lo,hI⟩ e ⟨⟨g1,g2,g3⟩,rfl⟩
   simp only at g1 g2 g3
   by_cases hlt:lo<hI
   · have hdiv:((lo:Int)+hI).tdiv 2=(((lo+hI) / 2:Nat):Int):=by
      rw [Int.tdiv_eq_ediv_of_nonneg (by omega)];omega
     have hmid:(lo+hI) / 2<X.length:=by omega
     have hlow:=hi.lo _ hmid
     have hhi:=hi.hi _ hmid
     have hmr:=hr _ (List.getElem_mem hmid)
     generalize hM:(lo+hI) / 2=M at *
     have hcl:=h408 X[M] w hmr
     have hcase:cmpL X[M] w<0↔M<i:=⟨fun hc=>Classical.byContradiction fun hn=>hhi (by omega) hc,hlow⟩
     simp [hlt,hdiv,hmid]
     refine ⟨by omega,by omega,?_⟩
     refine callR hcl rfl rfl (fun _=>rfl) ?_
     by_cases hc:cmpL X[M] w<0
     · have hMi:=hcase.1 hc
       simp [hc]
       exact ⟨by omega,M+1,hI,by omega,⟨by omega,by omega,by omega⟩,by simp⟩
     · have hMi:¬M<i:=fun hh=>hc (hcase.2 hh)
       simp [hc]
       exact ⟨lo,M,by omega,⟨by omega,by omega,by omega⟩,by simp⟩
   · have hlo:lo=i:=by omega
     have hhi:hI=i:=by omega
     subst hlo hhi
     have hl2:X.length+1≤roomy:=by unfold roomy;omega
     have htk:X.take X.length=X:=List.take_length
     by_cases hiX:hI<X.length
     · have hne:X[hI]≠w:=fun hh=>hm (hmem.2 ⟨hiX,hh⟩)
       have hsame:=h67 X[hI] w (hr _ (List.getElem_mem hiX))
       simp [hiX]
       refine callR hsame rfl rfl (fun _=>rfl) ?_
       simp [hne,hl2]
       refine ⟨by omega,?_⟩
       refine wpLoop_lower (α:=Nat×List Int) (fun z=>z.1) (fun z e=>(hI≤z.1∧z.1≤X.length)∧e=fr [(0,none),(1,some (.val (ix w))),(6,some (.val (I hI))),(9,some (.val (.mem .own (some 1) (tbL (shf X z.2 z.1))))),(10,some (.val (I z.1)))]) ?_ (X.length,w) _ ⟨⟨by simp;omega,by simp⟩,by simp [shf,tbL_append];simp [tbL]⟩
       rintro ⟨q,z⟩ e ⟨⟨k1,k2⟩,rfl⟩
       simp only at k1 k2
       have hYl:=shf_length X z k2
       by_cases hq:hI<q
       · obtain ⟨r,rfl⟩:∃ r,q=r+1:=⟨q-1,by omega⟩
         have hrX:r<X.length:=by omega
         have hYr:=shf_get X z hrX
         have hYs:=shf_set X z hrX
         generalize shf X z (r+1)=Y at *
         have hrY:r<Y.length:=by omega
         have hrY1:r+1<Y.length:=by omega
         have hYr:Y[r]=X[r]:=by rw [List.getElem?_eq_getElem hrY] at hYr;exact Option.some.inj hYr
         have hq':(hI:Int)<(r:Int)+1:=by omega
         simp [hq',hrY,hrY1,hYr]
         exact ⟨by omega,by omega,by omega,by omega,r,by omega,⟨by omega,by omega⟩,X[r],by rw [← hYs,tbL_set]⟩
       · have hqe:q=hI:=by omega
         subst hqe
         have hfin:=shf_fin X z w k2
         generalize shf X z q=Y at *
         have hqY:q<Y.length:=by omega
         rw [← hfin]
         rw [tbL_set]
         simp [hqY]
         omega
     · simp [hiX,undefV,hl2]
       refine ⟨by omega,?_⟩
       refine wpLoop_lower (α:=Nat×List Int) (fun z=>z.1) (fun z e=>(hI≤z.1∧z.1≤X.length)∧e=fr [(0,none),(1,some (.val (ix w))),(6,some (.val (I hI))),(9,some (.val (.mem .own (some 1) (tbL (shf X z.2 z.1))))),(10,some (.val (I z.1)))]) ?_ (X.length,w) _ ⟨⟨by simp;omega,by simp⟩,by simp [shf,tbL_append];simp [tbL]⟩
       rintro ⟨q,z⟩ e ⟨⟨k1,k2⟩,rfl⟩
       simp only at k1 k2
       have hYl:=shf_length X z k2
       by_cases hq:hI<q
       · obtain ⟨r,rfl⟩:∃ r,q=r+1:=⟨q-1,by omega⟩
         have hrX:r<X.length:=by omega
         have hYr:=shf_get X z hrX
         have hYs:=shf_set X z hrX
         generalize shf X z (r+1)=Y at *
         have hrY:r<Y.length:=by omega
         have hrY1:r+1<Y.length:=by omega
         have hYr:Y[r]=X[r]:=by rw [List.getElem?_eq_getElem hrY] at hYr;exact Option.some.inj hYr
         have hq':(hI:Int)<(r:Int)+1:=by omega
         simp [hq',hrY,hrY1,hYr]
         exact ⟨by omega,by omega,by omega,by omega,r,by omega,⟨by omega,by omega⟩,X[r],by rw [← hYs,tbL_set]⟩
       · have hqe:q=hI:=by omega
         subst hqe
         have hfin:=shf_fin X z w k2
         generalize shf X z q=Y at *
         have hqY:q<Y.length:=by omega
         rw [← hfin]
         rw [tbL_set]
         simp [hqY]
         omega
end Go.Mch
namespace Go.Mch

def GR (ms:List (List Int)) (n:Nat) (x:List Int):Prop:=∀ S:List Int→Prop,S (idL n)→(∀ y,S y→∀ p∈ms,S (thenL y p))→S x
structure Grp (ms:List (List Int)) (n:Nat) (X:List (List Int)):Prop where
 srt:Srt X
 mem:∀ x,x∈X↔GR ms n x
theorem Srt.nodup {X:List (List Int)} (h:Srt X):X.Nodup:=h.imp fun {a b} hab he=>by
 subst he
 have:=(cmpL_zero a a).2 rfl
 omega
theorem Srt.unique:∀ {X Y:List (List Int)},Srt X→Srt Y→(∀ x,x∈X↔x∈Y)→X=Y
 | [],[],_,_,_=>rfl
 | [],y::Y,_,_,h=>by have:=(h y).2 (by simp);cases this
 | x::X,[],_,_,h=>by have:=(h x).1 (by simp);cases this
 | x::X,y::Y,hx,hy,h=>by
  have hx1:=List.pairwise_cons.1 hx
  have hy1:=List.pairwise_cons.1 hy
  have hxy:x=y:=by
   refine Classical.byContradiction fun hne=>?_
   have m1:x∈Y:=by
    have:=(h x).1 (by simp)
    rcases List.mem_cons.1 this with e | e
    · exact absurd e hne
    · exact e
   have m2:y∈X:=by
    have:=(h y).2 (by simp)
    rcases List.mem_cons.1 this with e | e
    · exact absurd e.symm hne
    · exact e
   have a1:=hy1.1 x m1
   have a2:=hx1.1 y m2
   have a3:=cmpL_neg x y
   omega
  subst hxy
  have:X=Y:=Srt.unique hx1.2 hy1.2 fun z=>by
   have hz:=h z
   have n1:x ∉ X:=fun hm=>by
    have:=hx1.1 x hm
    have z0:=(cmpL_zero x x).2 rfl
    omega
   have n2:x ∉ Y:=fun hm=>by
    have:=hy1.1 x hm
    have z0:=(cmpL_zero x x).2 rfl
    omega
   by_cases hzx:z=x
   · subst hzx;simp [n1,n2]
   · simpa [hzx] using hz
  rw [this]
theorem len_of_same {X Y:List (List Int)} (h1:X.Nodup) (h2:Y.Nodup) (h:∀ x,x∈X↔x∈Y):X.length=Y.length :=
 Nat.le_antisymm (len_le_of_sub X Y h1 fun x hx=>(h x).1 hx) (len_le_of_sub Y X h2 fun x hx=>(h x).2 hx)
end Go.Mch
namespace Go.Mch

section
variable (mv:List Int→Nat→List Int) (m:Nat) (w:List Int)
def TR (x:List Int):Prop:=∀ C:List Int→Prop,C w→(∀ y,C y→∀ i,i<m→C (mv y i))→C x
theorem TR.start:TR mv m w w:=fun _ h _=>h
theorem TR.step {x:List Int} (h:TR mv m w x) {i:Nat} (hi:i<m):TR mv m w (mv x i):=fun C h1 h2=>h2 _ (h C h1 h2) i hi
structure TF (Q:List (List Int)):Prop where
 w0:w∈Q
 nd:Q.Nodup
 gr:∀ x∈Q,TR mv m w x
structure TB (Q:List (List Int)) (a k:Nat):Prop where
 f:TF mv m w Q
 cl:∀ i (h:i<Q.length),i<a→∀ p,p<m→mv Q[i] p∈Q
 cur:∀ h:a<Q.length,∀ p,p<k→mv Q[a] p∈Q
theorem TB.start:TB mv m w [w] 0 0:=⟨⟨by simp,by simp,fun x hx=>by rw [List.mem_singleton] at hx;subst hx;exact TR.start mv m x⟩,fun i h hi=>by omega,fun h p hp=>by omega⟩
variable {mv m w}
theorem TB.old {Q:List (List Int)} {a k:Nat} (h:TB mv m w Q a k) (ha:a<Q.length) (hin:mv Q[a] k∈Q):TB mv m w Q a (k+1) :=
 ⟨h.f,h.cl,fun h1 p hp=>by
  by_cases hpk:p=k
  · subst hpk;exact hin
  · exact h.cur h1 p (by omega)⟩
theorem TF.new {Q:List (List Int)} {a k:Nat} (h:TF mv m w Q) (ha:a<Q.length) (hk:k<m) (hin:mv Q[a] k ∉ Q):TF mv m w (Q++[mv Q[a] k]) :=
 ⟨List.mem_append.2 (.inl h.w0),by
  rw [List.nodup_append]
  exact ⟨h.nd,by simp,fun x hx y hy hxy=>by
   rw [List.mem_singleton] at hy
   exact hin (by rw [← hy,← hxy];exact hx)⟩,fun x hx=>by
  rcases List.mem_append.1 hx with hx | hx
  · exact h.gr x hx
  · rw [List.mem_singleton] at hx
    subst hx
    exact (h.gr _ (List.getElem_mem ha)).step mv m w hk⟩
theorem TB.new {Q:List (List Int)} {a k:Nat} (h:TB mv m w Q a k) (ha:a<Q.length) (hk:k<m) (hin:mv Q[a] k ∉ Q):TB mv m w (Q++[mv Q[a] k]) a (k+1) :=
 ⟨h.f.new ha hk hin,fun i hi hia p hp=>by
  have hl:i<Q.length:=by omega
  rw [List.getElem_append_left hl]
  exact List.mem_append.2 (.inl (h.cl i hl hia p hp)),fun h1 p hp=>by
  rw [List.getElem_append_left ha]
  by_cases hpk:p=k
  · subst hpk;exact List.mem_append.2 (.inr (by simp))
  · exact List.mem_append.2 (.inl (h.cur ha p (by omega)))⟩
theorem TB.up {Q:List (List Int)} {a:Nat} (h:TB mv m w Q a m) (ha:a<Q.length):TB mv m w Q (a+1) 0 :=
 ⟨h.f,fun i hi hia p hp=>by
  by_cases he:i=a
  · subst he;exact h.cur ha p hp
  · exact h.cl i hi (by omega) p hp,fun h1 p hp=>by omega⟩
theorem TB.all {Q:List (List Int)} {a:Nat} (h:TB mv m w Q a 0) (ha:¬a<Q.length) (x:List Int) (hx:TR mv m w x):x∈Q :=
 hx (fun y=>y∈Q) h.f.w0 fun y hy i hi=>by
  obtain ⟨j,hj,rfl⟩:=List.getElem_of_mem hy
  exact h.cl j hj (by omega) i hi
variable (mv m w)
def Orb (S:List (List Int)):Prop:=Srt S∧∀ x,x∈S↔TR mv m w x
noncomputable def orbO (lim:Nat):Option (List (List Int)):=by
 classical exact if h:∃ S,Orb mv m w S∧S.length≤lim then some (Classical.choose h) else none
variable {mv m w}
theorem Orb.unique {S S':List (List Int)} (h:Orb mv m w S) (h':Orb mv m w S'):S=S':=Srt.unique h.1 h'.1 fun x=>(h.2 x).trans (h'.2 x).symm
theorem orbO_some {S:List (List Int)} {lim:Nat} (h:Orb mv m w S) (hl:S.length≤lim):orbO mv m w lim=some S:=by
 have hx:∃ S,Orb mv m w S∧S.length≤lim:=⟨S,h,hl⟩
 unfold orbO
 rw [dif_pos hx]
 exact congrArg some ((Classical.choose_spec hx).1.unique h)
theorem orbO_none {Q:List (List Int)} {lim:Nat} (h:TF mv m w Q) (hl:lim<Q.length):orbO mv m w lim=none:=by
 unfold orbO
 rw [dif_neg]
 rintro ⟨S,⟨h1,h2⟩,h3⟩
 have:=len_le_of_sub Q S h.nd fun x hx=>(h2 x).2 (h.gr x hx)
 omega
theorem orbO_spec {S:List (List Int)} {lim:Nat} (h:orbO mv m w lim=some S):Orb mv m w S∧S.length≤lim:=by
 unfold orbO at h
 split at h
 · rename_i hx
   rw [← Option.some.inj h]
   exact Classical.choose_spec hx
 · cases h
end
end Go.Mch
namespace Go.Mch

def ExT (P:List (List Int)→Prop):Prop:=∃ Q,P Q
theorem ExT.mk {P:List (List Int)→Prop} (Q:List (List Int)) (h:P Q):ExT P:=⟨Q,h⟩
structure BF (ms:List (List Int)) (n:Nat) (Q:List (List Int)) (i k:Nat):Prop where
 nd:Q.Nodup
 gr:∀ x∈Q,GR ms n x
 id:idL n∈Q
 dn:∀ j (hj:j<Q.length),j<i→∀ p∈ms,thenL Q[j] p∈Q
 dk:∀ hi:i<Q.length,∀ p∈ms.take k,thenL Q[i] p∈Q
 le:Q.length≤1000
end Go.Mch
namespace Go.Mch

def rowsF (X:List (List Int)):List T:=X.map fun xs=>.mem .fresh (some 1) (xs.map I)
@[simp] theorem rowsF_length (X:List (List Int)):(rowsF X).length=X.length:=by simp [rowsF]
@[simp] theorem noOwnL_rowsF (X:List (List Int)):T.noOwnL (rowsF X)=true:=by
 induction X with
 | nil=>rfl
 | cons x X ih=>simp only [rowsF,List.map_cons] at ih ⊢;simp [ih]
@[simp] theorem eryL_rowsF (X:List (List Int)):T.eryL .old (rowsF X)=tbL X:=by
 induction X with
 | nil=>rfl
 | cons x X ih=>simp only [rowsF,tbL,List.map_cons] at ih ⊢;simp [ih]
@[simp] theorem rowsF_getElem {X:List (List Int)} {k:Nat} (h:k<(rowsF X).length):(rowsF X)[k]=.mem .fresh (some 1) ((X[k]'(by simpa using h)).map I):=by simp [rowsF]
theorem rowsF_snoc (X:List (List Int)) (w:List Int):rowsF (X++[w])=rowsF X++[.mem .fresh (some 1) (w.map I)]:=by simp [rowsF]
def Rds (ts:List T) (X:List (List Int)):Prop:=T.eryL .old ts=tbL X∧T.noOwnL ts=true∧T.lendL ts=tbL X∧ts.length=X.length
theorem Rds.fresh (X:List (List Int)):Rds (rowsF X) X:=⟨by simp,by simp,by
 induction X with
 | nil=>rfl
 | cons x X ih=>simp only [rowsF,tbL,List.map_cons] at ih ⊢;simp [ih],by simp⟩
theorem Rds.old (X:List (List Int)):Rds (tbL X) X:=⟨by simp,by simp,by
 induction X with
 | nil=>rfl
 | cons x X ih=>simp only [tbL,List.map_cons] at ih ⊢;simp [ih],by simp⟩
def ExTT (P:List (List Int)→List (List Int)→List T→Prop):Prop:=∃ F S ts,P F S ts
theorem ExTT.mk {P:List (List Int)→List (List Int)→List T→Prop} (F S:List (List Int)) (ts:List T) (h:P F S ts):ExTT P:=⟨F,S,ts,h⟩
def grpT:Option (List (List Int))→T
 | some X=>.tup [.mem .own (some 1) (rows X),B true]
 | none=>.tup [nil,B false]

end Go.Mch
namespace Go.Mch

def cd3:Option (List (List Int))→Int
 | some _=>0
 | none=>3
theorem dj_of {Q:List (List Int)} (h:Q.Nodup):Dj Q:=fun k k' hk hk' he=>by
 rw [← gt_at hk,← gt_at hk'] at he
 have:=List.pairwise_iff_getElem.1 h
 rcases Nat.lt_trichotomy k k' with h1 | h1 | h1
 · exact absurd he (this k k' hk hk' h1)
 · exact h1
 · exact absurd he.symm (this k' k hk' hk h1)
end Go.Mch
namespace Go.Mch

theorem dm_pair {n x y:Nat} (hy:y<n):(x*n+y) / n=x∧(x*n+y) % n=y:=by
 have hn:0<n:=by omega
 refine ⟨?_,?_⟩
 · rw [Nat.mul_comm,Nat.mul_add_div hn,Nat.div_eq_of_lt hy,Nat.add_zero]
 · rw [Nat.mul_comm,Nat.mul_add_mod,Nat.mod_eq_of_lt hy]
theorem pair_lt {n x y:Nat} (hx:x<n) (hy:y<n):x*n+y<n*n:=by
 have:(x+1)*n≤n*n:=Nat.mul_le_mul_right n hx
 rw [Nat.add_mul] at this
 omega
theorem inj_pair {f s:List (List Int)} (hi:Inj f s) {x y x' y':Nat} (hx:x<f.length) (hy:y<f.length) (hx':x'<f.length) (hy':y'<f.length) (h1:v2 f x y=v2 f x' y') (h2:v2 s x y=v2 s x' y'):x=x'∧y=y':=by
 have hp:=dm_pair (x:=x) hy
 have hp':=dm_pair (x:=x') hy'
 by_cases he:x*f.length+y=x'*f.length+y'
 · exact ⟨by rw [← hp.1,he,hp'.1],by rw [← hp.2,he,hp'.2]⟩
 · exact absurd ⟨he,by rw [hp.1,hp.2,hp'.1,hp'.2];exact h1,by rw [hp.1,hp.2,hp'.1,hp'.2];exact h2⟩ (hi _ (pair_lt hx hy) _ (pair_lt hx' hy'))
theorem sur_pair {f s:List (List Int)} (h:PM f s) (hi:Inj f s) {a b:Nat} (ha:a<f.length) (hb:b<f.length):∃ x y,x<f.length∧y<f.length∧v2 f x y=a∧v2 s x y=b:=by
 have r1:∀ x y:Nat,0≤v2 f x y∧v2 f x y<f.length:=fun x y=>by simpa [g2] using h.gF x y
 have r2:∀ x y:Nat,0≤v2 s x y∧v2 s x y<f.length:=fun x y=>by simpa [g2] using h.gS x y
 have hs:=surj_of_inj (n:=f.length*f.length) (g:=fun p=>(v2 f (p / f.length) (p % f.length)).toNat*f.length+(v2 s (p / f.length) (p % f.length)).toNat) (fun p _=>by
  have:=r1 (p / f.length) (p % f.length)
  have:=r2 (p / f.length) (p % f.length)
  exact pair_lt (by omega) (by omega)) (fun p p' hp hp' he=>by
  have hd:=dm_lt hp
  have hd':=dm_lt hp'
  have q1:=r1 (p / f.length) (p % f.length)
  have q2:=r2 (p / f.length) (p % f.length)
  have q1':=r1 (p' / f.length) (p' % f.length)
  have q2':=r2 (p' / f.length) (p' % f.length)
  have u:=dm_pair (n:=f.length) (x:=(v2 f (p / f.length) (p % f.length)).toNat) (y:=(v2 s (p / f.length) (p % f.length)).toNat) (by omega)
  have u':=dm_pair (n:=f.length) (x:=(v2 f (p' / f.length) (p' % f.length)).toNat) (y:=(v2 s (p' / f.length) (p' % f.length)).toNat) (by omega)
  rw [he] at u
  have e1:=u.1.symm.trans u'.1
  have e2:=u.2.symm.trans u'.2
  have:=inj_pair hi hd.1 hd.2 hd'.1 hd'.2 (by omega) (by omega)
  rw [← Nat.div_add_mod p f.length,← Nat.div_add_mod p' f.length,this.1,this.2])
 obtain ⟨p,hp,he⟩:=hs _ (pair_lt ha hb)
 have hd:=dm_lt hp
 have q1:=r1 (p / f.length) (p % f.length)
 have q2:=r2 (p / f.length) (p % f.length)
 have u:=dm_pair (n:=f.length) (x:=(v2 f (p / f.length) (p % f.length)).toNat) (y:=(v2 s (p / f.length) (p % f.length)).toNat) (by omega)
 have u':=dm_pair (n:=f.length) (x:=a) hb
 rw [he] at u
 have e1:=u.1.symm.trans u'.1
 have e2:=u.2.symm.trans u'.2
 exact ⟨_,_,hd.1,hd.2,by omega,by omega⟩
end Go.Mch
namespace Go.Mch

def pre (f s:List (List Int)) (u v:Nat) (x y:Nat):Prop:=x<f.length∧y<f.length∧σN f x y=u∧τN s y x=v
noncomputable def preX (f s:List (List Int)) (u v:Nat):Nat:=by
 classical exact if h:∃ x,∃ y,pre f s u v x y then Classical.choose h else 0
noncomputable def preY (f s:List (List Int)) (u v:Nat):Nat:=by
 classical exact if h:∃ y,∃ x,pre f s u v x y then Classical.choose h else 0
theorem pre_uniq {f s:List (List Int)} (h:PM f s) (hi:Inj f s) {u v x y x' y':Nat} (h1:pre f s u v x y) (h2:pre f s u v x' y'):x=x'∧y=y':=by
 obtain ⟨a1,a2,a3,a4⟩:=h1
 obtain ⟨b1,b2,b3,b4⟩:=h2
 have e1:=h.v2f x y
 have e2:=h.v2f x' y'
 have e3:=h.v2s x y
 have e4:=h.v2s x' y'
 exact inj_pair hi a1 a2 b1 b2 (by omega) (by omega)
theorem pre_eq {f s:List (List Int)} (h:PM f s) (hi:Inj f s) {u v x y:Nat} (h1:pre f s u v x y):preX f s u v=x∧preY f s u v=y:=by
 have hx:∃ x,∃ y,pre f s u v x y:=⟨x,y,h1⟩
 have hy:∃ y,∃ x,pre f s u v x y:=⟨y,x,h1⟩
 constructor
 · unfold preX
   rw [dif_pos hx]
   obtain ⟨y',h2⟩:=Classical.choose_spec hx
   exact (pre_uniq h hi h2 h1).1
 · unfold preY
   rw [dif_pos hy]
   obtain ⟨y',h2⟩:=Classical.choose_spec hy
   exact (pre_uniq h hi h2 h1).2
theorem pre_ex {f s:List (List Int)} (h:PM f s) (hi:Inj f s) {u v:Nat} (hu:u<f.length) (hv:v<f.length):∃ x y,pre f s u v x y:=by
 obtain ⟨x,y,h1,h2,h3,h4⟩:=sur_pair h hi hu hv
 have e1:=h.v2f x y
 have e3:=h.v2s x y
 exact ⟨x,y,h1,h2,by omega,by omega⟩
theorem pre_self {f s:List (List Int)} (h:PM f s) (hi:Inj f s) {u v:Nat} (hu:u<f.length) (hv:v<f.length):pre f s u v (preX f s u v) (preY f s u v):=by
 obtain ⟨x,y,h1⟩:=pre_ex h hi hu hv
 have:=pre_eq h hi h1
 rw [this.1,this.2]
 exact h1
theorem pre_at {f s:List (List Int)} (h:PM f s) (hi:Inj f s) {x y:Nat} (hx:x<f.length) (hy:y<f.length):preX f s (σN f x y) (τN s y x)=x∧preY f s (σN f x y) (τN s y x)=y:=pre_eq h hi ⟨hx,hy,rfl,rfl⟩

noncomputable def invF (f s:List (List Int)):List (List Int):=tabL f.length fun u v=>(preX f s u v:Int)
noncomputable def invS (f s:List (List Int)):List (List Int):=tabL f.length fun u v=>(preY f s u v:Int)
@[simp] theorem invF_length (f s:List (List Int)):(invF f s).length=f.length:=by simp [invF]
@[simp] theorem invS_length (f s:List (List Int)):(invS f s).length=f.length:=by simp [invS]
theorem inv_pm {f s:List (List Int)} (h:PM f s) (hi:Inj f s):PM (invF f s) (invS f s) where
 tf:=tab_of fun x y hx hy=>by have:=(pre_self h hi hx hy).1;omega
 ts:=tab_of fun x y hx hy=>by have:=(pre_self h hi hx hy).2.1;omega
 len:=by simp
 pos:=by simpa using h.pos
 small:=by simpa using h.small


def hit (f s:List (List Int)) (a b i j:Nat):Prop:=∃ x y,x<f.length∧y<f.length∧(x<a∨(x=a∧y<b))∧σN f x y=i∧τN s y x=j
noncomputable def wT (f s:List (List Int)) (R:Nat→Nat→Nat) (Z:Nat→Nat→Int) (a b:Nat):List (List Int):=tabL f.length fun i j=>if dec (hit f s a b i j) then (R i j:Int) else Z i j
@[simp] theorem wT_length (f s:List (List Int)) (R:Nat→Nat→Nat) (Z:Nat→Nat→Int) (a b:Nat):(wT f s R Z a b).length=f.length:=by simp [wT]
theorem wT_row (f s:List (List Int)) (R:Nat→Nat→Nat) (Z:Nat→Nat→Int) (a b:Nat) {i:Nat} (h:i<(wT f s R Z a b).length):(wT f s R Z a b)[i].length=f.length:=tabL_row (by rw [← wT];exact List.getElem_mem h)
theorem wT_zero (f s:List (List Int)) (R:Nat→Nat→Nat) (Z:Nat→Nat→Int):wT f s R Z 0 0=tabL f.length Z:=by
 apply tabL_congr
 intro i j _ _
 have:¬hit f s 0 0 i j:=fun ⟨x,y,_,_,h,_⟩=>by omega
 rw [dec_false this]
 rfl
theorem wT_next (f s:List (List Int)) (R:Nat→Nat→Nat) (Z:Nat→Nat→Int) (a:Nat):wT f s R Z a f.length=wT f s R Z (a+1) 0:=by
 apply tabL_congr
 intro i j _ _
 have:hit f s a f.length i j↔hit f s (a+1) 0 i j:=by
  constructor
  · rintro ⟨x,y,h1,h2,h3,h4⟩
    exact ⟨x,y,h1,h2,by omega,h4⟩
  · rintro ⟨x,y,h1,h2,h3,h4⟩
    exact ⟨x,y,h1,h2,by omega,h4⟩
 by_cases hc:hit f s a f.length i j
 · rw [dec_true hc,dec_true (this.1 hc)]
 · rw [dec_false hc,dec_false (fun h=>hc (this.2 h))]
theorem wT_all {f s:List (List Int)} (h:PM f s) (hi:Inj f s) (R:Nat→Nat→Nat) (Z:Nat→Nat→Int):wT f s R Z f.length 0=tabL f.length fun i j=>(R i j:Int):=by
 apply tabL_congr
 intro i j hi' hj'
 obtain ⟨x,y,h1,h2,h3,h4⟩:=pre_ex h hi hi' hj'
 have:hit f s f.length 0 i j:=⟨x,y,h1,h2,.inl h1,h3,h4⟩
 rw [dec_true this]
 rfl
theorem wT_set (f s:List (List Int)) (R:Nat→Nat→Nat) (Z:Nat→Nat→Int) {a b:Nat} (ha:a<f.length) (hb:b<f.length) :
 (wT f s R Z a b).set (σN f a b) (((wT f s R Z a b).getD (σN f a b) []).set (τN s b a) (R (σN f a b) (τN s b a):Int))=wT f s R Z a (b+1):=by
 have hcov:∀ i j,hit f s a (b+1) i j↔hit f s a b i j∨(i=σN f a b∧j=τN s b a):=fun i j=>by
  constructor
  · rintro ⟨x,y,h1,h2,h3,rfl,rfl⟩
    by_cases hxy:x=a∧y=b
    · obtain ⟨rfl,rfl⟩:=hxy;exact .inr ⟨rfl,rfl⟩
    · exact .inl ⟨x,y,h1,h2,by omega,rfl,rfl⟩
  · rintro (⟨x,y,h1,h2,h3,h4⟩ | ⟨rfl,rfl⟩)
    · exact ⟨x,y,h1,h2,by omega,h4⟩
    · exact ⟨a,b,ha,hb,by omega,rfl,rfl⟩
 apply List.ext_getElem
 · simp
 · intro i h1 h2
   simp only [wT_length] at h2
   have hgi:∀ b',(wT f s R Z a b')[i]'(by simpa using h2)=(List.range f.length).map fun j=>if dec (hit f s a b' i j) then (R i j:Int) else Z i j:=fun b'=>by simp [wT,tabL]
   rw [List.getElem_set,hgi (b+1)]
   by_cases hi:σN f a b=i
   · rw [if_pos hi]
     subst hi
     have hgd:(wT f s R Z a b).getD (σN f a b) []=(wT f s R Z a b)[σN f a b]'(by simpa using h2):=by
      rw [List.getD_eq_getElem?_getD,List.getElem?_eq_getElem (by simpa using h2)];rfl
     rw [hgd,hgi b]
     apply List.ext_getElem
     · simp
     · intro j h3 h4
       simp only [List.length_map,List.length_range] at h4
       simp only [List.getElem_set,List.getElem_map,List.getElem_range]
       by_cases hj:τN s b a=j
       · subst hj
         rw [if_pos rfl,dec_true ((hcov _ _).2 (.inr ⟨rfl,rfl⟩))]
         rfl
       · rw [if_neg hj]
         by_cases hc:hit f s a b (σN f a b) j
         · rw [dec_true hc,dec_true ((hcov _ _).2 (.inl hc))]
         · rw [dec_false hc,dec_false fun h=>((hcov _ _).1 h).elim hc fun h=>hj h.2.symm]
   · rw [if_neg hi,hgi b]
     apply List.map_congr_left
     intro j _
     by_cases hc:hit f s a b i j
     · rw [dec_true hc,dec_true ((hcov _ _).2 (.inl hc))]
     · rw [dec_false hc,dec_false fun h=>((hcov _ _).1 h).elim hc fun h=>hi h.1.symm]
theorem zeroT_tab (n:Nat):zeroT n n=tabL n fun _ _=>0:=by
 apply List.ext_getElem
 · simp [zeroT]
 · intro i h1 h2
   apply List.ext_getElem
   · simp [tabL,zeroT]
   · intro j h3 h4
     simp [tabL,zeroT]

def S_inv406 (pg:Pg):Prop:=∀ f s:List (List Int),PM f s→Inj f s→Call pg 406 [sol f s] [sol f s] (.agg [.mem .own (some 1) (rows (invF f s)),.mem .own (some 1) (rows (invS f s))])
set_option maxRecDepth 10000 in
theorem t_l02Inverse {pg:Pg} (hp:pg.fn 406=some c_spec_l02Inverse) (h398:S_empty pg):S_inv406 pg:=by
 intro f s hpm hinj
 have h0:=hpm.pos
 have h12:=hpm.small
 have hls:=hpm.len
 refine Call.intro hp rfl (by simp) ?_
 show wp _ _ c_spec_l02Inverse.body (post [.cell 2 (some 2)] _ _ _) _
 simp [c_spec_l02Inverse]
 refine callR (h398 f.length h0 (by omega)) rfl rfl (fun _=>by simp) ?_
 simp
 refine wpLoop_count (fun a e=>e=fr [(1,some (.val (.mem .own none [tb f,tb s]))),(2,some (.val (.mem .own none [nil,nil]))),(3,some (.val (I f.length))),(4,some (.val (.mem .own none [.mem .own (some 1) (rows (wT f s (preX f s) (fun _ _=>0) a 0)),.mem .own (some 1) (rows (wT f s (preY f s) (fun _ _=>0) a 0))]))),(5,some (.val (I a)))]) f.length ?_ ?_ 0 _ (by omega) ?_
 · rintro a e ha rfl
   simp [ha]
   refine wpLoop_count (fun b e=>e=fr [(1,some (.val (.mem .own none [tb f,tb s]))),(2,some (.val (.mem .own none [nil,nil]))),(3,some (.val (I f.length))),(4,some (.val (.mem .own none [.mem .own (some 1) (rows (wT f s (preX f s) (fun _ _=>0) a b)),.mem .own (some 1) (rows (wT f s (preY f s) (fun _ _=>0) a b))]))),(5,some (.val (I a))),(6,some (.val (I b)))]) f.length ?_ ?_ 0 _ (by omega) ?_
   · rintro b e hb rfl
     have hf:=hpm.v2f a b
     have hs2:=hpm.v2s a b
     have hfr:=hpm.tf.row ha
     have hsr:=(hpm.ts.row (x:=a) (by omega)).trans hls
     have has:a<s.length:=by omega
     have hfg:(f[a])[b]'(by omega)=v2 f a b:=get_v2 _ _
     have hsg:(s[a])[b]'(by omega)=v2 s a b:=get_v2 _ _
     have pa:=pre_at hpm hinj ha hb
     have p1:=wT_set f s (preX f s) (fun _ _=>0) ha hb
     have p2:=wT_set f s (preY f s) (fun _ _=>0) ha hb
     rw [pa.1] at p1
     rw [pa.2] at p2
     have l1:=wT_length f s (preX f s) (fun _ _=>0) a b
     have l2:=wT_length f s (preY f s) (fun _ _=>0) a b
     have r1:=fun {i:Nat} h=>wT_row f s (preX f s) (fun _ _=>0) a b (i:=i) h
     have r2:=fun {i:Nat} h=>wT_row f s (preY f s) (fun _ _=>0) a b (i:=i) h
     rw [← p1,← p2]
     generalize wT f s (preX f s) (fun _ _=>0) a b=X at *
     generalize wT f s (preY f s) (fun _ _=>0) a b=Y at *
     obtain ⟨hf1,hf2⟩:=hf
     obtain ⟨hs1,hs2⟩:=hs2
     rw [← hf1] at hfg
     rw [← hs1] at hsg
     generalize σN f a b=u at *
     generalize τN s b a=v at *
     have xr:=r1 (i:=u) (by omega)
     have yr:=r2 (i:=u) (by omega)
     have lx:u<X.length:=by omega
     have ly:u<Y.length:=by omega
     simp [ha,hb,has,hfr,hsr,hfg,hsg,lx,ly,xr,yr,hs2]
     refine ⟨by omega,by omega,?_⟩
     rw [← rows_set2 lx,← rows_set2 ly]
   · rintro e rfl
     rw [wT_next,wT_next]
     simp
     omega
   · simp
 · rintro e rfl
   rw [wT_all hpm hinj,wT_all hpm hinj]
   simp [invF,invS]
 · simp [wT_zero,zeroT_tab]

def spT (f s:List (List Int)):T:=.agg [.mem .own (some 1) (rows f),.mem .own (some 1) (rows s)]
def S_inv411 (pg:Pg):Prop:=∀ f s:List (List Int),fits f→fits s→isSol f s→Call pg 411 [sol f s] [sol f s] (.tup [spT (invF f s) (invS f s),I 0])
set_option maxRecDepth 10000 in
theorem t_InverseSolution {pg:Pg} (hp:pg.fn 411=some c_impl_InverseSolution) (h42:S_isSol pg 42) (h275:S_copyT pg 275):S_inv411 pg:=by
 intro f s hff hfs h
 have hpm:=PM.of h.1
 have hinj:=h.2.1
 have h0:=hpm.pos
 have h12:=hpm.small
 have hls:=hpm.len
 have ef:f=tabL f.length (v2 f):=tab_eq rfl fun r hr=>by rw [(hpm.tf r hr).1]
 have es:s=tabL f.length (v2 s):=tab_eq hls fun r hr=>by rw [(hpm.ts r hr).1,hls]
 refine Call.intro hp rfl (by simp) ?_
 show wp _ _ c_impl_InverseSolution.body (post [.cell 2 (some 2),.t 3] _ _ _) _
 simp [c_impl_InverseSolution]
 refine callR (h42 f s hff hfs) rfl rfl (fun _=>rfl) ?_
 simp [dec_true h]
 refine callR (h275 f hff) rfl rfl (fun _=>by simp) ?_
 simp
 refine callR (h275 s hfs) rfl rfl (fun _=>by simp) ?_
 simp
 refine wpLoop_count (fun a e=>e=fr [(1,some (.val (.mem .own none [tb f,tb s]))),(2,some (.val (.mem .own none [nil,nil]))),(4,some (.val (.mem .own none [.mem .own (some 1) (rows (wT f s (preX f s) (v2 f) a 0)),.mem .own (some 1) (rows (wT f s (preY f s) (v2 s) a 0))]))),(22,some (.val (tb f))),(23,some (.val (I f.length))),(24,some (.val (I a)))]) f.length ?_ ?_ 0 _ (by omega) ?_
 · rintro a e ha rfl
   have hfr:=hpm.tf.row ha
   have hsr:=(hpm.ts.row (x:=a) (by omega)).trans hls
   have has:a<s.length:=by omega
   simp [ha,hfr]
   refine wpLoop_count (fun b e=>e=fr [(1,some (.val (.mem .own none [tb f,tb s]))),(2,some (.val (.mem .own none [nil,nil]))),(4,some (.val (.mem .own none [.mem .own (some 1) (rows (wT f s (preX f s) (v2 f) a b)),.mem .own (some 1) (rows (wT f s (preY f s) (v2 s) a b))]))),(5,some (.val (I a))),(22,some (.val (tb f))),(23,some (.val (I f.length))),(24,some (.val (I a))),(29,some (.val (ix f[a]))),(30,some (.val (I f.length))),(31,some (.val (I b)))]) f.length ?_ ?_ 0 _ (by omega) ?_
   · rintro b e hb rfl
     have hf:=hpm.v2f a b
     have hs2:=hpm.v2s a b
     have hfg:(f[a])[b]'(by omega)=v2 f a b:=get_v2 _ _
     have hsg:(s[a])[b]'(by omega)=v2 s a b:=get_v2 _ _
     have pa:=pre_at hpm hinj ha hb
     have p1:=wT_set f s (preX f s) (v2 f) ha hb
     have p2:=wT_set f s (preY f s) (v2 s) ha hb
     rw [pa.1] at p1
     rw [pa.2] at p2
     have l1:=wT_length f s (preX f s) (v2 f) a b
     have l2:=wT_length f s (preY f s) (v2 s) a b
     have r1:=fun {i:Nat} h=>wT_row f s (preX f s) (v2 f) a b (i:=i) h
     have r2:=fun {i:Nat} h=>wT_row f s (preY f s) (v2 s) a b (i:=i) h
     rw [← p1,← p2]
     generalize wT f s (preX f s) (v2 f) a b=X at *
     generalize wT f s (preY f s) (v2 s) a b=Y at *
     obtain ⟨hf1,hf2⟩:=hf
     obtain ⟨hs1,hs2⟩:=hs2
     rw [← hf1] at hfg
     rw [← hs1] at hsg
     generalize σN f a b=u at *
     generalize τN s b a=v at *
     have xr:=r1 (i:=u) (by omega)
     have yr:=r2 (i:=u) (by omega)
     have lx:u<X.length:=by omega
     have ly:u<Y.length:=by omega
     have hbf:b<f[a].length:=by omega
     simp [hb,has,hfr,hsr,hfg,hsg,lx,ly,xr,yr,hs2]
     refine ⟨by omega,by omega,?_⟩
     rw [← rows_set2 lx,← rows_set2 ly]
   · rintro e rfl
     rw [wT_next,wT_next]
     simp
     omega
   · simp
 · rintro e rfl
   rw [wT_all hpm hinj,wT_all hpm hinj]
   simp [invF,invS,spT]
 · rw [wT_zero,wT_zero,← ef,← es]
   simp
end Go.Mch
namespace Go.Mch

def isWd (n:Int) (w:List Int):Prop:=inR 0 (n-1) w∧w.length≤8
instance (n:Int) (w:List Int):Decidable (isWd n w):=by unfold isWd;infer_instance
theorem wd_in {n:Nat} {w:List Int} (h:isWd n w):inN n w:=fun x hx=>by
 have:=h.1 x hx
 omega
open Classical in
noncomputable def wdC (f s:List (List Int)) (us:List (List Int)):Int:=if isSol f s then (if ∀ u∈us,isWd f.length u then 0 else 2) else 1

def S_word (pg:Pg):Prop:=∀ (n:Int) (w:List Int),w.length≤1048576→0≤n→n≤1048576→Call pg 53 [I n,ix w] [I n,ix w] (B (decide (isWd n w)))
theorem t_l09Word {pg:Pg} (hp:pg.fn 53=some c_spec_l09Word) (h30:S_in pg 30):S_word pg:=by
 intro n xs hl hn hn2
 refine Call.intro hp rfl (by simp) ?_
 show wp _ _ c_spec_l09Word.body (post [.t 4] _ _ _) _
 simp [c_spec_l09Word]
 refine wpLoop_count (fun k e=>(∀ i (h:i<xs.length),i<k→0≤xs[i]∧xs[i]≤n-1)∧e=fr [(0,some (.val (I n))),(1,some (.val (ix xs))),(5,some (.val (I k)))]) xs.length ?_ ?_ 0 _ (by omega) ?_
 · rintro k e hk ⟨h1,rfl⟩
   simp [hk]
   refine ⟨by omega,?_⟩
   refine callR (h30 _ _ _) rfl rfl (fun _=>rfl) ?_
   by_cases hm:0≤xs[k]∧xs[k]≤n-1
   · simp [hm]
     refine ⟨by omega,fun i hi hik=>?_⟩
     rcases Nat.lt_or_ge i k with h2 | h2
     · exact h1 i hi h2
     · have:i=k:=by omega
       subst this;exact hm
   · have:¬isWd n xs:=fun h=>hm (h.1 _ (List.getElem_mem hk))
     simp [hm,this]
 · rintro e ⟨h1,rfl⟩
   have:inR 0 (n-1) xs:=fun x hx=>by
    obtain ⟨i,hi,rfl⟩:=List.getElem_of_mem hx
    exact h1 i hi hi
   simp [isWd,this]
   omega
 · simp

def S_code37 (pg:Pg):Prop:=∀ (f s:List (List Int)) (u v:List Int),fits f→fits s→u.length≤1048576→v.length≤1048576→Call pg 37 [sol f s,ix u,ix v] [sol f s,ix u,ix v] (I (wdC f s [u,v]))
theorem t_l09Code {pg:Pg} (hp:pg.fn 37=some c_spec_l09Code) (h41:S_isSol pg 41) (h53:S_word pg):S_code37 pg:=by
 intro f s u v hf hs hu hv
 refine Call.intro hp rfl (by simp) ?_
 show wp _ _ c_spec_l09Code.body (post [.t 6] _ _ _) _
 simp [c_spec_l09Code]
 refine callR (h41 f s hf hs) rfl rfl (fun _=>rfl) ?_
 by_cases h:isSol f s
 · simp [dec_true h]
   have hpm:=PM.of h.1
   have h12:=hpm.small
   refine callR (h53 f.length u hu (by omega) (by omega)) rfl rfl (fun _=>rfl) ?_
   by_cases h1:isWd f.length u
   · simp [h1]
     refine callR (h53 f.length v hv (by omega) (by omega)) rfl rfl (fun _=>rfl) ?_
     by_cases h2:isWd f.length v <;> simp [h2,wdC,h,h1]
   · simp [h1,undefV,wdC,h]
 · simp [wdC,h]

def S_chk38 (pg:Pg):Prop:=∀ (f s:List (List Int)) (us:List (List Int)),fits f→fits s→us.length≤1000→(∀ u∈us,u.length≤1048576)→Call pg 38 [sol f s,tb us] [sol f s,tb us] (I (wdC f s us))
theorem t_checkWords {pg:Pg} (hp:pg.fn 38=some c_impl_checkWords) (h42:S_isSol pg 42) (h39:S_areElements pg):S_chk38 pg:=by
 intro f s us hf hs hl hus
 refine Call.intro hp rfl (by simp) ?_
 show wp _ _ c_impl_checkWords.body (post [.t 4] _ _ _) _
 simp [c_impl_checkWords]
 refine callR (h42 f s hf hs) rfl rfl (fun _=>rfl) ?_
 by_cases h:isSol f s
 · simp [dec_true h]
   have hpm:=PM.of h.1
   have h12:=hpm.small
   refine wpLoop_count (fun k e=>(∀ i (h:i<us.length),i<k→isWd f.length us[i])∧e=fr [(2,some (.val (.mem .own none [tb f,tb s]))),(10,some (.val (tb us))),(11,some (.val (I us.length))),(12,some (.val (I k)))]) us.length ?_ ?_ 0 _ (by omega) ?_
   · rintro k e hk ⟨h1,rfl⟩
     have hw:¬isWd f.length us[k]→wdC f s us=2:=fun hh=>by
      have:¬∀ u∈us,isWd f.length u:=fun ha=>hh (ha _ (List.getElem_mem hk))
      simp only [wdC,if_pos h,if_neg this]
     have hlk:=hus _ (List.getElem_mem hk)
     simp [hk]
     by_cases h8:us[k].length≤8
     · have h8':¬(8:Int)<us[k].length:=by omega
       simp [h8']
       refine callR (h39 f.length us[k] hlk (by omega) (by omega)) rfl rfl (fun _=>rfl) ?_
       by_cases hm:inR 0 ((f.length:Int)-1) us[k]
       · simp [hm]
         refine ⟨by omega,fun i hi hik=>?_⟩
         rcases Nat.lt_or_ge i k with h2 | h2
         · exact h1 i hi h2
         · have:i=k:=by omega
           subst this;exact ⟨hm,h8⟩
       · simp [hm,hw fun hh=>hm hh.1]
     · have h8':(8:Int)<us[k].length:=by omega
       simp [h8',undefV,hw fun hh=>h8 hh.2]
   · rintro e ⟨h1,rfl⟩
     have:∀ u∈us,isWd f.length u:=fun x hx=>by
      obtain ⟨i,hi,rfl⟩:=List.getElem_of_mem hx
      exact h1 i hi hi
     have e0:wdC f s us=0:=by simp only [wdC,if_pos h,if_pos this]
     simp [e0]
   · simp
 · simp [wdC,h]


noncomputable def cMv (f s:List (List Int)) (x:List Int) (p:Nat):List Int:=if p % 2=0 then dW f s x (p / 2) else dW (invF f s) (invS f s) x (p / 2)
theorem cMv_0 (f s:List (List Int)) (x:List Int) (k:Nat):cMv f s x (2*k)=dW f s x k:=by
 unfold cMv
 rw [if_pos (by omega),show 2*k / 2=k from by omega]
theorem cMv_1 (f s:List (List Int)) (x:List Int) (k:Nat):cMv f s x (2*k+1)=dW (invF f s) (invS f s) x k:=by
 unfold cMv
 rw [if_neg (by omega),show (2*k+1) / 2=k from by omega]
@[simp] theorem cMv_length (f s:List (List Int)) (x:List Int) (p:Nat):(cMv f s x p).length=x.length:=by unfold cMv;split <;> simp
theorem cMv_in {f s:List (List Int)} (h:PM f s) (hi:Inj f s) {x:List Int} (hx:inN f.length x) (p:Nat):inN f.length (cMv f s x p):=by
 unfold cMv
 split
 · exact dW_in h hx _
 · have:=dW_in (inv_pm h hi) (w:=x) (by simpa using hx) (p / 2)
   simpa using this
theorem CR_in {f s:List (List Int)} (h:PM f s) (hi:Inj f s) {w:List Int} (hw:inN f.length w) {m:Nat} {x:List Int} (hx:TR (cMv f s) m w x):inN f.length x∧x.length=w.length :=
 hx (fun y=>inN f.length y∧y.length=w.length) ⟨hw,rfl⟩ fun y hy i _=>⟨cMv_in h hi hy.1 i,by rw [cMv_length];exact hy.2⟩
noncomputable def cO (f s:List (List Int)) (w:List Int) (lim:Nat):Option (List (List Int)):=orbO (cMv f s) (2*(w.length-1)) w lim

def S_class (pg:Pg):Prop:=∀ (f s:List (List Int)) (w:List Int) (lim:Nat),isSol f s→inN f.length w→w.length≤12→0<lim→lim≤10000→Call pg 339 [sol f s,ix w,I lim] [sol f s,ix w,I lim] (grpT (cO f s w lim))
set_option maxRecDepth 10000 in
theorem t_l09Class {pg:Pg} (hp:pg.fn 339=some c_spec_l09Class) (h406:S_inv406 pg) (h31:S_own pg) (h68:S_do pg 68) (h349:S_put pg) (h280:S_copyT pg 280):S_class pg:=by
 intro f s w lim h hw hl hlim0 hlim
 have hpm:=PM.of h.1
 have hinj:=h.2.1
 have hipm:=inv_pm hpm hinj
 have hro:∀ n,n≤100000→n≤roomy:=fun n hn=>by unfold roomy;omega
 refine Call.intro hp rfl (by simp) ?_
 show wp _ _ c_spec_l09Class.body (post [.t 6,.t 7] _ _ _) _
 simp [c_spec_l09Class]
 refine callR (h406 f s hpm hinj) rfl rfl (fun _=>by simp) ?_
 simp
 refine callR (h31 w (by omega)) rfl rfl (fun _=>by simp) ?_
 simp
 refine callR (h31 w (by omega)) rfl rfl (fun _=>by simp) ?_
 simp
 refine wpLoop_lower (α:=Nat) (fun z=>lim+1-z) (fun z e=>ExTT fun Q S ts=>(TB (cMv f s) (2*(w.length-1)) w Q z 0∧Q.length≤lim∧z≤Q.length∧Srt S∧(∀ x,x∈S↔x∈Q)∧Rds ts S)∧e=fr [(1,some (.val (ix w))),(2,some (.val (I lim))),(3,some (.val (.mem .own none [tb f,tb s]))),(8,some (.val (.mem .own none [.mem .own (some 1) (rows (invF f s)),.mem .own (some 1) (rows (invS f s))]))),(9,some (.val (.mem .own (some 1) (rowsF Q)))),(10,some (.val (.mem .own (some 1) ts))),(11,some (.val (I z)))]) ?_ 0 _ (ExTT.mk [w] [w] (rowsF [w]) ⟨⟨TB.start _ _ w,by simp;omega,by simp,by simp [Srt],fun x=>Iff.rfl,Rds.fresh _⟩,by simp [rowsF]⟩)
 rintro i e ⟨Q,S,ts,⟨gb,gl,gi,gs,gm,gr⟩,rfl⟩
 by_cases hi:i<Q.length
 · simp [hi]
   refine wpLoop_lower (α:=Nat) (fun z=>w.length-z) (fun z e=>ExTT fun Q S ts=>(TB (cMv f s) (2*(w.length-1)) w Q i (2*z)∧Q.length≤lim+2*z∧i<Q.length∧z≤w.length-1∧Srt S∧(∀ x,x∈S↔x∈Q)∧Rds ts S)∧e=fr [(1,some (.val (ix w))),(2,some (.val (I lim))),(3,some (.val (.mem .own none [tb f,tb s]))),(8,some (.val (.mem .own none [.mem .own (some 1) (rows (invF f s)),.mem .own (some 1) (rows (invS f s))]))),(9,some (.val (.mem .own (some 1) (rowsF Q)))),(10,some (.val (.mem .own (some 1) ts))),(11,some (.val (I i))),(12,some (.val (I z)))]) ?_ 0 _ (ExTT.mk Q S ts ⟨⟨gb,by omega,hi,by omega,gs,gm,gr⟩,by simp⟩)
   clear gb gl gi hi gs gm gr Q S ts
   rintro k e ⟨Q,S,ts,⟨gb,gl,gi,gk,gs,gm,gr⟩,rfl⟩
   have gf:=gb.f
   by_cases hk:k<w.length-1
   · have hk':(k:Int)+1<w.length:=by omega
     have hQi:=CR_in hpm hinj hw (gf.gr _ (List.getElem_mem gi))
     have hm1:=h68 f s Q[i] k hpm (by omega) (by omega) hQi.1
     have hm2:=h68 (invF f s) (invS f s) Q[i] k hipm (by omega) (by omega) (by simpa using hQi.1)
     rw [← cMv_0] at hm1
     rw [← cMv_1] at hm2
     simp [hk',gi]
     repeat (refine And.intro (by omega) ?_)
     refine callR hm1 rfl rfl (fun _=>by simp) ?_
     simp [gi]
     repeat (refine And.intro (by omega) ?_)
     refine callR hm2 rfl rfl (fun _=>by simp) ?_
     simp
     obtain ⟨L,hL1,hL2,hL3⟩:∃ L:List (List Int),L.length=2∧(∀ j (h:j<L.length),L[j]=cMv f s Q[i] (2*k+j))∧[T.mem .fresh (some 1) (List.map I (cMv f s Q[i] (2*k))),T.mem .fresh (some 1) (List.map I (cMv f s Q[i] (2*k+1)))]=rowsF L:=⟨[cMv f s Q[i] (2*k),cMv f s Q[i] (2*k+1)],rfl,fun j hj=>by
      match j,hj with
      | 0,_=>rfl
      | 1,_=>rfl,rfl⟩
     rw [hL3]
     have hxi:Q[i]?=some Q[i]:=List.getElem?_eq_getElem gi
     generalize Q[i]=x at *
     refine wpLoop_count (fun j e=>ExTT fun Q' S' ts'=>(TB (cMv f s) (2*(w.length-1)) w Q' i (2*k+j)∧Q'.length≤lim+2*k+j∧Q'[i]?=some x∧Srt S'∧(∀ x,x∈S'↔x∈Q')∧Rds ts' S')∧e=fr [(1,some (.val (ix w))),(2,some (.val (I lim))),(3,some (.val (.mem .own none [tb f,tb s]))),(8,some (.val (.mem .own none [.mem .own (some 1) (rows (invF f s)),.mem .own (some 1) (rows (invS f s))]))),(9,some (.val (.mem .own (some 1) (rowsF Q')))),(10,some (.val (.mem .own (some 1) ts'))),(11,some (.val (I i))),(12,some (.val (I k))),(13,some (.val (.mem .fresh (some 1) (rowsF L)))),(14,some (.val (I j)))]) 2 ?_ ?_ 0 _ (by omega) (ExTT.mk Q S ts ⟨⟨gb,by omega,hxi,gs,gm,gr⟩,by simp⟩)
     · clear gb gl hxi gs gm gr gf gi hm1 hm2 hL3
       rintro j e hj ⟨Q,S,ts,⟨gb,gl,gx,gs,gm,gr⟩,rfl⟩
       have gf:=gb.f
       obtain ⟨gi,gx⟩:=List.getElem?_eq_some_iff.1 gx
       have hSl:=len_of_same gs.nodup gf.nd gm
       have hjL:j<L.length:=by omega
       have hW:=hL2 j hjL
       rw [← gx] at hW
       have hQr:∀ x∈Q,x.length=w.length:=fun x hx=>(CR_in hpm hinj hw (gf.gr x hx)).2
       have hWl:L[j].length≤1048576:=by rw [hW,cMv_length,hQr _ (List.getElem_mem gi)];omega
       obtain ⟨S',b,args',p1,p2,p3,p4,p5,p6⟩:=h349 S L[j] gs (by omega) (fun x hx=>by have:=hQr x ((gm x).1 hx);omega) hWl
       have hold:=fun hin=>gb.old gi hin
       have hnew:=fun hin=>gb.new gi (k:=2*k+j) (by omega) hin
       rw [← hW] at hold hnew
       obtain ⟨r1,r2,r3,r4⟩:=gr
       have hjI:(j:Int)<2:=by omega
       simp [hj,hjI,hL1]
       repeat (refine And.intro (by omega) ?_)
       generalize hWe:L[j]=W at *
       obtain ⟨a1,a2,rfl⟩:∃ a1 a2,args'=[a1,a2]:=by
        cases args' with
        | nil=>simp at p5
        | cons a1 l=>cases l with
         | nil=>simp at p5
         | cons a2 l=>cases l with
          | nil=>exact ⟨a1,a2,rfl⟩
          | cons=>simp at p5
       refine callM (ts':=[a1,a2]) (r:=.tup [.mem .own (some 1) (tbL S'),B b]) ?_ ?_ ?_ ?_
       · simp
       · simpa [r3] using p6
       · simp
       · have hWS:W∈S↔W∈Q:=gm W
         by_cases hin:W∈Q
         · have hb:b=false:=by
            cases b with
            | false=>rfl
            | true=>exact absurd (hWS.2 hin) (p3.1 rfl)
           subst hb
           simp
           refine ⟨by omega,ExTT.mk Q S' (tbL S') ⟨⟨hold hin,by omega,List.getElem?_eq_some_iff.2 ⟨gi,gx⟩,p1,fun x=>?_,Rds.old _⟩,by simp⟩⟩
           rw [p2,gm]
           exact ⟨fun h=>h.elim id fun h=>h▸hin,.inl⟩
         · have hb:b=true:=p3.2 fun h=>hin (hWS.1 h)
           subst hb
           simp [hL1,hj,hjI,hWe]
           refine ⟨hro _ (by omega),by omega,ExTT.mk (Q++[W]) S' (tbL S') ⟨⟨hnew hin,by simp;omega,by rw [List.getElem?_append_left gi];exact List.getElem?_eq_some_iff.2 ⟨gi,gx⟩,p1,fun x=>?_,Rds.old _⟩,by rw [rowsF_snoc]⟩⟩
           rw [p2,gm,List.mem_append,List.mem_singleton]
     · rintro e ⟨Q,S,ts,⟨gb,gl,gx,gs,gm,gr⟩,rfl⟩
       obtain ⟨gi,gx⟩:=List.getElem?_eq_some_iff.1 gx
       simp [hL1]
       repeat (refine And.intro (by omega) ?_)
       exact ⟨k+1,by omega,ExTT.mk Q S ts ⟨⟨gb,by omega,gi,by omega,gs,gm,gr⟩,by simp⟩⟩
   · have hk':¬(k:Int)+1<w.length:=by omega
     have hkm:k=w.length-1:=by omega
     subst hkm
     by_cases hbig:lim<Q.length
     · have hno:cO f s w lim=none:=orbO_none gf hbig
       simp [hk',hbig,hno,grpT]
       omega
     · have hb2:¬(lim:Int)<Q.length:=by omega
       simp [hk',hb2]
       repeat (refine And.intro (by omega) ?_)
       exact ⟨i+1,by omega,ExTT.mk Q S ts ⟨⟨gb.up gi,by omega,by omega,gs,gm,gr⟩,by simp⟩⟩
 · have hX:Orb (cMv f s) (2*(w.length-1)) w S:=⟨gs,fun x=>(gm x).trans ⟨gb.f.gr x,gb.all hi x⟩⟩
   have hSl:=len_of_same gs.nodup gb.f.nd gm
   have hs:cO f s w lim=some S:=orbO_some hX (by omega)
   obtain ⟨r1,r2,r3,r4⟩:=gr
   have hcp:=h280 S ⟨by omega,fun r hr=>by have:=(CR_in hpm hinj hw (gb.f.gr r ((gm r).1 hr))).2;omega⟩
   have hwn:win ts 0 ts.length=ts:=by simp [win]
   simp [hi,hwn,r1]
   refine callR hcp rfl rfl (fun _=>by simp) ?_
   simp [hs,grpT]


theorem frzRowsF (X:List (List Int)):T.frzL .fresh (rows X)=rowsF X:=by
 induction X with
 | nil=>rfl
 | cons x X ih=>simp only [rows,rowsF,List.map_cons] at ih ⊢;simp [ih]
theorem frz_sp (X Y:List (List Int)):T.frz .fresh (.tup [.agg [.mem .own (some 1) (rows X),.mem .own (some 1) (rows Y)],I 0])=.tup [.agg [.mem .fresh (some 1) (rowsF X),.mem .fresh (some 1) (rowsF Y)],I 0]:=by
 show T.tup [T.agg [T.mem .fresh (some 1) (T.frzL .fresh (rows X)),T.mem .fresh (some 1) (T.frzL .fresh (rows Y))],I 0]=_
 rw [frzRowsF,frzRowsF]
def S_wordClass (pg:Pg):Prop:=∀ (f s:List (List Int)) (w:List Int) (lim:Nat),fits f→fits s→isSol f s→inN f.length w→w.length≤12→0<lim→lim≤10000→Call pg 352 [sol f s,ix w,I lim] [sol f s,ix w,I lim] (grpT (cO f s w lim))
set_option maxRecDepth 10000 in
theorem t_wordClass {pg:Pg} (hp:pg.fn 352=some c_impl_wordClass) (h411:S_inv411 pg) (h36:S_clone pg) (h312:S_text pg) (h44:S_do pg 44) (h313:S_sort pg):S_wordClass pg:=by
 intro f s w lim hff hfs h hw hl hlim0 hlim
 have hpm:=PM.of h.1
 have hinj:=h.2.1
 have hipm:=inv_pm hpm hinj
 have h12:=hpm.small
 have hx12:∀ m x,TR (cMv f s) m w x→inN 12 x:=fun m x hx v hv=>by have:=(CR_in hpm hinj hw hx).1 v hv;omega
 refine Call.intro hp rfl (by simp) ?_
 show wp _ _ c_impl_wordClass.body (post [.t 6,.t 7] _ _ _) _
 simp [c_impl_wordClass]
 refine callR (h411 f s hff hfs h) rfl rfl (fun _=>by simp [spT]) ?_
 simp [spT,frz_sp]
 refine callR (h36 w (by omega)) rfl rfl (fun _=>by simp) ?_
 simp
 refine callR (h312 w (hx12 0 w (TR.start _ _ w)) (by omega)) rfl rfl (fun _=>rfl) ?_
 simp
 refine wpLoop_lower (α:=Nat) (fun z=>lim+1-z) (fun z e=>ExT fun Q=>(TB (cMv f s) (2*(w.length-1)) w Q z 0∧Q.length≤lim∧z≤Q.length)∧e=fr [(1,some (.val (ix w))),(2,some (.val (I lim))),(3,some (.val (.mem .own none [tb f,tb s]))),(8,some (.val (.mem .own none [.mem .fresh (some 1) (rowsF (invF f s)),.mem .fresh (some 1) (rowsF (invS f s))]))),(10,some (.val (.mem .own (some 1) (rows Q)))),(11,some (.val (.set (Q.map txt)))),(12,some (.val (I z)))]) ?_ 0 _ (ExT.mk [w] ⟨⟨TB.start _ _ w,by simp;omega,by simp⟩,by simp [rows]⟩)
 rintro i e ⟨Q,⟨gb,gl,gi⟩,rfl⟩
 by_cases hi:i<Q.length
 · simp [hi]
   repeat (refine And.intro (by omega) ?_)
   refine wpLoop_lower (α:=Nat) (fun z=>w.length-z) (fun z e=>ExT fun Q=>(TB (cMv f s) (2*(w.length-1)) w Q i (2*z)∧Q.length≤lim∧i<Q.length∧z≤w.length-1)∧e=fr [(1,some (.val (ix w))),(2,some (.val (I lim))),(3,some (.val (.mem .own none [tb f,tb s]))),(8,some (.val (.mem .own none [.mem .fresh (some 1) (rowsF (invF f s)),.mem .fresh (some 1) (rowsF (invS f s))]))),(10,some (.val (.mem .own (some 1) (rows Q)))),(11,some (.val (.set (Q.map txt)))),(12,some (.val (I i))),(38,some (.val (I ((w.length:Int)-1)))),(39,some (.val (I z)))]) ?_ 0 _ (ExT.mk Q ⟨⟨gb,gl,hi,by omega⟩,by simp⟩)
   clear gb gl gi hi Q
   rintro k e ⟨Q,⟨gb,gl,gi,gk⟩,rfl⟩
   have gf:=gb.f
   by_cases hk:k<w.length-1
   · have hk':(k:Int)<(w.length:Int)-1:=by omega
     simp [hk']
     refine wpLoop_count (fun j e=>ExT fun Q=>(TB (cMv f s) (2*(w.length-1)) w Q i (2*k+j)∧Q.length≤lim∧i<Q.length)∧e=fr [(1,some (.val (ix w))),(2,some (.val (I lim))),(3,some (.val (.mem .own none [tb f,tb s]))),(8,some (.val (.mem .own none [.mem .fresh (some 1) (rowsF (invF f s)),.mem .fresh (some 1) (rowsF (invS f s))]))),(10,some (.val (.mem .own (some 1) (rows Q)))),(11,some (.val (.set (Q.map txt)))),(12,some (.val (I i))),(13,some (.val (I k))),(38,some (.val (I ((w.length:Int)-1)))),(39,some (.val (I k))),(44,some (.vagg [.val (tb f),.val (tb s),.val (.mem .fresh (some 1) (rowsF (invF f s))),.val (.mem .fresh (some 1) (rowsF (invS f s)))])),(45,some (.val (I j)))]) 2 ?_ ?_ 0 _ (by omega) (ExT.mk Q ⟨⟨gb,gl,gi⟩,by simp⟩)
     · clear gb gl gf gi Q
       rintro j e hj ⟨Q,⟨gb,gl,gi⟩,rfl⟩
       have gf:=gb.f
       have hQi:=CR_in hpm hinj hw (gf.gr _ (List.getElem_mem gi))
       have hil:(i:Int)<Q.length:=by omega
       obtain rfl | rfl:j=0∨j=1:=by omega
       · rw [Nat.add_zero] at gb
         have hmv:=h44 f s Q[i] k hpm (by omega) (by omega) hQi.1
         rw [← cMv_0] at hmv
         have hWr:=(gf.gr _ (List.getElem_mem gi)).step (cMv f s) (2*(w.length-1)) w (i:=2*k) (by omega)
         have hWl:(cMv f s Q[i] (2*k)).length=w.length:=by rw [cMv_length];exact hQi.2
         have htx:=h312 (cMv f s Q[i] (2*k)) (hx12 _ _ hWr) (by omega)
         have hkey:txt (cMv f s Q[i] (2*k))∈Q.map txt↔cMv f s Q[i] (2*k)∈Q:=by
          rw [List.mem_map]
          constructor
          · rintro ⟨y,hy,he⟩
            exact txt_inj (hx12 _ y (gf.gr y hy)) (hx12 _ _ hWr) he▸hy
          · exact fun hh=>⟨_,hh,rfl⟩
         have hold:=fun hin=>gb.old gi (k:=2*k) hin
         have hnew:=fun hin=>gb.new gi (k:=2*k) (by omega) hin
         have hnewF:=fun hin=>gf.new gi (k:=2*k) (by omega) hin
         simp [gi,hil]
         repeat (refine And.intro (by omega) ?_)
         refine callR hmv rfl rfl (fun _=>by simp) ?_
         generalize cMv f s Q[i] (2*k)=W at *
         simp
         refine callR htx rfl rfl (fun _=>rfl) ?_
         by_cases hin:W∈Q
         · have hk2:=hkey.2 hin
           generalize hK:Q.map txt=KS at *
           simp [hk2]
           repeat (refine And.intro (by omega) ?_)
           exact ExT.mk Q ⟨⟨hold hin,gl,gi⟩,by simp [hK]⟩
         · have hk2:¬txt W∈Q.map txt:=fun hh=>hin (hkey.1 hh)
           have hK2:(Q++[W]).map txt=Q.map txt++[txt W]:=by simp
           have n1:=hnewF hin
           generalize hK:Q.map txt=KS at *
           by_cases h5:Q.length=lim
           · have hno:cO f s w lim=none:=orbO_none n1 (by simp;omega)
             simp [hk2,h5,hno,grpT]
           · have h5':¬(Q.length:Int)=lim:=by omega
             have hro:Q.length+1≤roomy:=by unfold roomy;omega
             simp [hk2,h5',hro]
             repeat (refine And.intro (by omega) ?_)
             exact ExT.mk (Q++[W]) ⟨⟨hnew hin,by simp;omega,by simp;omega⟩,by simp [hK2,rows]⟩
       ·
        have hmv:=h44 (invF f s) (invS f s) Q[i] k hipm (by omega) (by omega) (by simpa using hQi.1)
        rw [← cMv_1] at hmv
        have hWr:=(gf.gr _ (List.getElem_mem gi)).step (cMv f s) (2*(w.length-1)) w (i:=2*k+1) (by omega)
        have hWl:(cMv f s Q[i] (2*k+1)).length=w.length:=by rw [cMv_length];exact hQi.2
        have htx:=h312 (cMv f s Q[i] (2*k+1)) (hx12 _ _ hWr) (by omega)
        have hkey:txt (cMv f s Q[i] (2*k+1))∈Q.map txt↔cMv f s Q[i] (2*k+1)∈Q:=by
         rw [List.mem_map]
         constructor
         · rintro ⟨y,hy,he⟩
           exact txt_inj (hx12 _ y (gf.gr y hy)) (hx12 _ _ hWr) he▸hy
         · exact fun hh=>⟨_,hh,rfl⟩
        have hold:=fun hin=>gb.old gi (k:=2*k+1) hin
        have hnew:=fun hin=>gb.new gi (k:=2*k+1) (by omega) hin
        have hnewF:=fun hin=>gf.new gi (k:=2*k+1) (by omega) hin
        simp [gi,hil]
        repeat (refine And.intro (by omega) ?_)
        refine callR hmv rfl rfl (fun _=>by simp) ?_
        generalize cMv f s Q[i] (2*k+1)=W at *
        simp
        refine callR htx rfl rfl (fun _=>rfl) ?_
        by_cases hin:W∈Q
        · have hk2:=hkey.2 hin
          generalize hK:Q.map txt=KS at *
          simp [hk2]
          repeat (refine And.intro (by omega) ?_)
          exact ExT.mk Q ⟨⟨hold hin,gl,gi⟩,by simp [hK]⟩
        · have hk2:¬txt W∈Q.map txt:=fun hh=>hin (hkey.1 hh)
          have hK2:(Q++[W]).map txt=Q.map txt++[txt W]:=by simp
          have n1:=hnewF hin
          generalize hK:Q.map txt=KS at *
          by_cases h5:Q.length=lim
          · have hno:cO f s w lim=none:=orbO_none n1 (by simp;omega)
            simp [hk2,h5,hno,grpT]
          · have h5':¬(Q.length:Int)=lim:=by omega
            have hro:Q.length+1≤roomy:=by unfold roomy;omega
            simp [hk2,h5',hro]
            repeat (refine And.intro (by omega) ?_)
            exact ExT.mk (Q++[W]) ⟨⟨hnew hin,by simp;omega,by simp;omega⟩,by simp [hK2,rows]⟩
     · rintro e ⟨Q,⟨gb,gl,gi⟩,rfl⟩
       simp
       repeat (refine And.intro (by omega) ?_)
       exact ⟨k+1,by omega,ExT.mk Q ⟨⟨gb,gl,gi,by omega⟩,by simp⟩⟩
   · have hk':¬(k:Int)<(w.length:Int)-1:=by omega
     have hkm:k=w.length-1:=by omega
     subst hkm
     simp [hk']
     repeat (refine And.intro (by omega) ?_)
     exact ⟨i+1,by omega,ExT.mk Q ⟨⟨gb.up gi,gl,by omega⟩,by simp⟩⟩
 · have hQr:∀ x∈Q,x.length=w.length:=fun x hx=>(CR_in hpm hinj hw (gb.f.gr x hx)).2
   obtain ⟨Y,⟨y1,y2⟩,hy⟩:=h313 Q ⟨by omega,fun k=>by
    by_cases hk:k<Q.length
    · have:=hQr _ (List.getElem_mem hk)
      rw [← gt_at hk]
      omega
    · simp [gt,hk]⟩ (dj_of gb.f.nd)
   have hYl:=len_of_same y1.nodup gb.f.nd y2
   have hres:cO f s w lim=some Y:=orbO_some ⟨y1,fun x=>(y2 x).trans ⟨gb.f.gr x,gb.all hi x⟩⟩ (by omega)
   simp [hi]
   refine callM (ts':=[ownR Y,.fn 314 []]) (r:=.tup []) ?_ ?_ ?_ ?_
   · simp
   · simpa using hy
   · simp
   · simp [hres,grpT]
end Go.Mch
namespace Go.Mch


def S_eqTo407 (pg:Pg):Prop:=∀ (w x:List Int),w.length≤1048576→x.length≤1048576→Call pg 407 [ix x,.mem .old none [ix w]] [ix x,.mem .old none [ix w]] (B (decide (x=w)))
theorem t_listIndex1 {pg:Pg} (hp:pg.fn 407=some c_impl_listIndex_1) (h276:S_equal pg):S_eqTo407 pg:=by
 intro w x hw hx
 refine Call.intro hp rfl (by simp) ?_
 show wp _ _ c_impl_listIndex_1.body (post [.t 3] _ _ _) _
 simp [c_impl_listIndex_1]
 refine callR (h276 x w hx) rfl rfl (fun _=>rfl) ?_
 simp
def S_listIndex (pg:Pg):Prop:=∀ (X:List (List Int)) (w:List Int),X.length≤1048576→w.length≤1048576→(∀ x∈X,x.length≤1048576)→∃ r:Int,(0≤r↔w∈X)∧Call pg 341 [tb X,ix w] [tb X,ix w] (I r)
theorem t_listIndex {pg:Pg} (hp:pg.fn 341=some c_impl_listIndex) (h70:S_indexFunc pg) (h407:S_eqTo407 pg):S_listIndex pg:=by
 intro X w hl hw hr
 obtain ⟨r,h1,h2⟩:=h70 X (fun x=>decide (x=w)) 407 [.mem .old none [ix w]] hl (by simp) (by simp) fun x hx=>h407 w x hw (hr x hx)
 have hany:X.any (fun x=>decide (x=w))=true↔w∈X:=by
  rw [List.any_eq_true]
  constructor
  · rintro ⟨y,hy,he⟩
    rw [decide_eq_true_iff] at he
    exact he▸hy
  · exact fun hh=>⟨w,hh,by simp⟩
 refine ⟨r,h1.trans hany,Call.intro hp rfl (by simp) ?_⟩
 show wp _ _ c_impl_listIndex.body (post [.t 4] _ _ _) _
 simp [c_impl_listIndex]
 refine callR h2 rfl rfl (fun _=>rfl) ?_
 simp


open Classical in
noncomputable def cwO (f s:List (List Int)) (w:List Int):Option (List (List Int)):=if isSol f s∧isWd f.length w then cO f s w 1000 else none
open Classical in
noncomputable def cwC (f s:List (List Int)) (w:List Int):Int:=if isSol f s then (if isWd f.length w then cd3 (cO f s w 1000) else 2) else 1
noncomputable def cwR (f s:List (List Int)) (w:List Int):List (List Int):=lso (cwO f s w)
def S_cw (pg:Pg) (n:Nat):Prop:=∀ (f s:List (List Int)) (w:List Int),fits f→fits s→w.length≤1048576→∃ o,lso o=cwR f s w∧Call pg n [sol f s,ix w] [sol f s,ix w] (.tup [ownT o,I (cwC f s w)])
theorem wdC_1 {f s:List (List Int)} (h:¬isSol f s) (us:List (List Int)):wdC f s us=1:=by simp only [wdC,if_neg h]
theorem wdC_2 {f s:List (List Int)} (h:isSol f s) {us:List (List Int)} (h2:¬∀ u∈us,isWd f.length u):wdC f s us=2:=by simp only [wdC,if_pos h,if_neg h2]
theorem wdC_0 {f s:List (List Int)} (h:isSol f s) {us:List (List Int)} (h2:∀ u∈us,isWd f.length u):wdC f s us=0:=by simp only [wdC,if_pos h,if_pos h2]
theorem cO_len {f s:List (List Int)} (h:isSol f s) {w:List Int} (hw:inN f.length w) {lim:Nat} {Z:List (List Int)} (hz:cO f s w lim=some Z):Z.length≤lim∧(∀ x∈Z,inN f.length x∧x.length=w.length)∧w∈Z:=by
 have:=orbO_spec hz
 exact ⟨this.2,fun x hx=>CR_in (PM.of h.1) h.2.1 hw ((this.1.2 x).1 hx),(this.1.2 w).2 (TR.start _ _ w)⟩
theorem t_cw_spec {pg:Pg} (hp:pg.fn 215=some c_spec_ClassOfWord) (h37:S_code37 pg) (h339:S_class pg):S_cw pg 215:=by
 intro f s w hf hs hl
 refine ⟨cwO f s w,rfl,Call.intro hp rfl (by simp) ?_⟩
 show wp _ _ c_spec_ClassOfWord.body (post [.t 4,.t 5] _ _ _) _
 simp [c_spec_ClassOfWord]
 refine callR (h37 f s w w hf hs hl hl) rfl rfl (fun _=>rfl) ?_
 by_cases h:isSol f s
 · by_cases h1:isWd f.length w
   · have e0:=wdC_0 h (us:=[w,w]) (by simp [h1])
     have hc:=h339 f s w 1000 h (wd_in h1) (by have:=h1.2;omega) (by omega) (by omega)
     have e1:cwO f s w=cO f s w 1000:=by simp only [cwO,if_pos (And.intro h h1)]
     have e2:cwC f s w=cd3 (cO f s w 1000):=by simp only [cwC,if_pos h,if_pos h1]
     simp [e0,e1,e2]
     cases hg:cO f s w 1000 with
     | none =>
      rw [hg] at hc
      refine callR hc rfl rfl (fun _=>by simp [grpT]) ?_
      simp [grpT,ownT,cd3]
     | some X =>
      rw [hg] at hc
      refine callR hc rfl rfl (fun _=>by simp [grpT]) ?_
      simp [grpT,ownT,cd3]
   · have e0:=wdC_2 h (us:=[w,w]) (by simp [h1])
     have e1:cwO f s w=none:=by simp only [cwO,if_neg fun hh:_∧_=>h1 hh.2]
     have e2:cwC f s w=2:=by simp only [cwC,if_pos h,if_neg h1]
     simp [e0,e1,e2,ownT]
 · have e0:=wdC_1 h [w,w]
   have e1:cwO f s w=none:=by simp only [cwO,if_neg fun hh:_∧_=>h hh.1]
   have e2:cwC f s w=1:=by simp only [cwC,if_neg h]
   simp [e0,e1,e2,ownT]
def S_lim (pg:Pg):Prop:=∀ (f s:List (List Int)) (w:List Int),fits f→fits s→isSol f s→inN f.length w→w.length≤12→Call pg 297 [sol f s,ix w] [sol f s,ix w] (.tup [ownT (cO f s w 1000),I (cd3 (cO f s w 1000))])
theorem t_limitedClass {pg:Pg} (hp:pg.fn 297=some c_impl_limitedClass) (h352:S_wordClass pg):S_lim pg:=by
 intro f s w hf hs h hw hl
 refine Call.intro hp rfl (by simp) ?_
 show wp _ _ c_impl_limitedClass.body (post [.t 4,.t 5] _ _ _) _
 simp [c_impl_limitedClass]
 have hc:=h352 f s w 1000 hf hs h hw hl (by omega) (by omega)
 cases hg:cO f s w 1000 with
 | none =>
  rw [hg] at hc
  refine callR hc rfl rfl (fun _=>by simp [grpT]) ?_
  simp [grpT,ownT,cd3]
 | some X =>
  rw [hg] at hc
  refine callR hc rfl rfl (fun _=>by simp [grpT]) ?_
  simp [grpT,ownT,cd3]
theorem t_cw_impl {pg:Pg} (hp:pg.fn 158=some c_impl_ClassOfWord) (h38:S_chk38 pg) (h297:S_lim pg):S_cw pg 158:=by
 intro f s w hf hs hl
 refine ⟨cwO f s w,rfl,Call.intro hp rfl (by simp) ?_⟩
 show wp _ _ c_impl_ClassOfWord.body (post [.t 4,.t 5] _ _ _) _
 simp [c_impl_ClassOfWord]
 refine callR (h38 f s [w] hf hs (by simp) (by simpa using hl)) rfl rfl (fun _=>rfl) ?_
 by_cases h:isSol f s
 · by_cases h1:isWd f.length w
   · have e0:=wdC_0 h (us:=[w]) (by simp [h1])
     have hc:=h297 f s w hf hs h (wd_in h1) (by have:=h1.2;omega)
     have e1:cwO f s w=cO f s w 1000:=by simp only [cwO,if_pos (And.intro h h1)]
     have e2:cwC f s w=cd3 (cO f s w 1000):=by simp only [cwC,if_pos h,if_pos h1]
     simp [e0,e1,e2]
     cases hg:cO f s w 1000 with
     | none =>
      rw [hg] at hc
      refine callR hc rfl rfl (fun _=>by simp [ownT]) ?_
      simp [ownT,cd3]
     | some X =>
      rw [hg] at hc
      refine callR hc rfl rfl (fun _=>by simp [ownT]) ?_
      simp [ownT,cd3]
   · have e0:=wdC_2 h (us:=[w]) (by simp [h1])
     have e1:cwO f s w=none:=by simp only [cwO,if_neg fun hh:_∧_=>h1 hh.2]
     have e2:cwC f s w=2:=by simp only [cwC,if_pos h,if_neg h1]
     simp [e0,e1,e2,ownT]
 · have e0:=wdC_1 h [w]
   have e1:cwO f s w=none:=by simp only [cwO,if_neg fun hh:_∧_=>h hh.1]
   have e2:cwC f s w=1:=by simp only [cwC,if_neg h]
   simp [e0,e1,e2,ownT]
end Go.Mch
namespace Go.Mch

open Classical in
noncomputable def aeR (f s:List (List Int)) (u v:List Int):Bool:=if isSol f s∧isWd f.length u∧isWd f.length v then (match cO f s u 1000 with | some Z=>decide (v∈Z) | none=>false) else false
open Classical in
noncomputable def aeC (f s:List (List Int)) (u v:List Int):Int:=if isSol f s then (if isWd f.length u∧isWd f.length v then cd3 (cO f s u 1000) else 2) else 1
def S_ae (pg:Pg) (n:Nat):Prop:=∀ (f s:List (List Int)) (u v:List Int),fits f→fits s→u.length≤1048576→v.length≤1048576→Call pg n [sol f s,ix u,ix v] [sol f s,ix u,ix v] (.tup [B (aeR f s u v),I (aeC f s u v)])
theorem t_ae_impl {pg:Pg} (hp:pg.fn 214=some c_impl_AreEqualWords) (h38:S_chk38 pg) (h297:S_lim pg) (h341:S_listIndex pg):S_ae pg 214:=by
 intro f s u v hf hs hu hv
 refine Call.intro hp rfl (by simp) ?_
 show wp _ _ c_impl_AreEqualWords.body (post [.t 6,.t 7] _ _ _) _
 simp [c_impl_AreEqualWords]
 refine callR (h38 f s [u,v] hf hs (by simp) (by simp [hu,hv])) rfl rfl (fun _=>rfl) ?_
 by_cases h:isSol f s
 · by_cases h1:isWd f.length u∧isWd f.length v
   · have e0:=wdC_0 h (us:=[u,v]) (by simp [h1])
     have hl8:=h1.1.2
     have hc:=h297 f s u hf hs h (wd_in h1.1) (by omega)
     have e1:aeR f s u v=(match cO f s u 1000 with | some Z=>decide (v∈Z) | none=>false):=by simp only [aeR,if_pos (And.intro h h1)]
     have e2:aeC f s u v=cd3 (cO f s u 1000):=by simp only [aeC,if_pos h,if_pos h1]
     simp [e0,e1,e2]
     cases hg:cO f s u 1000 with
     | none =>
      rw [hg] at hc
      refine callR hc rfl rfl (fun _=>by simp [ownT]) ?_
      simp [ownT,cd3]
     | some X =>
      rw [hg] at hc
      have hX:=cO_len h (wd_in h1.1) hg
      obtain ⟨r,r1,r2⟩:=h341 X v (by omega) hv fun x hx=>by have:=(hX.2.1 x hx).2;omega
      refine callR hc rfl rfl (fun _=>by simp [ownT]) ?_
      simp [ownT,cd3]
      refine callR r2 rfl rfl (fun _=>rfl) ?_
      by_cases hm:v∈X
      · simp [r1.2 hm,hm]
      · have:¬0≤r:=fun hh=>hm (r1.1 hh)
        simp [this,hm]
   · have e0:=wdC_2 h (us:=[u,v]) (by simpa using h1)
     have e1:aeR f s u v=false:=by simp only [aeR,if_neg fun hh:_∧_=>h1 hh.2]
     have e2:aeC f s u v=2:=by simp only [aeC,if_pos h,if_neg h1]
     simp [e0,e1,e2]
 · have e0:=wdC_1 h [u,v]
   have e1:aeR f s u v=false:=by simp only [aeR,if_neg fun hh:_∧_=>h hh.1]
   have e2:aeC f s u v=1:=by simp only [aeC,if_neg h]
   simp [e0,e1,e2]


def hd0 (X:List (List Int)):List Int:=X.getD 0 []
noncomputable def nwO (f s:List (List Int)) (w:List Int):Option (List Int):=(cO f s w 1000).map hd0
noncomputable def nwR (f s:List (List Int)) (w:List Int):List Int:=hd0 (cwR f s w)
def S_nw (pg:Pg) (n:Nat):Prop:=∀ (f s:List (List Int)) (w:List Int),fits f→fits s→w.length≤1048576→∃ o,lso o=nwR f s w∧Call pg n [sol f s,ix w] [sol f s,ix w] (.tup [ownI o,I (cwC f s w)])
theorem cw_0 {f s:List (List Int)} {w:List Int} (h:cwC f s w=0):isSol f s∧isWd f.length w∧∃ Z,cO f s w 1000=some Z∧cwR f s w=Z:=by
 unfold cwC at h
 split at h
 · rename_i h1
   split at h
   · rename_i h2
     refine ⟨h1,h2,?_⟩
     cases hg:cO f s w 1000 with
     | none=>rw [hg] at h;simp [cd3] at h
     | some Z=>exact ⟨Z,rfl,by simp only [cwR,cwO,if_pos (And.intro h1 h2),hg,lso_some]⟩
   · omega
 · omega
theorem cw_ne {f s:List (List Int)} {w:List Int} (h:cwC f s w≠0):cwR f s w=[]:=by
 unfold cwR cwO
 split
 · rename_i h1
   cases hg:cO f s w 1000 with
   | none=>simp
   | some Z=>exact absurd (by simp only [cwC,if_pos h1.1,if_pos h1.2,hg];rfl) h
 · rfl
theorem ownT_ne {o:Option (List (List Int))} {Z:List (List Int)} (h:lso o=Z) (h2:0<Z.length):o=some Z:=by
 cases o with
 | none=>simp at h;subst h;simp at h2
 | some X=>simp at h;rw [h]
def S_nwI (pg:Pg):Prop:=∀ (f s:List (List Int)) (w:List Int),fits f→fits s→isSol f s→inN f.length w→w.length≤12→Call pg 342 [sol f s,ix w] [sol f s,ix w] (.tup [ownI (nwO f s w),I (cd3 (cO f s w 1000))])
theorem t_normalWord {pg:Pg} (hp:pg.fn 342=some c_impl_normalWord) (h297:S_lim pg):S_nwI pg:=by
 intro f s w hf hs h hw hl
 have hc:=h297 f s w hf hs h hw hl
 refine Call.intro hp rfl (by simp) ?_
 show wp _ _ c_impl_normalWord.body (post [.t 4,.t 5] _ _ _) _
 simp [c_impl_normalWord,nwO]
 cases hg:cO f s w 1000 with
 | none =>
  rw [hg] at hc
  refine callR hc rfl rfl (fun _=>by simp [ownT]) ?_
  simp [ownT,ownI,cd3]
 | some Z =>
  rw [hg] at hc
  have hZ:=cO_len h hw hg
  have hZ0:0<Z.length:=List.length_pos_of_mem hZ.2.2
  refine callR hc rfl rfl (fun _=>by simp [ownT]) ?_
  have e:hd0 Z=Z[0]:=by simp [hd0,List.getD_eq_getElem?_getD,List.getElem?_eq_getElem hZ0]
  simp [ownT,ownI,cd3,hZ0,e]
theorem t_nw_impl {pg:Pg} (hp:pg.fn 221=some c_impl_NormalWord) (h38:S_chk38 pg) (h342:S_nwI pg):S_nw pg 221:=by
 intro f s w hf hs hl
 by_cases h:isSol f s
 · by_cases h1:isWd f.length w
   · have e0:=wdC_0 h (us:=[w]) (by simp [h1])
     have hc:=h342 f s w hf hs h (wd_in h1) (by have:=h1.2;omega)
     have e2:cwC f s w=cd3 (cO f s w 1000):=by simp only [cwC,if_pos h,if_pos h1]
     have e1:cwR f s w=lso (cO f s w 1000):=by simp only [cwR,cwO,if_pos (And.intro h h1)]
     refine ⟨nwO f s w,by
      unfold nwR nwO
      rw [e1]
      cases cO f s w 1000 with
      | none=>rfl
      | some Z=>rfl,Call.intro hp rfl (by simp) ?_⟩
     show wp _ _ c_impl_NormalWord.body (post [.t 4,.t 5] _ _ _) _
     simp [c_impl_NormalWord]
     refine callR (h38 f s [w] hf hs (by simp) (by simpa using hl)) rfl rfl (fun _=>rfl) ?_
     simp [e0,e2]
     cases hg:nwO f s w with
     | none =>
      rw [hg] at hc
      refine callR hc rfl rfl (fun _=>by simp [ownI]) ?_
      simp [ownI]
     | some X =>
      rw [hg] at hc
      refine callR hc rfl rfl (fun _=>by simp [ownI]) ?_
      simp [ownI]
   · have e0:=wdC_2 h (us:=[w]) (by simp [h1])
     have e2:cwC f s w=2:=by simp only [cwC,if_pos h,if_neg h1]
     refine ⟨none,by simp [nwR,cw_ne (f:=f) (s:=s) (w:=w) (by omega),hd0],Call.intro hp rfl (by simp) ?_⟩
     show wp _ _ c_impl_NormalWord.body (post [.t 4,.t 5] _ _ _) _
     simp [c_impl_NormalWord]
     refine callR (h38 f s [w] hf hs (by simp) (by simpa using hl)) rfl rfl (fun _=>rfl) ?_
     simp [e0,e2,ownI]
 · have e0:=wdC_1 h [w]
   have e2:cwC f s w=1:=by simp only [cwC,if_neg h]
   refine ⟨none,by simp [nwR,cw_ne (f:=f) (s:=s) (w:=w) (by omega),hd0],Call.intro hp rfl (by simp) ?_⟩
   show wp _ _ c_impl_NormalWord.body (post [.t 4,.t 5] _ _ _) _
   simp [c_impl_NormalWord]
   refine callR (h38 f s [w] hf hs (by simp) (by simpa using hl)) rfl rfl (fun _=>rfl) ?_
   simp [e0,e2,ownI]
end Go.Mch
namespace Go.Mch

section
variable {mv mv':List Int→Nat→List Int} {m m':Nat} {w x y:List Int}
theorem TR.trans (h1:TR mv m w x) (h2:TR mv m x y):TR mv m w y:=h2 _ h1 fun _ hz _ hi=>TR.step mv m w hz hi
theorem TR.symm {P:List Int→Prop} (hw:P w) (hc:∀ y,P y→∀ i,i<m→P (mv y i)) (hb:∀ y,P y→∀ i,i<m→∃ j,j<m∧mv (mv y i) j=y) (h:TR mv m w x):TR mv m x w :=
 (h (fun y=>P y∧TR mv m y w) ⟨hw,TR.start mv m w⟩ fun y hy i hi=>⟨hc y hy.1 i hi,by
  obtain ⟨j,hj,he⟩:=hb y hy.1 i hi
  have h1:TR mv m (mv y i) y:=by
   have:=TR.step mv m (mv y i) (TR.start mv m (mv y i)) hj
   rw [he] at this
   exact this
  exact h1.trans hy.2⟩).2
end

theorem dW_app2 {f s:List (List Int)} {u r:List Int} {i:Nat}:dW f s (u++r) (u.length+i)=u++dW f s r i:=by
 have h1:(u++r).getD (u.length+i) 0=r.getD i 0:=by rw [List.getD_eq_getElem?_getD,List.getD_eq_getElem?_getD,List.getElem?_append_right (by omega),Nat.add_sub_cancel_left]
 have h2:(u++r).getD (u.length+i+1) 0=r.getD (i+1) 0:=by rw [List.getD_eq_getElem?_getD,List.getD_eq_getElem?_getD,List.getElem?_append_right (by omega),show u.length+i+1-u.length=i+1 from by omega]
 unfold dW
 rw [h1,h2,List.set_append_right _ _ (by omega),List.set_append_right _ _ (by omega),Nat.add_sub_cancel_left,show u.length+i+1-u.length=i+1 from by omega]
theorem inN_getD {n:Nat} {w:List Int} (h:inN n w) {i:Nat} (hi:i<w.length):0≤w.getD i 0∧w.getD i 0<n:=by
 rw [List.getD_eq_getElem?_getD,List.getElem?_eq_getElem hi]
 exact h _ (List.getElem_mem hi)
theorem dW_back {f s g t:List (List Int)} {w:List Int} {i:Nat} (hi:i+1<w.length)
 (h:∀ a b,a=w.getD i 0→b=w.getD (i+1) 0→g2 g (g2 f a b) (g2 s a b)=a∧g2 t (g2 f a b) (g2 s a b)=b):dW g t (dW f s w i) i=w:=by
 obtain ⟨h1,h2⟩:=h _ _ rfl rfl
 have e1:(dW f s w i).getD i 0=g2 f (w.getD i 0) (w.getD (i+1) 0):=by
  unfold dW
  rw [List.getD_eq_getElem?_getD,List.getElem?_set_ne (by omega),List.getElem?_set_self (by omega)]
  rfl
 have e2:(dW f s w i).getD (i+1) 0=g2 s (w.getD i 0) (w.getD (i+1) 0):=by
  unfold dW
  rw [List.getD_eq_getElem?_getD,List.getElem?_set_self (by simpa using hi)]
  rfl
 have e3:dW g t (dW f s w i) i=((dW f s w i).set i (w.getD i 0)).set (i+1) (w.getD (i+1) 0):=by
  rw [dW,e1,e2,h1,h2]
 rw [e3]
 apply List.ext_getElem
 · simp
 · intro j j1 j2
   have hw1:w.getD i 0=w[i]'(by omega):=by rw [List.getD_eq_getElem?_getD,List.getElem?_eq_getElem (by omega)];rfl
   have hw2:w.getD (i+1) 0=w[i+1]:=by rw [List.getD_eq_getElem?_getD,List.getElem?_eq_getElem hi];rfl
   by_cases hj1:i+1=j
   · subst hj1
     rw [List.getElem_set_self,hw2]
   · rw [List.getElem_set_ne (by omega)]
     by_cases hj0:i=j
     · subst hj0
       rw [List.getElem_set_self,hw1]
     · rw [List.getElem_set_ne (by omega)]
       unfold dW
       rw [List.getElem_set_ne (by omega),List.getElem_set_ne (by omega)]
theorem inv_g2 {f s:List (List Int)} (h:PM f s) (hi:Inj f s) {a b:Int} (ha:0≤a∧a<f.length) (hb:0≤b∧b<f.length) :
 (g2 (invF f s) (g2 f a b) (g2 s a b)=a∧g2 (invS f s) (g2 f a b) (g2 s a b)=b)∧g2 f (g2 (invF f s) a b) (g2 (invS f s) a b)=a∧g2 s (g2 (invF f s) a b) (g2 (invS f s) a b)=b:=by
 have hx:a.toNat<f.length:=by omega
 have hy:b.toNat<f.length:=by omega
 constructor
 · have h1:=h.v2f a.toNat b.toNat
   have h2:=h.v2s a.toNat b.toNat
   have h3:=pre_at h hi hx hy
   have e1:(g2 f a b).toNat=σN f a.toNat b.toNat:=rfl
   have e2:(g2 s a b).toNat=τN s b.toNat a.toNat:=rfl
   unfold g2 at e1 e2 ⊢
   rw [e1,e2,invF,invS,v2_tabL h1.2 h2.2,v2_tabL h1.2 h2.2,h3.1,h3.2]
   omega
 · have h1:=pre_self h hi hx hy
   have e1:g2 (invF f s) a b=(preX f s a.toNat b.toNat:Int):=by unfold g2 invF;rw [v2_tabL hx hy]
   have e2:g2 (invS f s) a b=(preY f s a.toNat b.toNat:Int):=by unfold g2 invS;rw [v2_tabL hx hy]
   rw [e1,e2]
   obtain ⟨p1,p2,p3,p4⟩:=h1
   have h2:=h.v2f (preX f s a.toNat b.toNat) (preY f s a.toNat b.toNat)
   have h3:=h.v2s (preX f s a.toNat b.toNat) (preY f s a.toNat b.toNat)
   unfold g2
   rw [Int.toNat_natCast,Int.toNat_natCast]
   omega
theorem cMv_back {f s:List (List Int)} (h:PM f s) (hi:Inj f s) {w:List Int} (hw:inN f.length w) {p:Nat} (hp:p<2*(w.length-1)):∃ q,q<2*(w.length-1)∧cMv f s (cMv f s w p) q=w:=by
 have ha:=inN_getD hw (i:=p / 2) (by omega)
 have hb:=inN_getD hw (i:=p / 2+1) (by omega)
 have hg:=inv_g2 h hi ha hb
 by_cases he:p % 2=0
 · refine ⟨p+1,by omega,?_⟩
   have e1:cMv f s w p=dW f s w (p / 2):=by rw [cMv,if_pos he]
   have e2:∀ x,cMv f s x (p+1)=dW (invF f s) (invS f s) x (p / 2):=fun x=>by rw [cMv,if_neg (by omega),show (p+1) / 2=p / 2 from by omega]
   rw [e1,e2]
   exact dW_back (by omega) fun a b ha hb=>by rw [ha,hb];exact hg.1
 · refine ⟨p-1,by omega,?_⟩
   have e1:cMv f s w p=dW (invF f s) (invS f s) w (p / 2):=by rw [cMv,if_neg he]
   have e2:∀ x,cMv f s x (p-1)=dW f s x (p / 2):=fun x=>by rw [cMv,if_pos (by omega),show (p-1) / 2=p / 2 from by omega]
   rw [e1,e2]
   exact dW_back (by omega) fun a b ha hb=>by rw [ha,hb];exact hg.2

def Eqw (f s:List (List Int)) (u v:List Int):Prop:=TR (cMv f s) (2*(u.length-1)) u v
section
variable {f s:List (List Int)} (h:PM f s) (hi:Inj f s)
include h hi
end
end Go.Mch
namespace Go.Mch

theorem frz_tb (X:List (List Int)) (y:Value):T.frz .fresh (.tup [.mem .own (some 1) (rows X),.sc y])=.tup [.mem .fresh (some 1) (rowsF X),.sc y]:=by
 show T.tup [T.mem .fresh (some 1) (T.frzL .fresh (rows X)),.sc y]=_
 rw [frzRowsF]


end Go.Mch
namespace Go.Mch

def iv (f s:List (List Int)) (x y:Nat):Prop:=v2 f (σN f x y) (τN s y x)=x∧v2 s (σN f x y) (τN s y x)=y
instance (f s:List (List Int)) (x y:Nat):Decidable (iv f s x y):=by unfold iv;infer_instance
def isInv (f s:List (List Int)):Prop:=∀ x,x<f.length→∀ y,y<f.length→iv f s x y
def S_twice (pg:Pg) (n:Nat):Prop:=∀ f s:List (List Int),PM f s→Call pg n [sol f s] [sol f s] (B (dec (isInv f s)))
set_option maxRecDepth 10000 in
theorem t_l02Twice {pg:Pg} (hp:pg.fn 351=some c_spec_l02Twice):S_twice pg 351:=by
 intro f s h
 have h0:=h.pos
 have h12:=h.small
 have hls:=h.len
 have fr':=fun x hx=>h.tf.row (x:=x) hx
 have sr':∀ x (hx:x<s.length),(s[x]).length=f.length:=fun x hx=>(h.ts.row hx).trans hls
 refine Call.intro hp rfl (by simp) ?_
 show wp _ _ c_spec_l02Twice.body (post [.t 2] _ _ _) _
 simp [c_spec_l02Twice]
 refine wpLoop_count (fun a e=>(∀ x,x<a→∀ y,y<f.length→iv f s x y)∧e=fr [(1,some (.val (.mem .own none [tb f,tb s]))),(3,some (.val (I a)))]) f.length ?_ ?_ 0 _ (by omega) ⟨fun x hx=>by omega,by simp⟩
 · rintro a e ha ⟨h1,rfl⟩
   simp [ha]
   refine wpLoop_count (fun b e=>(∀ y,y<b→iv f s a y)∧e=fr [(1,some (.val (.mem .own none [tb f,tb s]))),(3,some (.val (I a))),(4,some (.val (I b)))]) f.length ?_ ?_ 0 _ (by omega) ⟨fun x hx=>by omega,by simp⟩
   · rintro b e hb ⟨h2,rfl⟩
     have hf:=h.v2f a b
     have hs2:=h.v2s a b
     have has:a<s.length:=by omega
     have hfr:=fr' a ha
     have hsr:=sr' a has
     have hfg:(f[a])[b]'(by omega)=v2 f a b:=get_v2 _ _
     have hsg:(s[a])[b]'(by omega)=v2 s a b:=get_v2 _ _
     have hiv:iv f s a b↔v2 f (σN f a b) (τN s b a)=a∧v2 s (σN f a b) (τN s b a)=b:=Iff.rfl
     have hf3:=h.v2f (σN f a b) (τN s b a)
     have hs3:=h.v2s (σN f a b) (τN s b a)
     obtain ⟨hf1,hf2⟩:=hf
     obtain ⟨hs1,hs2⟩:=hs2
     rw [← hf1] at hfg
     rw [← hs1] at hsg
     generalize σN f a b=u at *
     generalize τN s b a=v at *
     have hus:u<s.length:=by omega
     have hfu:=fr' u hf2
     have hsu:=sr' u hus
     have hfg2:(f[u])[v]'(by omega)=v2 f u v:=get_v2 _ _
     have hsg2:(s[u])[v]'(by omega)=v2 s u v:=get_v2 _ _
     by_cases hx:v2 f u v=a
     · by_cases hy:v2 s u v=b
       · simp [ha,hb,has,hfr,hsr,hfg,hsg,hf2,hs2,hus,hfu,hsu,hfg2,hsg2,hx,hy]
         refine ⟨by omega,fun y hyb=>?_⟩
         rcases Nat.lt_or_ge y b with h3 | h3
         · exact h2 y h3
         · have:y=b:=by omega
           subst this
           exact hiv.2 ⟨hx,hy⟩
       · have hn:¬isInv f s:=fun hh=>hy (hiv.1 (hh a ha b hb)).2
         simp [ha,hb,has,hfr,hsr,hfg,hsg,hf2,hs2,hus,hfu,hsu,hfg2,hsg2,hx,hy,dec_false hn]
     · have hn:¬isInv f s:=fun hh=>hx (hiv.1 (hh a ha b hb)).1
       simp [ha,hb,has,hfr,hsr,hfg,hsg,hf2,hs2,hfu,hfg2,hx,dec_false hn,undefV]
   · rintro e ⟨h2,rfl⟩
     simp
     refine ⟨by omega,fun x hx y hy=>?_⟩
     rcases Nat.lt_or_ge x a with h3 | h3
     · exact h1 x h3 y hy
     · have:x=a:=by omega
       subst this
       exact h2 y hy
 · rintro e ⟨h1,rfl⟩
   have hn:isInv f s:=fun x hx y hy=>h1 x hx y hy
   simp [dec_true hn]


end Go.Mch
namespace Go.Mch

def RowIn (n:Nat) (r:List Int):Prop:=r.length=n∧∀ v∈r,0≤v∧v<n
def TabN (n:Nat) (t:List (List Int)):Prop:=t.length=n∧∀ r∈t,RowIn n r
abbrev ownL (p:List Int):T:=.mem .own (some 1) (p.map I)
abbrev ownTb (t:List (List Int)):T:=.mem .own (some 1) (rows t)
theorem RowIn.set {n i:Nat} {r:List Int} {v:Int} (h:RowIn n r) (hv:0≤v∧v<n):RowIn n (r.set i v):=by
 refine ⟨by simpa using h.1,fun x hx=>?_⟩
 rcases List.mem_or_eq_of_mem_set hx with h1 | h1
 · exact h.2 x h1
 · rw [h1];exact hv
theorem RowIn.swap {n i j:Nat} {r:List Int} (h:RowIn n r) (hd:r.Nodup) (hi:i<r.length) (hj:j<r.length):RowIn n ((r.set i r[j]).set j r[i])∧((r.set i r[j]).set j r[i]).Nodup :=
 ⟨(h.set (h.2 _ (List.getElem_mem hj))).set (h.2 _ (List.getElem_mem hi)),(List.set_set_perm hi hj).nodup_iff.2 hd⟩
theorem idL_rowIn (n:Nat):RowIn n (idL n)∧(idL n).Nodup:=by
 refine ⟨⟨by simp [idL],fun v hv=>?_⟩,?_⟩
 · simp only [idL,List.mem_map,List.mem_range] at hv
   obtain ⟨i,hi,rfl⟩:=hv
   omega
 · unfold idL
   exact List.Pairwise.map _ (fun a b h=>by omega) List.nodup_range
theorem S_nxt.at {pg:Pg} (h:S_nxt pg) {c:Rw Int} {s:Int×Int} (hs:Sr c s) {n:Nat} (hn:0<n):∃ (s':Int×Int) (r:Nat),(Sr c s'∧r<n)∧Call pg 336 [src c s,I n] [src c s',I n] (I r):=by
 obtain ⟨s',r,⟨g1,g2,g3,_⟩,hc⟩:=h c s n hs
 have g3:=g3 (by omega)
 obtain ⟨i,rfl⟩:∃ i:Nat,r=i:=⟨r.toNat,by omega⟩
 exact ⟨s',i,⟨g1,by omega⟩,hc⟩
def S_drw (pg:Pg):Prop:=∀ (c:Rw Int) (s:Int×Int) (n:Nat),Sr c s→n≤64→∃ (s':Int×Int) (p:List Int),(Sr c s'∧RowIn n p∧p.Nodup)∧Call pg 368 [src c s,I n] [src c s',I n] (ownL p)
set_option maxRecDepth 10000 in
theorem t_drw {pg:Pg} (hp:pg.fn 368=some c_spec_l01Draw) (h336:S_nxt pg) (h334:S_unit pg):S_drw pg:=by
 intro c s n hs hn
 have hfind:=Call.findA (α:=(Int×Int)×List Int) (Q:=fun Y=>Sr c Y.1∧RowIn n Y.2∧Y.2.Nodup) (args:=[src c s,I n]) (args':=fun Y=>[src c Y.1,I n]) (r:=fun Y=>ownL Y.2) hp rfl (by simp [F.lets,c_spec_l01Draw,List.range,List.range.loop]) (by simp [kindOf]) ?_
 · obtain ⟨Y,h1,h2⟩:=hfind
   exact ⟨_,_,h1,h2⟩
 show wp _ _ c_spec_l01Draw.body (postX _ [.t 4] _ _ _) _
 generalize hR:postX (fun Y:(Int×Int)×List Int=>Sr c Y.1∧RowIn n Y.2∧Y.2.Nodup) [.t 4] [src c s,I n] (fun Y=>[src c Y.1,I n]) (fun Y=>ownL Y.2)=R
 simp [c_spec_l01Draw]
 refine callR (h334 n (by omega)) rfl rfl (fun _=>by simp) ?_
 simp
 refine ⟨by omega,?_⟩
 refine wpLoop_lower (α:=((Int×Int)×List Int)×Nat) (fun z=>z.2) (fun z e=>(Sr c z.1.1∧RowIn n z.1.2∧z.1.2.Nodup)∧z.2≤n∧e=fr [(0,some (.val (src c z.1.1))),(1,some (.val (I n))),(5,some (.val (ownL z.1.2))),(6,some (.val (I ((z.2:Int)-1))))]) ?_ ((s,idL n),n) _ ⟨⟨hs,(idL_rowIn n).1,(idL_rowIn n).2⟩,Nat.le_refl _,rfl⟩
 rintro ⟨⟨s1,p⟩,j⟩ e ⟨⟨g1,g2,g3⟩,g4,rfl⟩
 simp only at g1 g2 g3 g4
 by_cases hj:2≤j
 · obtain ⟨i,rfl⟩:∃ i,j=i+1:=⟨j-1,by omega⟩
   obtain ⟨s2,r,⟨k1,k2⟩,hc⟩:=h336.at g1 (n:=i+1) (by omega)
   have hi:0<i:=by omega
   have hil:i<p.length:=by rw [g2.1];omega
   have hrl:r<p.length:=by rw [g2.1];omega
   have hsw:=g2.swap g3 hil hrl
   simp [hi]
   refine ⟨by omega,?_⟩
   refine callS (ts':=[rawB c,I s2.1,H64 s2.2]) (r:=I r) (by simpa using hc) ?_
   simp [hil,hrl]
   exact ⟨by omega,by omega,by omega,s2.1,s2.2,(p.set i p[r]).set r p[i],i,by omega,⟨k1,hsw.1,hsw.2⟩,by omega,by simp only [ownL,List.map_set]⟩
 · have hj':¬(1:Int)<(j:Int):=by omega
   simp [hj']
   subst hR
   exact ⟨(s1,p),⟨g1,g2,g3⟩,by simp [post]⟩
theorem rows_snoc (t:List (List Int)) (q:List Int):rows (t++[q])=rows t++[ownL q]:=by simp [rows]
theorem TabN.snoc {n k:Nat} {t:List (List Int)} {r:List Int} (h:t.length=k∧∀ r∈t,RowIn n r) (hr:RowIn n r):(t++[r]).length=k+1∧∀ x∈t++[r],RowIn n x :=
 ⟨by simp [h.1],fun x hx=>by
  rcases List.mem_append.1 hx with h1 | h1
  · exact h.2 x h1
  · rw [List.mem_singleton.1 h1];exact hr⟩
def S_tbs (pg:Pg):Prop:=∀ (c:Rw Int) (s:Int×Int) (n:Nat),Sr c s→0<n→n≤64→∃ (s':Int×Int) (t:List (List Int)),(Sr c s'∧TabN n t)∧Call pg 428 [src c s,I n] [src c s',I n] (ownTb t)
set_option maxRecDepth 10000 in
theorem t_tbs {pg:Pg} (hp:pg.fn 428=some c_spec_l01Tables) (h336:S_nxt pg) (h368:S_drw pg):S_tbs pg:=by
 intro c s n hs h0 hn
 have hfind:=Call.findA (α:=(Int×Int)×List (List Int)) (Q:=fun Y=>Sr c Y.1∧TabN n Y.2) (args:=[src c s,I n]) (args':=fun Y=>[src c Y.1,I n]) (r:=fun Y=>ownTb Y.2) hp rfl (by simp [F.lets,c_spec_l01Tables,List.range,List.range.loop]) (by simp [kindOf]) ?_
 · obtain ⟨Y,h1,h2⟩:=hfind
   exact ⟨_,_,h1,h2⟩
 show wp _ _ c_spec_l01Tables.body (postX _ [.t 4] _ _ _) _
 generalize hR:postX (fun Y:(Int×Int)×List (List Int)=>Sr c Y.1∧TabN n Y.2) [.t 4] [src c s,I n] (fun Y=>[src c Y.1,I n]) (fun Y=>ownTb Y.2)=R
 obtain ⟨s1,kd,⟨k1,_⟩,hc1⟩:=h336.at hs (n:=3) (by omega)
 obtain ⟨s2,p,⟨k2,k3,_⟩,hc2⟩:=h368 c s1 n k1 hn
 simp [c_spec_l01Tables]
 refine callS (ts':=[rawB c,I s1.1,H64 s1.2]) (r:=I kd) (by simpa using hc1) ?_
 simp
 refine callS (ts':=[rawB c,I s2.1,H64 s2.2]) (r:=ownL p) (by simpa using hc2) ?_
 simp
 refine wpLoop_count (fun k e=>∃ (s3:Int×Int) (t:List (List Int)),(Sr c s3∧t.length=k∧∀ r∈t,RowIn n r)∧e=fr [(0,some (.val (src c s3))),(1,some (.val (I n))),(5,some (.val (ownTb t))),(6,some (.val (I kd))),(7,some (.val (ownL p))),(8,some (.val (I k)))]) n ?_ ?_ 0 _ (by omega) ⟨s2,[],⟨k2,rfl,by simp⟩,rfl⟩
 · rintro k e hk ⟨s3,t,⟨g1,g2,g3⟩,rfl⟩
   obtain ⟨s4,q,⟨j1,j2,_⟩,hc3⟩:=h368 c s3 n g1 hn
   simp [hk]
   refine callS (ts':=[rawB c,I s4.1,H64 s4.2]) (r:=ownL q) (by simpa using hc3) ?_
   simp
   by_cases hk0:kd=0
   · simp [hk0]
     refine wpLoop_count (fun j e=>∃ (s5:Int×Int) (q:List Int),(Sr c s5∧RowIn n q)∧e=fr [(0,some (.val (src c s5))),(1,some (.val (I n))),(5,some (.val (ownTb t))),(6,some (.val (I 0))),(7,some (.val (ownL p))),(8,some (.val (I k))),(9,some (.val (ownL q))),(10,some (.val (I j)))]) n ?_ ?_ 0 _ (by omega) ⟨s4,q,⟨j1,j2⟩,by simp⟩
     · rintro j e hj ⟨s5,q,⟨i1,i2⟩,rfl⟩
       obtain ⟨s6,r,⟨m1,m2⟩,hc4⟩:=h336.at i1 (n:=n) h0
       have hl:j<q.length:=by rw [i2.1];exact hj
       simp [hj]
       refine callS (ts':=[rawB c,I s6.1,H64 s6.2]) (r:=I r) (by simpa using hc4) ?_
       simp [hl]
       exact ⟨by omega,by omega,s6.1,s6.2,q.set j r,⟨m1,i2.set ⟨by omega,by omega⟩⟩,by simp only [ownL,List.map_set]⟩
     · rintro e ⟨s5,q,⟨i1,i2⟩,rfl⟩
       simp
       exact ⟨by unfold roomy;omega,by omega,s5.1,s5.2,t++[q],⟨i1,(TabN.snoc ⟨g2,g3⟩ i2).1,(TabN.snoc ⟨g2,g3⟩ i2).2⟩,by simp only [ownTb,rows_snoc]⟩
   · by_cases hk1:kd=1
     · simp [hk1]
       refine wpLoop_count (fun j e=>∃ (q:List Int),RowIn n q∧e=fr [(0,some (.val (src c s4))),(1,some (.val (I n))),(5,some (.val (ownTb t))),(6,some (.val (I 1))),(7,some (.val (ownL p))),(8,some (.val (I k))),(9,some (.val (ownL q))),(11,some (.val (I j)))]) n ?_ ?_ 0 _ (by omega) ⟨q,j2,by simp⟩
       · rintro j e hj ⟨q,i2,rfl⟩
         have hl:j<q.length:=by rw [i2.1];exact hj
         obtain ⟨m,hm,hm2⟩:∃ m:Nat,((k:Int)+j).tmod n=m∧m<p.length:=⟨(k+j) % n,by rw [Int.tmod_eq_emod_of_nonneg (by omega),Int.natCast_emod,Int.natCast_add],by rw [k3.1];exact Nat.mod_lt _ h0⟩
         have hn0:¬n=0:=by omega
         have hv:=k3.2 _ (List.getElem_mem hm2)
         simp [hj,hl,hm,hm2,hn0]
         exact ⟨by omega,by omega,by omega,q.set j p[m],i2.set hv,by simp only [ownL,List.map_set]⟩
       · rintro e ⟨q,i2,rfl⟩
         simp
         exact ⟨by unfold roomy;omega,by omega,s4.1,s4.2,t++[q],⟨j1,(TabN.snoc ⟨g2,g3⟩ i2).1,(TabN.snoc ⟨g2,g3⟩ i2).2⟩,by simp only [ownTb,rows_snoc]⟩
     · have hk1':¬(kd:Int)=1:=by omega
       simp [hk0,hk1']
       exact ⟨by unfold roomy;omega,by omega,s4.1,s4.2,t++[q],⟨j1,(TabN.snoc ⟨g2,g3⟩ j2).1,(TabN.snoc ⟨g2,g3⟩ j2).2⟩,by simp only [ownTb,rows_snoc]⟩
 · rintro e ⟨s3,t,⟨g1,g2,g3⟩,rfl⟩
   simp
   subst hR
   exact ⟨(s3,t),⟨g1,g2,g3⟩,by simp [post]⟩
end Go.Mch
namespace Go.Mch

theorem Pm.inL {p:List Int} (h:Pm p):inN p.length p:=h.pm.1
theorem invL_get {p:List Int} {x:Nat} (h:x<(invL p).length):(invL p)[x]=(invQ p x:Int):=by simp [invL]

end Go.Mch
namespace Go.Mch
def imZ (t:List (List Int)) (p:List Int) (a b:Nat):List (List Int):=tabL t.length fun x y=>if invQ p x<a∨(invQ p x=a∧invQ p y<b) then imG t p x y else 0
@[simp] theorem imZ_length (t:List (List Int)) (p:List Int) (a b:Nat):(imZ t p a b).length=t.length:=by simp [imZ]
theorem imZ_row (t:List (List Int)) (p:List Int) (a b:Nat) {i:Nat} (h:i<(imZ t p a b).length):(imZ t p a b)[i].length=t.length:=tabL_row (by rw [← imZ];exact List.getElem_mem h)
theorem imZ_next {t:List (List Int)} {p:List Int} (h:Pm p) (hl:p.length=t.length) (a:Nat):imZ t p a t.length=imZ t p (a+1) 0:=by
 apply tabL_congr
 intro x y hx hy
 have:=h.lt (x:=y) (by omega)
 have e:(invQ p x<a∨(invQ p x=a∧invQ p y<t.length))↔(invQ p x<a+1∨(invQ p x=a+1∧invQ p y<0)):=by omega
 simp only [e]
theorem imZ_last {t:List (List Int)} {p:List Int} (h:Pm p) (hl:p.length=t.length):imZ t p t.length 0=imT t p:=by
 apply tabL_congr
 intro x y hx hy
 have:=h.lt (x:=x) (by omega)
 rw [if_pos (by omega)]
theorem imZ_set {t:List (List Int)} {p:List Int} (h:Pm p) (hl:p.length=t.length) {a b:Nat} (ha:a<p.length) (hb:b<p.length) {P Q:Nat} (hP:(p[a]).toNat=P) (hQ:(p[b]).toNat=Q) (hPl:P<(imZ t p a b).length) :
 (imZ t p a b).set P ((imZ t p a b)[P].set Q (p.getD (v2 t a b).toNat 0))=imZ t p a (b+1):=by
 have qP:invQ p P=a:=hP▸h.back ha
 have qQ:invQ p Q=b:=hQ▸h.back hb
 have hinj:∀ x,x<p.length→invQ p x=a→x=P:=fun x hx he=>by
  have:=h.at hx
  rw [he] at this
  simp [ha] at this
  omega
 have hinj2:∀ x,x<p.length→invQ p x=b→x=Q:=fun x hx he=>by
  have:=h.at hx
  rw [he] at this
  simp [hb] at this
  omega
 apply List.ext_getElem
 · simp
 · intro i h1 h2
   have hi:i<t.length:=by simpa using h2
   rw [List.getElem_set]
   by_cases hiP:P=i
   · subst hiP
     rw [if_pos rfl]
     apply List.ext_getElem
     · simp [imZ_row]
     · intro j h3 h4
       have hj:j<t.length:=by simpa [imZ_row] using h4
       rw [List.getElem_set]
       simp only [imZ,tabL,List.getElem_map,List.getElem_range]
       by_cases hjQ:Q=j
       · subst hjQ
         rw [if_pos rfl,if_pos (by omega),imG,qP,qQ]
       · rw [if_neg hjQ]
         have:invQ p j≠b:=fun he=>hjQ (hinj2 j (by omega) he).symm
         have e:(invQ p P<a∨(invQ p P=a∧invQ p j<b))↔(invQ p P<a∨(invQ p P=a∧invQ p j<b+1)):=by omega
         simp only [e]
   · rw [if_neg hiP]
     have hne:invQ p i≠a:=fun he=>hiP (hinj i (by omega) he).symm
     simp only [imZ,tabL,List.getElem_map,List.getElem_range]
     refine List.map_congr_left fun j _=>?_
     have e:(invQ p i<a∨(invQ p i=a∧invQ p j<b))↔(invQ p i<a∨(invQ p i=a∧invQ p j<b+1)):=by omega
     simp only [e]
def zTab (n k:Nat):List (List Int):=(List.range k).map fun _=>List.replicate n 0
theorem imZ_zero (t:List (List Int)) (p:List Int):imZ t p 0 0=zTab t.length t.length:=by
 unfold imZ zTab tabL
 refine List.map_congr_left fun x _=>?_
 apply List.ext_getElem
 · simp
 · intro i h1 h2;simp
theorem imZ_setD {t:List (List Int)} {p:List Int} (h:Pm p) (hl:p.length=t.length) {a b:Nat} (ha:a<p.length) (hb:b<p.length) {P Q:Nat} (hP:(p[a]).toNat=P) (hQ:(p[b]).toNat=Q) :
 (imZ t p a b).set P (((imZ t p a b).getD P []).set Q (p.getD (v2 t a b).toNat 0))=imZ t p a (b+1):=by
 have ra:=h.inL _ (List.getElem_mem ha)
 have hPl:P<(imZ t p a b).length:=by rw [imZ_length];omega
 have:=imZ_set h hl ha hb hP hQ hPl
 rw [← this,List.getD_eq_getElem?_getD,List.getElem?_eq_getElem hPl]
 rfl
set_option maxRecDepth 10000 in
theorem t_rename {pg:Pg} (hp:pg.fn 367=some c_spec_l01Rename):S_image pg 367:=by
 intro t p ht h hl
 have h12:=h.sm
 have h0:=h.pos
 refine Call.intro hp rfl (by simp) ?_
 show wp _ _ c_spec_l01Rename.body (post [.t 4] _ _ _) _
 simp [c_spec_l01Rename]
 refine wpLoop_count (fun k e=>e=fr [(0,some (.val (tb t))),(1,some (.val (ix p))),(5,some (.val (ownTb (zTab t.length k)))),(6,some (.val (I k)))]) t.length ?_ ?_ 0 _ (by omega) ?_
 · rintro k e hk rfl
   have hz:(zTab t.length (k+1))=zTab t.length k++[List.replicate t.length 0]:=by simp [zTab,List.range_succ]
   have hzl:(zTab t.length k).length=k:=by simp [zTab]
   rw [hz]
   generalize zTab t.length k=Z at *
   simp [hk]
   exact ⟨by unfold roomy;omega,by unfold roomy;omega,by omega,by simp only [ownTb,ownL,rows_snoc,List.map_replicate]⟩
 · rintro e rfl
   rw [← imZ_zero t p]
   simp
   refine wpLoop_count (fun a e=>e=fr [(0,some (.val (tb t))),(1,some (.val (ix p))),(5,some (.val (ownTb (imZ t p a 0)))),(7,some (.val (I a)))]) t.length ?_ ?_ 0 _ (by omega) ?_
   · rintro a e ha rfl
     rw [← imZ_next h hl a]
     have hap:a<p.length:=by omega
     have ra:=h.inL _ (List.getElem_mem hap)
     have hXl:=imZ_length t p a 0
     have hXr:=fun {i:Nat} hi=>imZ_row t p a 0 (i:=i) hi
     obtain ⟨P,hP⟩:∃ P,p[a]=P:=⟨_,rfl⟩
     rw [hP] at ra
     obtain ⟨P,rfl⟩:∃ P':Nat,P=P':=⟨P.toNat,by omega⟩
     have hPX:P<(imZ t p a 0).length:=by omega
     have hr:=hXr hPX
     have hPt:P<t.length:=by omega
     have hgr:(rows (imZ t p a 0))[P]?=some (ownL (imZ t p a 0)[P]):=by rw [rows_get,List.getElem?_eq_getElem hPX];rfl
     simp [ha,hap,hP,hPt,hr]
     refine wpLoop_count (fun b e=>e=fr [(0,some (.val (tb t))),(1,some (.val (ix p))),(5,some (.val (ownTb (imZ t p a b)))),(7,some (.val (I a))),(8,some (.sref 5 [P] 1 0 t.length)),(9,some (.val (I b)))]) t.length ?_ ?_ 0 _ (by omega) rfl
     · rintro b e hb rfl
       have hbp:b<p.length:=by omega
       have rb:=h.inL _ (List.getElem_mem hbp)
       have hXl:=imZ_length t p a b
       have hXr:=fun {i:Nat} hi=>imZ_row t p a b (i:=i) hi
       obtain ⟨Q,hQ⟩:∃ Q,p[b]=Q:=⟨_,rfl⟩
       rw [hQ] at rb
       obtain ⟨Q,rfl⟩:∃ Q':Nat,Q=Q':=⟨Q.toNat,by omega⟩
       have hset:=imZ_setD h hl hap hbp (P:=P) (Q:=Q) (by rw [hP];simp) (by rw [hQ];simp)
       have hrow:=ht.row ha
       have hbr:b<(t[a]).length:=by rw [hrow];exact hb
       have hv:=get_v2 ha hbr
       have hv1:=ht.nonneg a b
       have hv2:=ht.lt (by omega) a b
       rw [← hset]
       clear hset
       generalize v2 t a b=v at *
       have hvl:v.toNat<p.length:=by omega
       have hvl2:v<p.length:=by omega
       have hg:p[v.toNat]=p.getD v.toNat 0:=by simp [hvl]
       generalize p.getD v.toNat 0=w at *
       clear hgr hr
       generalize imZ t p a b=X at *
       have hPX':P<X.length:=by omega
       have hr:=hXr hPX'
       have hXg:X.getD P []=X[P]:=by simp [hPX']
       rw [hXg]
       have hQX:Q<(X[P]).length:=by omega
       have hQt:(Q:Int)<t.length:=by omega
       have hQt2:Q<t.length:=by omega
       have hgr:(rows X)[P]?=some (ownL X[P]):=by rw [rows_get,List.getElem?_eq_getElem hPX'];rfl
       simp [ha,hb,hbp,hQ,hrow,hv,hvl,hvl2,hv1,hg,hPX',hQX,hQt]
       exact ⟨by omega,by omega,by simp only [ownTb,← rows_set2 hPX']⟩
     · rintro e rfl
       simp
       omega
   · rintro e rfl
     rw [imZ_last h hl]
     simp
   · simp
 · simp only [zTab,ownTb,rows,List.range_zero,List.map_nil];rfl
def S_renS (pg:Pg):Prop:=∀ (f s:List (List Int)) (p:List Int),Tab f→Tab s→Pm p→p.length=f.length→p.length=s.length→Call pg 422 [sol f s,ix p] [sol f s,ix p] (.agg [ownTb (imT f p),ownTb (imT s p)])
set_option maxRecDepth 10000 in
theorem t_renS {pg:Pg} (hp:pg.fn 422=some c_spec_l02Rename) (h367:S_image pg 367):S_renS pg:=by
 intro f s p hf hs h hl hl2
 refine Call.intro hp rfl (by simp) ?_
 show wp _ _ c_spec_l02Rename.body (post [.cell 4 (some 2)] _ _ _) _
 simp [c_spec_l02Rename]
 refine callR (h367 f p hf h hl) rfl rfl (fun _=>by simp) ?_
 simp
 refine callR (h367 s p hs h hl2) rfl rfl (fun _=>by simp) ?_
 simp
theorem imT_tabN {n:Nat} {t:List (List Int)} {p:List Int} (ht:TabN n t) (hp:Pm p) (hl:p.length=n):TabN n (imT t p):=by
 have h1:Tab t:=fun r hr=>⟨by rw [(ht.2 r hr).1,ht.1],fun v hv=>by rw [ht.1];exact (ht.2 r hr).2 v hv⟩
 refine ⟨by rw [imT,tabL_length];exact ht.1,fun r hr=>⟨by rw [tabL_row hr];exact ht.1,fun v hv=>?_⟩⟩
 obtain ⟨x,hx,rfl⟩:=List.mem_map.1 hr
 obtain ⟨y,hy,rfl⟩:=List.mem_map.1 hv
 simp only [List.mem_range] at hx hy
 have hpos:=hp.pos
 have a1:=h1.nonneg (invQ p x) (invQ p y)
 have a2:=h1.lt (by rw [ht.1];omega) (invQ p x) (invQ p y)
 have a3:(v2 t (invQ p x) (invQ p y)).toNat<p.length:=by rw [ht.1] at a2;omega
 have a4:=hp.inL _ (List.getElem_mem a3)
 simp only [imG,List.getD_eq_getElem?_getD,List.getElem?_eq_getElem a3,Option.getD_some]
 omega

def PMN (n:Nat) (f s:List (List Int)):Prop:=TabN n f∧TabN n s
abbrev ownS (X:List (List Int)×List (List Int)):T:=.agg [ownTb X.1,ownTb X.2]
def ownN2 (X:List (List Int)):T:=if X=[] then nil else ownTb X
@[simp] theorem ownN2_nil:ownN2 []=nil:=rfl
theorem one_row {n:Nat} {a:List Int} (h:RowIn n a):∀ x∈[a],RowIn n x:=fun x hx=>by rw [List.mem_singleton.1 hx];exact h
theorem snoc_in {n:Nat} {a:List Int} {x:Int} (h:∀ v∈a,0≤v∧v<n) (hx:0≤x∧x<n):∀ v∈a++[x],0≤v∧v<n:=fun v hv=>by
 rcases List.mem_append.1 hv with h1 | h1
 · exact h v h1
 · rw [List.mem_singleton.1 h1];exact hx
theorem ownN2_ne {X:List (List Int)} {k:Nat} (h:X.length=k) (hk:0<k):ownN2 X=ownTb X:=if_neg fun h0=>by rw [h0] at h;simp at h;omega
theorem ownN2_snoc (X:List (List Int)) (r:List Int):ownN2 (X++[r])=.mem .own (some 1) (rows X++[ownL r]):=by
 rw [ownN2,if_neg (by simp),ownTb,rows_snoc]
def S_poly (pg:Pg):Prop:=∀ n:Nat,0<n→n≤64→∃ X:List (List Int)×List (List Int),PMN n X.1 X.2∧Call pg 423 [I n] [I n] (ownS X)
set_option maxRecDepth 10000 in
theorem t_poly {pg:Pg} (hp:pg.fn 423=some c_spec_l02Polygon):S_poly pg:=by
 intro n h0 hn
 refine Call.find hp rfl (by simp) ?_
 show wp _ _ c_spec_l02Polygon.body _ _
 generalize hR:(fun (x:X) (e:Env)=>∃ l:List (List Int)×List (List Int),PMN n l.1 l.2∧post c_spec_l02Polygon.rs [I n] [I n] (ownS l) x e)=R
 simp [c_spec_l02Polygon]
 refine wpLoop_count (fun k e=>∃ f s:List (List Int),((f.length=k∧∀ r∈f,RowIn n r)∧s.length=k∧∀ r∈s,RowIn n r)∧e=fr [(0,some (.val (I n))),(2,some (.val (.mem .own none [nil,nil]))),(3,some (.val (.mem .own none [ownN2 f,ownN2 s]))),(4,some (.val (I k)))]) n ?_ ?_ 0 _ (by omega) ⟨[],[],⟨⟨rfl,by simp⟩,rfl,by simp⟩,rfl⟩
 · rintro k e hk ⟨f,s,⟨⟨g1,g2⟩,g3,g4⟩,rfl⟩
   simp [hk]
   refine wpLoop_count (fun j e=>∃ a b:List Int,((a.length=j∧∀ v∈a,0≤v∧v<n)∧b.length=j∧∀ v∈b,0≤v∧v<n)∧e=fr [(0,some (.val (I n))),(2,some (.val (.mem .own none [nil,nil]))),(3,some (.val (.mem .own none [ownN2 f,ownN2 s]))),(4,some (.val (I k))),(5,some (.val (ownL a))),(6,some (.val (ownL b))),(7,some (.val (I j)))]) n ?_ ?_ 0 _ (by omega) ⟨[],[],⟨⟨rfl,by simp⟩,rfl,by simp⟩,rfl⟩
   · rintro j e hj ⟨a,b,⟨⟨i1,i2⟩,i3,i4⟩,rfl⟩
     obtain ⟨m,hm,hm2⟩:∃ m:Nat,((2:Int)*k-j+n).tmod n=m∧m<n:=by
      have h1:0≤(2:Int)*k-j+n:=by omega
      refine ⟨((2:Int)*k-j+n).toNat % n,?_,Nat.mod_lt _ h0⟩
      rw [Int.tmod_eq_emod_of_nonneg h1,Int.natCast_emod,Int.toNat_of_nonneg h1]
     have hn0:¬n=0:=by omega
     simp [hj,hm,hn0]
     exact ⟨by omega,by omega,by omega,by unfold roomy;omega,by unfold roomy;omega,by omega,a++[(m:Int)],b++[(k:Int)],⟨⟨by simp [i1],snoc_in i2 (by omega)⟩,by simp [i3],snoc_in i4 (by omega)⟩,by simp only [ownL,List.map_append,List.map_cons,List.map_nil]⟩
   · rintro e ⟨a,b,⟨⟨i1,i2⟩,i3,i4⟩,rfl⟩
     by_cases hk0:k=0
     · subst hk0
       obtain rfl:f=[]:=List.length_eq_zero_iff.1 g1
       obtain rfl:s=[]:=List.length_eq_zero_iff.1 g3
       simp
       exact ⟨by unfold roomy;omega,[a],[b],⟨⟨rfl,one_row ⟨i1,i2⟩⟩,rfl,one_row ⟨i3,i4⟩⟩,rfl⟩
     · rw [ownN2_ne g1 (by omega),ownN2_ne g3 (by omega)]
       simp
       exact ⟨by unfold roomy;omega,by unfold roomy;omega,by omega,f++[a],s++[b],⟨TabN.snoc ⟨g1,g2⟩ ⟨i1,i2⟩,TabN.snoc ⟨g3,g4⟩ ⟨i3,i4⟩⟩,by simp only [ownN2_snoc]⟩
 · rintro e ⟨f,s,⟨⟨g1,g2⟩,g3,g4⟩,rfl⟩
   have hf:ownN2 f=ownTb f:=if_neg fun h=>by rw [h] at g1;simp at g1;omega
   have hs:ownN2 s=ownTb s:=if_neg fun h=>by rw [h] at g3;simp at g3;omega
   rw [hf,hs]
   simp
   subst hR
   exact ⟨(f,s),⟨⟨g1,g2⟩,g3,g4⟩,by simp [post,c_spec_l02Polygon]⟩
end Go.Mch
namespace Go.Mch
def S_twst (pg:Pg):Prop:=∀ (n:Nat) (p q:List Int),0<n→n≤64→RowIn n p→RowIn n q→∃ X:List (List Int)×List (List Int),(PMN n X.1 X.2∧∀ r∈X.1,r=p)∧Call pg 425 [ix p,ix q] [ix p,ix q] (ownS X)
set_option maxRecDepth 10000 in
theorem t_twst {pg:Pg} (hp:pg.fn 425=some c_spec_l02Twist) (h31:S_own pg):S_twst pg:=by
 intro n p q h0 hn hP hQ
 have hpl:=hP.1
 have hql:=hQ.1
 refine Call.find hp rfl (by simp) ?_
 show wp _ _ c_spec_l02Twist.body _ _
 generalize hR:(fun (x:X) (e:Env)=>∃ l:List (List Int)×List (List Int),(PMN n l.1 l.2∧∀ r∈l.1,r=p)∧post c_spec_l02Twist.rs [ix p,ix q] [ix p,ix q] (ownS l) x e)=R
 simp [c_spec_l02Twist]
 refine wpLoop_count (fun k e=>∃ f s:List (List Int),((f.length=k∧∀ r∈f,r=p)∧s.length=k∧∀ r∈s,RowIn n r)∧e=fr [(0,some (.val (ix p))),(1,some (.val (ix q))),(4,some (.val (.mem .own none [nil,nil]))),(5,some (.val (.mem .own none [ownN2 f,ownN2 s]))),(6,some (.val (I k)))]) n ?_ ?_ 0 _ (by omega) ⟨[],[],⟨⟨rfl,by simp⟩,rfl,by simp⟩,rfl⟩
 · rintro k e hk ⟨f,s,⟨⟨g1,g2⟩,g3,g4⟩,rfl⟩
   have hkq:k<q.length:=by omega
   have hv:=hQ.2 _ (List.getElem_mem hkq)
   simp [hk,hpl]
   refine wpLoop_count (fun j e=>∃ b:List Int,(b.length=j∧∀ v∈b,0≤v∧v<n)∧e=fr [(0,some (.val (ix p))),(1,some (.val (ix q))),(4,some (.val (.mem .own none [nil,nil]))),(5,some (.val (.mem .own none [ownN2 f,ownN2 s]))),(6,some (.val (I k))),(7,some (.val (ownL b))),(8,some (.val (I j)))]) n ?_ ?_ 0 _ (by omega) ⟨[],⟨rfl,by simp⟩,rfl⟩
   · rintro j e hj ⟨b,⟨i3,i4⟩,rfl⟩
     simp [hj,hpl,hql,hk]
     exact ⟨by unfold roomy;omega,by omega,b++[q[k]],⟨by simp [i3],snoc_in i4 hv⟩,by simp only [ownL,List.map_append,List.map_cons,List.map_nil]⟩
   · rintro e ⟨b,⟨i3,i4⟩,rfl⟩
     by_cases hk0:k=0
     · subst hk0
       obtain rfl:f=[]:=List.length_eq_zero_iff.1 g1
       obtain rfl:s=[]:=List.length_eq_zero_iff.1 g3
       simp [hpl]
       refine callR (h31 p (by omega)) rfl rfl (fun _=>by simp) ?_
       simp
       exact ⟨by unfold roomy;omega,[p],[b],⟨⟨rfl,by simp⟩,rfl,one_row ⟨i3,i4⟩⟩,rfl⟩
     · rw [ownN2_ne g1 (by omega),ownN2_ne g3 (by omega)]
       simp [hpl]
       refine callR (h31 p (by omega)) rfl rfl (fun _=>by simp) ?_
       simp
       exact ⟨by unfold roomy;omega,by unfold roomy;omega,by omega,f++[p],s++[b],⟨⟨by simp [g1],fun r hr=>by
        rcases List.mem_append.1 hr with h1 | h1
        · exact g2 r h1
        · exact List.mem_singleton.1 h1⟩,TabN.snoc ⟨g3,g4⟩ ⟨i3,i4⟩⟩,by simp only [ownN2_snoc]⟩
 · rintro e ⟨f,s,⟨⟨g1,g2⟩,g3,g4⟩,rfl⟩
   rw [ownN2_ne g1 h0,ownN2_ne g3 h0]
   simp [hpl]
   subst hR
   exact ⟨(f,s),⟨⟨⟨g1,fun r hr=>by rw [g2 r hr];exact hP⟩,g3,g4⟩,g2⟩,by simp [post,c_spec_l02Twist]⟩
def S_flp (pg:Pg):Prop:=∀ n:Nat,0<n→n≤64→∃ X:List (List Int)×List (List Int),(PMN n X.1 X.2∧∀ r∈X.1,r=idL n)∧Call pg 449 [I n] [I n] (ownS X)
theorem t_flp {pg:Pg} (hp:pg.fn 449=some c_spec_l02Flip) (h334:S_unit pg) (h425:S_twst pg):S_flp pg:=by
 intro n h0 hn
 obtain ⟨X,hX,hc⟩:=h425 n (idL n) (idL n) h0 hn (idL_rowIn n).1 (idL_rowIn n).1
 refine ⟨X,hX,Call.intro hp rfl (by simp) ?_⟩
 show wp _ _ c_spec_l02Flip.body (post [.cell 2 (some 2)] _ _ _) _
 simp [c_spec_l02Flip]
 refine callR (h334 n (by omega)) rfl rfl (fun _=>by simp) ?_
 simp
 refine callR hc rfl rfl (fun _=>by simp) ?_
 simp
theorem tdivN (a m:Nat):((a:Int)).tdiv m=((a / m:Nat):Int):=by rw [Int.tdiv_eq_ediv_of_nonneg (by omega),Int.natCast_ediv]
theorem tmodN (a m:Nat):((a:Int)).tmod m=((a % m:Nat):Int):=by rw [Int.tmod_eq_emod_of_nonneg (by omega),Int.natCast_emod]
theorem TabN.at {n:Nat} {t:List (List Int)} (h:TabN n t) {i j:Nat} (hi:i<n) (hj:j<n):∃ (h1:i<t.length) (h2:j<(t[i]).length),(t[i]).length=n∧0≤(t[i])[j]∧(t[i])[j]<n:=by
 have h1:i<t.length:=by rw [h.1];exact hi
 have h2:=h.2 _ (List.getElem_mem h1)
 have h3:j<(t[i]).length:=by rw [h2.1];exact hj
 exact ⟨h1,h3,h2.1,h2.2 _ (List.getElem_mem h3)⟩
theorem mul_lt {n m:Nat} {x y:Int} (h0:0≤x) (h1:x<n) (h2:0≤y) (h3:y<m) (hn:n*m≤64):0≤x*m+y∧x*m+y<(n*m:Nat)∧0≤x*m∧x*m≤64:=by
 obtain ⟨x,rfl⟩:∃ x':Nat,x=x':=⟨x.toNat,by omega⟩
 obtain ⟨y,rfl⟩:∃ y':Nat,y=y':=⟨y.toNat,by omega⟩
 have h4:(x+1)*m≤n*m:=Nat.mul_le_mul_right m (by omega)
 have h5:(x+1)*m=x*m+m:=Nat.succ_mul x m
 have h6:((x*m:Nat):Int)=(x:Int)*m:=by simp
 omega
def S_prd (pg:Pg):Prop:=∀ (n m:Nat) (f s f' s':List (List Int)),0<n→0<m→n*m≤64→PMN n f s→PMN m f' s'→∃ X:List (List Int)×List (List Int),PMN (n*m) X.1 X.2∧Call pg 458 [sol f s,sol f' s'] [sol f s,sol f' s'] (ownS X)
set_option maxRecDepth 10000 in
theorem t_prd {pg:Pg} (hp:pg.fn 458=some c_spec_l02Product):S_prd pg:=by
 intro n m f s f' s' hn0 hm0 hnm hA hB
 have hfl:=hA.1.1
 have hsl:=hA.2.1
 have hfl':=hB.1.1
 have hsl':=hB.2.1
 have hN:0<n*m:=Nat.mul_pos hn0 hm0
 obtain ⟨N,hNe⟩:∃ N,N=n*m:=⟨_,rfl⟩
 have hNi:(n:Int)*m=N:=by rw [hNe];simp
 have hnl:n≤N:=by rw [hNe];exact Nat.le_mul_of_pos_right n hm0
 have hml:m≤N:=by rw [hNe];exact Nat.le_mul_of_pos_left m hn0
 rw [← hNe] at hN hnm ⊢
 have hdv:∀ a,a<N→a / m<n:=fun a ha=>by rw [hNe,Nat.mul_comm] at ha;exact Nat.div_lt_of_lt_mul ha
 have hmd:∀ a,a % m<m:=fun a=>Nat.mod_lt _ hm0
 have hm0':¬(m:Int)=0:=by omega
 have hm0'':¬m=0:=by omega
 refine Call.find hp rfl (by simp) ?_
 show wp _ _ c_spec_l02Product.body _ _
 generalize hR:(fun (x:X) (e:Env)=>∃ l:List (List Int)×List (List Int),PMN N l.1 l.2∧post c_spec_l02Product.rs [sol f s,sol f' s'] [sol f s,sol f' s'] (ownS l) x e)=R
 simp [c_spec_l02Product]
 refine wpLoop_count (fun k e=>∃ F S:List (List Int),((F.length=k∧∀ r∈F,RowIn N r)∧S.length=k∧∀ r∈S,RowIn N r)∧e=fr [(2,some (.val (.mem .own none [tb f,tb s]))),(3,some (.val (.mem .own none [tb f',tb s']))),(4,some (.val (.mem .own none [nil,nil]))),(5,some (.val (I n))),(6,some (.val (I m))),(7,some (.val (.mem .own none [ownN2 F,ownN2 S]))),(8,some (.val (I k)))]) N ?_ ?_ 0 _ (by omega) ⟨[],[],⟨⟨rfl,by simp⟩,rfl,by simp⟩,by simp [hfl,hfl']⟩
 · rintro k e hk ⟨F,S,⟨⟨g1,g2⟩,g3,g4⟩,rfl⟩
   simp [hk,hNi]
   refine ⟨by omega,?_⟩
   refine wpLoop_count (fun j e=>∃ a b:List Int,((a.length=j∧∀ v∈a,0≤v∧v<N)∧b.length=j∧∀ v∈b,0≤v∧v<N)∧e=fr [(2,some (.val (.mem .own none [tb f,tb s]))),(3,some (.val (.mem .own none [tb f',tb s']))),(4,some (.val (.mem .own none [nil,nil]))),(5,some (.val (I n))),(6,some (.val (I m))),(7,some (.val (.mem .own none [ownN2 F,ownN2 S]))),(8,some (.val (I k))),(9,some (.val (ownL a))),(10,some (.val (ownL b))),(11,some (.val (I j)))]) N ?_ ?_ 0 _ (by omega) ⟨[],[],⟨⟨rfl,by simp⟩,rfl,by simp⟩,rfl⟩
   · rintro j e hj ⟨a,b,⟨⟨i1,i2⟩,i3,i4⟩,rfl⟩
     have q1:=hdv k hk
     have q2:=hdv j hj
     have r1:=hmd k
     have r2:=hmd j
     have d1:=tdivN k m
     have d2:=tdivN j m
     have d3:=tmodN k m
     have d4:=tmodN j m
     generalize k / m=A at *
     generalize j / m=B at *
     generalize k % m=C at *
     generalize j % m=D at *
     obtain ⟨u1,u2,u3,u4,u5⟩:=hA.1.at q1 q2
     obtain ⟨v1,v2,v3,v4,v5⟩:=hA.2.at q1 q2
     obtain ⟨x1,x2,x3,x4,x5⟩:=hB.1.at r1 r2
     obtain ⟨y1,y2,y3,y4,y5⟩:=hB.2.at r1 r2
     have m1:=mul_lt u4 u5 x4 x5 (by omega)
     have m2:=mul_lt v4 v5 y4 y5 (by omega)
     rw [← hNe] at m1 m2
     simp [hj,hNi,d1,d2,d3,d4,hm0'',q1,q2,r1,r2,hfl,hsl,hfl',hsl',u3,v3,x3,y3]
     exact ⟨by omega,by omega,by omega,by omega,by omega,by unfold roomy;omega,by omega,by omega,by omega,by omega,by unfold roomy;omega,by omega,a++[f[A][B]*m+f'[C][D]],b++[s[A][B]*m+s'[C][D]],⟨⟨by simp [i1],snoc_in i2 (by omega)⟩,by simp [i3],snoc_in i4 (by omega)⟩,by simp only [ownL,List.map_append,List.map_cons,List.map_nil]⟩
   · rintro e ⟨a,b,⟨⟨i1,i2⟩,i3,i4⟩,rfl⟩
     by_cases hk0:k=0
     · subst hk0
       obtain rfl:F=[]:=List.length_eq_zero_iff.1 g1
       obtain rfl:S=[]:=List.length_eq_zero_iff.1 g3
       simp [hNi]
       exact ⟨by omega,by unfold roomy;omega,[a],[b],⟨⟨rfl,one_row ⟨i1,i2⟩⟩,rfl,one_row ⟨i3,i4⟩⟩,rfl⟩
     · rw [ownN2_ne g1 (by omega),ownN2_ne g3 (by omega)]
       simp [hNi]
       exact ⟨by omega,by unfold roomy;omega,by unfold roomy;omega,by omega,F++[a],S++[b],⟨TabN.snoc ⟨g1,g2⟩ ⟨i1,i2⟩,TabN.snoc ⟨g3,g4⟩ ⟨i3,i4⟩⟩,by simp only [ownN2_snoc]⟩
 · rintro e ⟨F,S,⟨⟨g1,g2⟩,g3,g4⟩,rfl⟩
   rw [ownN2_ne g1 hN,ownN2_ne g3 hN]
   simp [hNi]
   refine ⟨by omega,?_⟩
   subst hR
   exact ⟨(F,S),⟨⟨g1,g2⟩,g3,g4⟩,by simp [post,c_spec_l02Product]⟩
def S_uni (pg:Pg):Prop:=∀ (n m:Nat) (f s f' s':List (List Int)),0<n→0<m→n+m≤64→PMN n f s→PMN m f' s'→∃ X:List (List Int)×List (List Int),PMN (n+m) X.1 X.2∧Call pg 460 [sol f s,sol f' s'] [sol f s,sol f' s'] (ownS X)
set_option maxRecDepth 10000 in
theorem t_uni {pg:Pg} (hp:pg.fn 460=some c_spec_l02Union):S_uni pg:=by
 intro n m f s f' s' hn0 hm0 hnm hA hB
 have hfl:=hA.1.1
 have hsl:=hA.2.1
 have hfl':=hB.1.1
 have hsl':=hB.2.1
 obtain ⟨N,hNe⟩:∃ N,N=n+m:=⟨_,rfl⟩
 have hNi:(n:Int)+m=N:=by rw [hNe];simp
 rw [← hNe] at hnm ⊢
 have hN:0<N:=by omega
 refine Call.find hp rfl (by simp) ?_
 show wp _ _ c_spec_l02Union.body _ _
 generalize hR:(fun (x:X) (e:Env)=>∃ l:List (List Int)×List (List Int),PMN N l.1 l.2∧post c_spec_l02Union.rs [sol f s,sol f' s'] [sol f s,sol f' s'] (ownS l) x e)=R
 simp [c_spec_l02Union]
 refine wpLoop_count (fun k e=>∃ F S:List (List Int),((F.length=k∧∀ r∈F,RowIn N r)∧S.length=k∧∀ r∈S,RowIn N r)∧e=fr [(2,some (.val (.mem .own none [tb f,tb s]))),(3,some (.val (.mem .own none [tb f',tb s']))),(4,some (.val (.mem .own none [nil,nil]))),(5,some (.val (I n))),(6,some (.val (I m))),(7,some (.val (.mem .own none [ownN2 F,ownN2 S]))),(8,some (.val (I k)))]) N ?_ ?_ 0 _ (by omega) ⟨[],[],⟨⟨rfl,by simp⟩,rfl,by simp⟩,by simp [hfl,hfl']⟩
 · rintro k e hk ⟨F,S,⟨⟨g1,g2⟩,g3,g4⟩,rfl⟩
   simp [hk,hNi]
   refine ⟨by omega,?_⟩
   refine wpLoop_count (fun j e=>∃ a b:List Int,((a.length=j∧∀ v∈a,0≤v∧v<N)∧b.length=j∧∀ v∈b,0≤v∧v<N)∧e=fr [(2,some (.val (.mem .own none [tb f,tb s]))),(3,some (.val (.mem .own none [tb f',tb s']))),(4,some (.val (.mem .own none [nil,nil]))),(5,some (.val (I n))),(6,some (.val (I m))),(7,some (.val (.mem .own none [ownN2 F,ownN2 S]))),(8,some (.val (I k))),(9,some (.val (ownL a))),(10,some (.val (ownL b))),(11,some (.val (I j)))]) N ?_ ?_ 0 _ (by omega) ⟨[],[],⟨⟨rfl,by simp⟩,rfl,by simp⟩,rfl⟩
   · rintro j e hj ⟨a,b,⟨⟨i1,i2⟩,i3,i4⟩,rfl⟩
     by_cases ck:k<n
     · by_cases cj:j<n
       · obtain ⟨u1,u2,u3,u4,u5⟩:=hA.1.at ck cj
         obtain ⟨v1,v2,v3,v4,v5⟩:=hA.2.at ck cj
         simp [hj,hNi,ck,cj,hfl,hsl,u3,v3]
         exact ⟨by omega,by unfold roomy;omega,by unfold roomy;omega,by omega,a++[f[k][j]],b++[s[k][j]],⟨⟨by simp [i1],snoc_in i2 (by omega)⟩,by simp [i3],snoc_in i4 (by omega)⟩,by simp only [ownL,List.map_append,List.map_cons,List.map_nil]⟩
       · have ck':¬n≤k:=by omega
         simp [hj,hNi,ck,cj,ck',undefV]
         exact ⟨by omega,by unfold roomy;omega,by unfold roomy;omega,by omega,a++[(j:Int)],b++[(k:Int)],⟨⟨by simp [i1],snoc_in i2 (by omega)⟩,by simp [i3],snoc_in i4 (by omega)⟩,by simp only [ownL,List.map_append,List.map_cons,List.map_nil]⟩
     · have ck':n≤k:=by omega
       by_cases cj:n≤j
       · obtain ⟨A,hAk⟩:∃ A:Nat,(k:Int)-n=A:=⟨k-n,by omega⟩
         obtain ⟨B,hBj⟩:∃ B:Nat,(j:Int)-n=B:=⟨j-n,by omega⟩
         have cA:A<m:=by omega
         have cB:B<m:=by omega
         obtain ⟨u1,u2,u3,u4,u5⟩:=hB.1.at cA cB
         obtain ⟨v1,v2,v3,v4,v5⟩:=hB.2.at cA cB
         simp [hj,hNi,ck,ck',cj,cA,cB,hfl',hsl',u3,v3,hAk,hBj,undefV]
         exact ⟨by omega,by omega,by omega,by omega,by unfold roomy;omega,by omega,by omega,by omega,by unfold roomy;omega,by omega,a++[f'[A][B]+n],b++[s'[A][B]+n],⟨⟨by simp [i1],snoc_in i2 (by omega)⟩,by simp [i3],snoc_in i4 (by omega)⟩,by simp only [ownL,List.map_append,List.map_cons,List.map_nil]⟩
       · simp [hj,hNi,ck,cj,ck',undefV]
         exact ⟨by omega,by unfold roomy;omega,by unfold roomy;omega,by omega,a++[(j:Int)],b++[(k:Int)],⟨⟨by simp [i1],snoc_in i2 (by omega)⟩,by simp [i3],snoc_in i4 (by omega)⟩,by simp only [ownL,List.map_append,List.map_cons,List.map_nil]⟩
   · rintro e ⟨a,b,⟨⟨i1,i2⟩,i3,i4⟩,rfl⟩
     by_cases hk0:k=0
     · subst hk0
       obtain rfl:F=[]:=List.length_eq_zero_iff.1 g1
       obtain rfl:S=[]:=List.length_eq_zero_iff.1 g3
       simp [hNi]
       exact ⟨by omega,by unfold roomy;omega,[a],[b],⟨⟨rfl,one_row ⟨i1,i2⟩⟩,rfl,one_row ⟨i3,i4⟩⟩,rfl⟩
     · rw [ownN2_ne g1 (by omega),ownN2_ne g3 (by omega)]
       simp [hNi]
       exact ⟨by omega,by unfold roomy;omega,by unfold roomy;omega,by omega,F++[a],S++[b],⟨TabN.snoc ⟨g1,g2⟩ ⟨i1,i2⟩,TabN.snoc ⟨g3,g4⟩ ⟨i3,i4⟩⟩,by simp only [ownN2_snoc]⟩
 · rintro e ⟨F,S,⟨⟨g1,g2⟩,g3,g4⟩,rfl⟩
   rw [ownN2_ne g1 hN,ownN2_ne g3 hN]
   simp [hNi]
   refine ⟨by omega,?_⟩
   subst hR
   exact ⟨(F,S),⟨⟨g1,g2⟩,g3,g4⟩,by simp [post,c_spec_l02Union]⟩
end Go.Mch
namespace Go.Mch
theorem zeroT_tabN {n:Nat} (h:0<n):TabN n (zeroT n n):=by
 refine ⟨by simp [zeroT],fun r hr=>?_⟩
 simp only [zeroT,List.mem_replicate] at hr
 rw [hr.2]
 refine ⟨by simp,fun v hv=>?_⟩
 simp only [List.mem_replicate] at hv
 omega
theorem TabN.set2 {n i j:Nat} {t:List (List Int)} {v:Int} (h:TabN n t) (hi:i<t.length) (hv:0≤v∧v<n):TabN n (t.set i (t[i].set j v)):=by
 refine ⟨by simpa using h.1,fun x hx=>?_⟩
 rcases List.mem_or_eq_of_mem_set hx with h1 | h1
 · exact h.2 x h1
 · rw [h1];exact (h.2 _ (List.getElem_mem hi)).set hv
def S_invW (pg:Pg):Prop:=∀ (n:Nat) (f s:List (List Int)),0<n→n≤64→PMN n f s→∃ X:List (List Int)×List (List Int),PMN n X.1 X.2∧Call pg 406 [sol f s] [sol f s] (ownS X)
set_option maxRecDepth 10000 in
theorem t_invW {pg:Pg} (hp:pg.fn 406=some c_spec_l02Inverse) (h398:S_empty pg):S_invW pg:=by
 intro n f s h0 hn hA
 have hfl:=hA.1.1
 have hsl:=hA.2.1
 refine Call.find hp rfl (by simp) ?_
 show wp _ _ c_spec_l02Inverse.body _ _
 generalize hR:(fun (x:X) (e:Env)=>∃ l:List (List Int)×List (List Int),PMN n l.1 l.2∧post c_spec_l02Inverse.rs [sol f s] [sol f s] (ownS l) x e)=R
 simp [c_spec_l02Inverse]
 rw [hfl]
 refine callR (h398 n h0 (by omega)) rfl rfl (fun _=>by simp) ?_
 simp
 refine wpLoop_count (fun a e=>∃ F S:List (List Int),PMN n F S∧e=fr [(1,some (.val (.mem .own none [tb f,tb s]))),(2,some (.val (.mem .own none [nil,nil]))),(3,some (.val (I n))),(4,some (.val (.mem .own none [ownTb F,ownTb S]))),(5,some (.val (I a)))]) n ?_ ?_ 0 _ (by omega) ⟨zeroT n n,zeroT n n,⟨zeroT_tabN h0,zeroT_tabN h0⟩,rfl⟩
 · rintro a e ha ⟨F,S,hX,rfl⟩
   simp [ha]
   refine wpLoop_count (fun b e=>∃ F S:List (List Int),PMN n F S∧e=fr [(1,some (.val (.mem .own none [tb f,tb s]))),(2,some (.val (.mem .own none [nil,nil]))),(3,some (.val (I n))),(4,some (.val (.mem .own none [ownTb F,ownTb S]))),(5,some (.val (I a))),(6,some (.val (I b)))]) n ?_ ?_ 0 _ (by omega) ⟨F,S,hX,by simp⟩
   · rintro b e hb ⟨F,S,hX,rfl⟩
     obtain ⟨u1,u2,u3,u4,u5⟩:=hA.1.at ha hb
     obtain ⟨v1,v2,v3,v4,v5⟩:=hA.2.at ha hb
     obtain ⟨P,hP⟩:∃ P:Nat,(f[a])[b]=P:=⟨((f[a])[b]).toNat,by omega⟩
     obtain ⟨Q,hQ⟩:∃ Q:Nat,(s[a])[b]=Q:=⟨((s[a])[b]).toNat,by omega⟩
     rw [hP] at u4 u5
     rw [hQ] at v4 v5
     have hPn:P<n:=by omega
     have hQn:Q<n:=by omega
     obtain ⟨x1,x2,x3,_⟩:=hX.1.at hPn hQn
     obtain ⟨y1,y2,y3,_⟩:=hX.2.at hPn hQn
     have w1:=hX.1.1
     have w2:=hX.2.1
     have hg1:(rows F)[P]?=some (ownL F[P]):=by rw [rows_get,List.getElem?_eq_getElem x1];rfl
     have hg2:(rows S)[P]?=some (ownL S[P]):=by rw [rows_get,List.getElem?_eq_getElem y1];rfl
     simp [hb,ha,hfl,hsl,u3,v3,hP,hQ,hPn,hQn,x3,y3,w1,w2]
     exact ⟨by omega,by omega,F.set P (F[P].set Q a),S.set P (S[P].set Q b),⟨hX.1.set2 x1 ⟨by omega,by omega⟩,hX.2.set2 y1 ⟨by omega,by omega⟩⟩,by simp only [ownTb,← rows_set2 x1,← rows_set2 y1]⟩
   · rintro e ⟨F,S,hX,rfl⟩
     simp
     exact ⟨by omega,F,S,hX,rfl⟩
 · rintro e ⟨F,S,hX,rfl⟩
   simp
   subst hR
   exact ⟨(F,S),hX,by simp [post,c_spec_l02Inverse]⟩
def okR2 (n:Nat) (R:List (List Int)):Prop:=TabN n R∧∀ x y,x<n→y<n→0≤ixOf (R.getD (v2 R x y).toNat []) x
def S_ivl (pg:Pg):Prop:=∀ (n:Nat) (R:List (List Int)),0<n→n≤64→okR2 n R→∃ X:List (List Int)×List (List Int),PMN n X.1 X.2∧Call pg 461 [tb R] [tb R] (ownS X)
set_option maxRecDepth 10000 in
theorem t_ivl {pg:Pg} (hp:pg.fn 461=some c_spec_l02Involutive) (h280:S_copyT pg 280) (h69:S_index pg):S_ivl pg:=by
 intro n R h0 hn ⟨hA,hI⟩
 have hRl:=hA.1
 have hfit:fits R:=⟨by omega,fun r hr=>by have:=(hA.2 r hr).1;omega⟩
 refine Call.find hp rfl (by simp) ?_
 show wp _ _ c_spec_l02Involutive.body _ _
 generalize hR:(fun (x:X) (e:Env)=>∃ l:List (List Int)×List (List Int),PMN n l.1 l.2∧post c_spec_l02Involutive.rs [tb R] [tb R] (ownS l) x e)=Rr
 simp [c_spec_l02Involutive]
 refine callR (h280 R hfit) rfl rfl (fun _=>by simp) ?_
 simp
 refine wpLoop_count (fun k e=>∃ s:List (List Int),(s.length=k∧∀ r∈s,RowIn n r)∧e=fr [(0,some (.val (tb R))),(2,some (.val (.mem .own none [nil,nil]))),(3,some (.val (.mem .own none [ownTb R,ownN2 s]))),(4,some (.val (I k)))]) n ?_ ?_ 0 _ (by omega) ⟨[],⟨rfl,by simp⟩,rfl⟩
 · rintro k e hk ⟨s,⟨g3,g4⟩,rfl⟩
   simp [hk,hRl]
   refine wpLoop_count (fun j e=>∃ b:List Int,(b.length=j∧∀ v∈b,0≤v∧v<n)∧e=fr [(0,some (.val (tb R))),(2,some (.val (.mem .own none [nil,nil]))),(3,some (.val (.mem .own none [ownTb R,ownN2 s]))),(4,some (.val (I k))),(5,some (.val (ownL b))),(6,some (.val (I j)))]) n ?_ ?_ 0 _ (by omega) ⟨[],⟨rfl,by simp⟩,rfl⟩
   · rintro j e hj ⟨b,⟨i3,i4⟩,rfl⟩
     obtain ⟨u1,u2,u3,u4,u5⟩:=hA.at hk hj
     have hv:=get_v2 u1 u2
     have hii:=hI k j hk hj
     rw [hv] at u4 u5
     obtain ⟨P,hP⟩:∃ P:Nat,v2 R k j=P:=⟨(v2 R k j).toNat,by omega⟩
     rw [hP] at hv u4 u5 hii
     have hPn:P<n:=by omega
     have hPl:P<R.length:=by omega
     have hrow:=hA.2 _ (List.getElem_mem hPl)
     have hg:R.getD P []=R[P]:=by simp [hPl]
     rw [Int.toNat_natCast,hg] at hii
     have hle:=(ixOf_le R[P] k).2
     have hc:=h69 R[P] k (by have:=hrow.1;omega)
     generalize ixOf R[P] k=z at *
     simp [hj,hRl,hk,u3,hv,hPn]
     refine callR hc rfl rfl (fun _=>rfl) ?_
     have hz:=hrow.1
     simp
     exact ⟨by unfold roomy;omega,by omega,b++[z],⟨by simp [i3],snoc_in i4 (by omega)⟩,by simp only [ownL,List.map_append,List.map_cons,List.map_nil]⟩
   · rintro e ⟨b,⟨i3,i4⟩,rfl⟩
     by_cases hk0:k=0
     · subst hk0
       obtain rfl:s=[]:=List.length_eq_zero_iff.1 g3
       simp [hRl]
       exact ⟨by unfold roomy;omega,[b],⟨rfl,one_row ⟨i3,i4⟩⟩,rfl⟩
     · rw [ownN2_ne g3 (by omega)]
       simp [hRl]
       exact ⟨by unfold roomy;omega,by omega,s++[b],TabN.snoc ⟨g3,g4⟩ ⟨i3,i4⟩,by simp only [ownN2_snoc]⟩
 · rintro e ⟨s,⟨g3,g4⟩,rfl⟩
   rw [ownN2_ne g3 h0]
   simp [hRl]
   subst hR
   exact ⟨(R,s),⟨hA,g3,g4⟩,by simp [post,c_spec_l02Involutive]⟩
theorem thenL_rowIn {n:Nat} {p q:List Int} (hp:RowIn n p) (hq:RowIn n q):RowIn n (thenL p q):=by
 refine ⟨by simp [thenL,hp.1],fun v hv=>?_⟩
 obtain ⟨x,hx,rfl⟩:=List.mem_map.1 hv
 have h1:=hp.2 x hx
 have h2:x.toNat<q.length:=by rw [hq.1];omega
 rw [List.getD_eq_getElem?_getD,List.getElem?_eq_getElem h2]
 exact hq.2 _ (List.getElem_mem h2)
def S_twd (pg:Pg):Prop:=∀ (c:Rw Int) (s:Int×Int) (n:Nat),Sr c s→0<n→n≤64→∃ (s':Int×Int) (X:List (List Int)×List (List Int)),(Sr c s'∧PMN n X.1 X.2)∧Call pg 459 [src c s,I n] [src c s',I n] (ownS X)
set_option maxRecDepth 10000 in
theorem t_twd {pg:Pg} (hp:pg.fn 459=some c_spec_l02Twisted) (h336:S_nxt pg) (h368:S_drw pg) (h334:S_unit pg) (h279:S_then pg 279) (h425:S_twst pg):S_twd pg:=by
 intro c s n hs h0 hn
 have hfind:=Call.findA (α:=(Int×Int)×(List (List Int)×List (List Int))) (Q:=fun Y=>Sr c Y.1∧PMN n Y.2.1 Y.2.2) (args:=[src c s,I n]) (args':=fun Y=>[src c Y.1,I n]) (r:=fun Y=>ownS Y.2) hp rfl (by simp [F.lets,c_spec_l02Twisted,List.range,List.range.loop]) (by simp [kindOf]) ?_
 · obtain ⟨Y,h1,h2⟩:=hfind
   exact ⟨_,_,h1,h2⟩
 show wp _ _ c_spec_l02Twisted.body (postX _ _ _ _ _) _
 generalize hR:postX (fun Y:(Int×Int)×(List (List Int)×List (List Int))=>Sr c Y.1∧PMN n Y.2.1 Y.2.2) c_spec_l02Twisted.rs [src c s,I n] (fun Y=>[src c Y.1,I n]) (fun Y=>ownS Y.2)=R
 obtain ⟨s1,p,⟨k1,k2,_⟩,hc1⟩:=h368 c s n hs hn
 obtain ⟨s2,r,⟨k3,k3'⟩,hc2⟩:=h336.at k1 (n:=4) (by omega)
 simp [c_spec_l02Twisted]
 refine callS (ts':=[rawB c,I s1.1,H64 s1.2]) (r:=ownL p) (by simpa using hc1) ?_
 simp
 refine callR (h334 n (by omega)) rfl rfl (fun _=>by simp) ?_
 simp
 refine callS (ts':=[rawB c,I s2.1,H64 s2.2]) (r:=I r) (by simpa using hc2) ?_
 simp
 refine wpLoop_lower (α:=List Int×Nat) (fun z=>z.2) (fun z e=>(RowIn n z.1∧z.2≤4)∧e=fr [(0,some (.val (src c s2))),(1,some (.val (I n))),(4,some (.val (.mem .own none [nil,nil]))),(5,some (.val (ownL p))),(6,some (.val (ownL z.1))),(7,some (.val (I z.2)))]) ?_ (idL n,r) _ ⟨⟨(idL_rowIn n).1,by simp only;omega⟩,rfl⟩
 rintro ⟨q,j⟩ e ⟨⟨g1,g2⟩,rfl⟩
 simp only at g1 g2
 by_cases hj:0<j
 · have hql:=g1.1
   have hpl:=k2.1
   have hc3:=h279 q p (by omega) (by unfold inN;rw [hpl];exact g1.2)
   simp [hj]
   refine callR hc3 rfl rfl (fun _=>by simp) ?_
   simp
   exact ⟨by omega,thenL q p,j-1,by omega,⟨thenL_rowIn g1 k2,by omega⟩,by
    have:(j:Int)-1=((j-1:Nat):Int):=by omega
    rw [this]⟩
 · obtain rfl:j=0:=by omega
   obtain ⟨s3,b,⟨k4,_⟩,hc4⟩:=h336.at k3 (n:=2) (by omega)
   simp
   refine callS (ts':=[rawB c,I s3.1,H64 s3.2]) (r:=I b) (by simpa using hc4) ?_
   by_cases hb:b=0
   · obtain ⟨X,⟨hX,_⟩,hc5⟩:=h425 n p q h0 hn k2 g1
     simp [hb]
     refine callR hc5 rfl rfl (fun _=>by simp) ?_
     simp
     subst hR
     exact ⟨(s3,X),⟨k4,hX⟩,by simp [post,c_spec_l02Twisted]⟩
   · obtain ⟨X,⟨hX,_⟩,hc5⟩:=h425 n q p h0 hn g1 k2
     simp [hb]
     refine callR hc5 rfl rfl (fun _=>by simp) ?_
     simp
     subst hR
     exact ⟨(s3,X),⟨k4,hX⟩,by simp [post,c_spec_l02Twisted]⟩
end Go.Mch
namespace Go.Mch
abbrev S2:=List (List Int)×List (List Int)
def rw4:List (List Int):=[[0,1,3,2],[0,1,3,2],[1,0,2,3],[1,0,2,3]]
def rw3:List (List Int):=[[0,1,2],[0,1,2],[1,0,2]]
theorem rw4_ok:okR2 4 rw4:=by
 refine ⟨⟨rfl,fun r hr=>?_⟩,fun x y hx hy=>?_⟩
 · simp only [rw4,List.mem_cons,List.not_mem_nil,or_false] at hr
   rcases hr with rfl | rfl | rfl | rfl <;> exact ⟨rfl,by decide⟩
 · have:∀ x<4,∀ y<4,0≤ixOf (rw4.getD (v2 rw4 x y).toNat []) x:=by decide
   exact this x hx y hy
theorem rw3_ok:okR2 3 rw3:=by
 refine ⟨⟨rfl,fun r hr=>?_⟩,fun x y hx hy=>?_⟩
 · simp only [rw3,List.mem_cons,List.not_mem_nil,or_false] at hr
   rcases hr with rfl | rfl | rfl <;> exact ⟨rfl,by decide⟩
 · have:∀ x<3,∀ y<3,0≤ixOf (rw3.getD (v2 rw3 x y).toNat []) x:=by decide
   exact this x hx y hy
def S_anyM (pg:Pg) (most:Nat):Prop:=∀ (c:Rw Int) (s:Int×Int),Sr c s→∃ (s':Int×Int) (n:Nat) (X:S2),(Sr c s'∧0<n∧n≤most∧PMN n X.1 X.2)∧Call pg 445 [src c s,I most] [src c s',I most] (ownS X)
def S_any (pg:Pg):Prop:=∀ most:Nat,0<most→most≤12→S_anyM pg most
set_option maxRecDepth 10000 in
theorem t_any {pg:Pg} (hp:pg.fn 445=some c_spec_l02Any) (h336:S_nxt pg) (h449:S_flp pg) (h423:S_poly pg) (h458:S_prd pg) (h459:S_twd pg) (h460:S_uni pg) (h461:S_ivl pg) (h406:S_invW pg):S_any pg:=by
 intro most
 induction most using Nat.strongRecOn with
 | _ most ih =>
 intro m0 m12 c s hs
 have hfind:=Call.findA (α:=(Int×Int)×Nat×S2) (Q:=fun Y=>Sr c Y.1∧0<Y.2.1∧Y.2.1≤most∧PMN Y.2.1 Y.2.2.1 Y.2.2.2) (args:=[src c s,I most]) (args':=fun Y=>[src c Y.1,I most]) (r:=fun Y=>ownS Y.2.2) hp rfl (by simp [F.lets,c_spec_l02Any,List.range,List.range.loop]) (by simp [kindOf]) ?_
 · obtain ⟨Y,h1,h2⟩:=hfind
   exact ⟨_,_,_,h1,h2⟩
 show wp _ _ c_spec_l02Any.body (postX _ _ _ _ _) _
 generalize hR:postX (fun Y:(Int×Int)×Nat×S2=>Sr c Y.1∧0<Y.2.1∧Y.2.1≤most∧PMN Y.2.1 Y.2.2.1 Y.2.2.2) c_spec_l02Any.rs [src c s,I most] (fun Y=>[src c Y.1,I most]) (fun Y=>ownS Y.2.2)=R
 have hfin:∀ (s':Int×Int) (k:Nat) (X:S2),Sr c s'→0<k→k≤most→PMN k X.1 X.2→R .ret (fr [(0,some (.val (src c s'))),(1,some (.val (I most))),(4,some (.val (.mem .own none [ownTb X.1,ownTb X.2])))]):=by
  intro s' k X a1 a2 a3 a4
  subst hR
  exact ⟨(s',k,X),⟨a1,a2,a3,a4⟩,by simp [post,c_spec_l02Any]⟩
 obtain ⟨s1,r1,⟨k1,k2⟩,hc1⟩:=h336.at hs (n:=most) m0
 obtain ⟨s2,kd,⟨k3,k4⟩,hc2⟩:=h336.at k1 (n:=8) (by omega)
 obtain ⟨n,hn⟩:∃ n:Nat,(1:Int)+r1=n:=⟨1+r1,by omega⟩
 have hn0:0<n:=by omega
 have hnm:n≤most:=by omega
 simp [c_spec_l02Any]
 refine callS (ts':=[rawB c,I s1.1,H64 s1.2]) (r:=I r1) (by simpa using hc1) ?_
 simp [hn]
 refine ⟨by omega,?_⟩
 refine callS (ts':=[rawB c,I s2.1,H64 s2.2]) (r:=I kd) (by simpa using hc2) ?_
 obtain ⟨sL,XL,⟨jL1,jL2⟩,hcL⟩:=h459 c s2 n k3 hn0 (by omega)
 simp
 rcases (by omega:kd=0∨kd=1∨kd=2∨kd=3∨kd=4∨kd=5∨kd=6∨kd=7) with rfl | rfl | rfl | rfl | rfl | rfl | rfl | rfl
 · obtain ⟨X,⟨hX,_⟩,hc⟩:=h449 n hn0 (by omega)
   simp
   refine callR hc rfl rfl (fun _=>by simp) ?_
   simp
   exact hfin s2 n X k3 hn0 hnm hX
 · obtain ⟨X,hX,hc⟩:=h423 n hn0 (by omega)
   simp
   refine callR hc rfl rfl (fun _=>by simp) ?_
   simp
   exact hfin s2 n X k3 hn0 hnm hX
 · obtain ⟨q,hq,hq2⟩:∃ q:Nat,(n:Int) / 2=q∧q=n / 2:=⟨n / 2,by omega,rfl⟩
   have e1:(n:Int).tmod 2=(n:Int) % 2:=by rw [Int.tmod_eq_emod_of_nonneg (by omega)]
   by_cases h4:4≤n
   · have h4':(4:Int)≤n:=by omega
     by_cases hev:(n:Int) % 2=0
     · obtain ⟨s3,X,⟨j1,j2⟩,hc3⟩:=h459 c s2 q k3 (by omega) (by omega)
       obtain ⟨s4,Y,⟨j3,j4⟩,hc4⟩:=h459 c s3 2 j1 (by omega) (by omega)
       obtain ⟨Z,hZ,hc5⟩:=h458 q 2 X.1 X.2 Y.1 Y.2 (by omega) (by omega) (by omega) j2 j4
       rw [show q*2=n by omega] at hZ
       simp [h4',hev,e1,hq]
       refine ⟨by omega,?_⟩
       refine callS (ts':=[rawB c,I s3.1,H64 s3.2]) (r:=ownS X) (by simpa using hc3) ?_
       simp
       refine callS (ts':=[rawB c,I s4.1,H64 s4.2]) (r:=ownS Y) (by simpa using hc4) ?_
       simp
       refine callR hc5 rfl rfl (fun _=>by simp) ?_
       simp
       exact hfin s4 n Z j3 hn0 hnm hZ
     · simp [h4',hev,e1]
       refine callS (ts':=[rawB c,I sL.1,H64 sL.2]) (r:=ownS XL) (by simpa using hcL) ?_
       simp
       exact hfin sL n XL jL1 hn0 hnm jL2
   · have h4':¬(4:Int)≤n:=by omega
     simp [h4',undefV]
     refine callS (ts':=[rawB c,I sL.1,H64 sL.2]) (r:=ownS XL) (by simpa using hcL) ?_
     simp
     exact hfin sL n XL jL1 hn0 hnm jL2
 · by_cases h2:2≤n
   · have h2':(2:Int)≤n:=by omega
     obtain ⟨n1,hn1⟩:∃ n1:Nat,(n:Int)-1=n1:=⟨n-1,by omega⟩
     obtain ⟨s3,r3,⟨j1,j2⟩,hc3⟩:=h336.at k3 (n:=n1) (by omega)
     obtain ⟨m,hm⟩:∃ m:Nat,(1:Int)+r3=m:=⟨1+r3,by omega⟩
     obtain ⟨d,hd⟩:∃ d:Nat,(n:Int)-m=d:=⟨n-m,by omega⟩
     obtain ⟨s4,k,X,⟨j3,j4,j5,j6⟩,hc4⟩:=ih m (by omega) (by omega) (by omega) c s3 j1
     obtain ⟨s5,Y,⟨j7,j8⟩,hc5⟩:=h459 c s4 d j3 (by omega) (by omega)
     obtain ⟨Z,hZ,hc6⟩:=h460 k d X.1 X.2 Y.1 Y.2 j4 (by omega) (by omega) j6 j8
     simp [h2',hn1]
     refine ⟨by omega,?_⟩
     refine callS (ts':=[rawB c,I s3.1,H64 s3.2]) (r:=I r3) (by simpa using hc3) ?_
     simp [hm]
     refine ⟨by omega,?_⟩
     refine callS (ts':=[rawB c,I s4.1,H64 s4.2]) (r:=ownS X) (by simpa using hc4) ?_
     simp [hd]
     refine ⟨by omega,?_⟩
     refine callS (ts':=[rawB c,I s5.1,H64 s5.2]) (r:=ownS Y) (by simpa using hc5) ?_
     simp
     refine callR hc6 rfl rfl (fun _=>by simp) ?_
     simp
     exact hfin s5 (k+d) Z j7 (by omega) (by omega) hZ
   · have h2':¬(2:Int)≤n:=by omega
     simp [h2']
     refine callS (ts':=[rawB c,I sL.1,H64 sL.2]) (r:=ownS XL) (by simpa using hcL) ?_
     simp
     exact hfin sL n XL jL1 hn0 hnm jL2
 · by_cases h4:4≤most
   · have h4':(4:Int)≤most:=by omega
     obtain ⟨Z,hZ,hc6⟩:=h461 4 rw4 (by omega) (by omega) rw4_ok
     simp [h4']
     refine callR hc6 rfl rfl (fun _=>by simp) ?_
     simp
     exact hfin s2 4 Z k3 (by omega) (by omega) hZ
   · have h4':¬(4:Int)≤most:=by omega
     simp [h4']
     refine callS (ts':=[rawB c,I sL.1,H64 sL.2]) (r:=ownS XL) (by simpa using hcL) ?_
     simp
     exact hfin sL n XL jL1 hn0 hnm jL2
 · by_cases h2:2≤n
   · have h2':(2:Int)≤n:=by omega
     obtain ⟨X,hX,hc⟩:=h423 n hn0 (by omega)
     obtain ⟨Z,hZ,hc6⟩:=h406 n X.1 X.2 hn0 (by omega) hX
     simp [h2']
     refine callR hc rfl rfl (fun _=>by simp) ?_
     simp
     refine callR hc6 rfl rfl (fun _=>by simp) ?_
     simp
     exact hfin s2 n Z k3 hn0 hnm hZ
   · have h2':¬(2:Int)≤n:=by omega
     simp [h2']
     refine callS (ts':=[rawB c,I sL.1,H64 sL.2]) (r:=ownS XL) (by simpa using hcL) ?_
     simp
     exact hfin sL n XL jL1 hn0 hnm jL2
 · by_cases h4:3≤most
   · have h4':(3:Int)≤most:=by omega
     obtain ⟨Z,hZ,hc6⟩:=h461 3 rw3 (by omega) (by omega) rw3_ok
     simp [h4']
     refine callR hc6 rfl rfl (fun _=>by simp) ?_
     simp
     exact hfin s2 3 Z k3 (by omega) (by omega) hZ
   · have h4':¬(3:Int)≤most:=by omega
     simp [h4']
     refine callS (ts':=[rawB c,I sL.1,H64 sL.2]) (r:=ownS XL) (by simpa using hcL) ?_
     simp
     exact hfin sL n XL jL1 hn0 hnm jL2
 · simp
   refine callS (ts':=[rawB c,I sL.1,H64 sL.2]) (r:=ownS XL) (by simpa using hcL) ?_
   simp
   exact hfin sL n XL jL1 hn0 hnm jL2
end Go.Mch
namespace Go.Mch
theorem TabN.tab {n:Nat} {t:List (List Int)} (h:TabN n t):Tab t:=fun r hr=>⟨by rw [(h.2 r hr).1,h.1],fun v hv=>by rw [h.1];exact (h.2 r hr).2 v hv⟩
theorem pm_of {n:Nat} {p:List Int} (h:RowIn n p) (hd:p.Nodup) (h0:0<n) (h12:n≤12):Pm p:=by
 have hl:=h.1
 exact ⟨⟨fun x hx=>by rw [hl];exact h.2 x hx,hd⟩,by omega,by omega⟩
def S_dr2 (pg:Pg):Prop:=∀ (c:Rw Int) (s:Int×Int) (most:Nat),Sr c s→0<most→most≤12→∃ (s':Int×Int) (n:Nat) (X:S2),(Sr c s'∧0<n∧n≤most∧PMN n X.1 X.2)∧Call pg 412 [src c s,I most] [src c s',I most] (ownS X)
set_option maxRecDepth 10000 in
theorem t_dr2 {pg:Pg} (hp:pg.fn 412=some c_spec_l02Draw) (h336:S_nxt pg) (h445:S_any pg) (h368:S_drw pg) (h422:S_renS pg):S_dr2 pg:=by
 intro c s most hs m0 m12
 have hfind:=Call.findA (α:=(Int×Int)×Nat×S2) (Q:=fun Y=>Sr c Y.1∧0<Y.2.1∧Y.2.1≤most∧PMN Y.2.1 Y.2.2.1 Y.2.2.2) (args:=[src c s,I most]) (args':=fun Y=>[src c Y.1,I most]) (r:=fun Y=>ownS Y.2.2) hp rfl (by simp [F.lets,c_spec_l02Draw,List.range,List.range.loop]) (by simp [kindOf]) ?_
 · obtain ⟨Y,h1,h2⟩:=hfind
   exact ⟨_,_,_,h1,h2⟩
 show wp _ _ c_spec_l02Draw.body (postX _ _ _ _ _) _
 generalize hR:postX (fun Y:(Int×Int)×Nat×S2=>Sr c Y.1∧0<Y.2.1∧Y.2.1≤most∧PMN Y.2.1 Y.2.2.1 Y.2.2.2) c_spec_l02Draw.rs [src c s,I most] (fun Y=>[src c Y.1,I most]) (fun Y=>ownS Y.2.2)=R
 have hfin:∀ (s':Int×Int) (k:Nat) (X:S2),Sr c s'→0<k→k≤most→PMN k X.1 X.2→R .ret (fr [(0,some (.val (src c s'))),(1,some (.val (I most))),(4,some (.val (.mem .own none [ownTb X.1,ownTb X.2])))]):=by
  intro s' k X a1 a2 a3 a4
  subst hR
  exact ⟨(s',k,X),⟨a1,a2,a3,a4⟩,by simp [post,c_spec_l02Draw]⟩
 obtain ⟨s1,n,X,⟨k1,k2,k3,k4⟩,hc1⟩:=h445 most m0 m12 c s hs
 obtain ⟨s2,r,⟨k5,_⟩,hc2⟩:=h336.at k1 (n:=4) (by omega)
 obtain ⟨s3,p,⟨k6,k7,k8⟩,hc3⟩:=h368 c s2 n k5 (by omega)
 have hpm:=pm_of k7 k8 k2 (by omega)
 have hl1:=k4.1.1
 have hc4:=h422 X.1 X.2 p k4.1.tab k4.2.tab hpm (by rw [k7.1,k4.1.1]) (by rw [k7.1,k4.2.1])
 simp [c_spec_l02Draw]
 refine callS (ts':=[rawB c,I s1.1,H64 s1.2]) (r:=ownS X) (by simpa using hc1) ?_
 simp
 refine callS (ts':=[rawB c,I s2.1,H64 s2.2]) (r:=I r) (by simpa using hc2) ?_
 by_cases hr:0<r
 · have hl2:=k4.2.1
   simp [hr,hl1,hl2]
   refine callS (ts':=[rawB c,I s3.1,H64 s3.2]) (r:=ownL p) (by simpa using hc3) ?_
   simp [hl1,hl2]
   refine callR hc4 rfl rfl (fun _=>by simp) ?_
   simp
   exact hfin s3 n (imT X.1 p,imT X.2 p) k6 k2 k3 ⟨imT_tabN k4.1 hpm k7.1,imT_tabN k4.2 hpm k7.1⟩
 · simp [hr]
   exact hfin s2 n X k5 k2 k3 k4
theorem rows_set1 (t:List (List Int)) (i:Nat) (r:List Int):(rows t).set i (ownL r)=rows (t.set i r):=by simp [rows,List.map_set]
def Bd (t:List (List Int)):Prop:=t.length≤20∧∀ r∈t,r.length≤20
theorem TabN.bd {n:Nat} {t:List (List Int)} (h:TabN n t) (hn:n≤20):Bd t:=⟨by rw [h.1];exact hn,fun r hr=>by rw [(h.2 r hr).1];exact hn⟩
theorem Bd.set {t:List (List Int)} (h:Bd t) {i:Nat} {r:List Int} (hr:r.length≤20):Bd (t.set i r):=⟨by simpa using h.1,fun x hx=>by
 rcases List.mem_or_eq_of_mem_set hx with h1 | h1
 · exact h.2 x h1
 · rw [h1];exact hr⟩
def S_bad (pg:Pg):Prop:=∀ (c:Rw Int) (s:Int×Int) (n:Nat),Sr c s→0<n→n≤12→∃ (s':Int×Int) (t:List (List Int)),(Sr c s'∧Bd t)∧Call pg 413 [src c s,I n] [src c s',I n] (ownTb t)
set_option maxRecDepth 10000 in
theorem t_bad {pg:Pg} (hp:pg.fn 413=some c_spec_l01Bad) (h336:S_nxt pg) (h428:S_tbs pg) (h334:S_unit pg) (h292:S_pick pg):S_bad pg:=by
 intro c s n hs n0 n12
 have hfind:=Call.findA (α:=(Int×Int)×List (List Int)) (Q:=fun Y=>Sr c Y.1∧Bd Y.2) (args:=[src c s,I n]) (args':=fun Y=>[src c Y.1,I n]) (r:=fun Y=>ownTb Y.2) hp rfl (by simp [F.lets,c_spec_l01Bad,List.range,List.range.loop]) (by simp [kindOf]) ?_
 · obtain ⟨Y,h1,h2⟩:=hfind
   exact ⟨_,_,h1,h2⟩
 show wp _ _ c_spec_l01Bad.body (postX _ _ _ _ _) _
 generalize hR:postX (fun Y:(Int×Int)×List (List Int)=>Sr c Y.1∧Bd Y.2) c_spec_l01Bad.rs [src c s,I n] (fun Y=>[src c Y.1,I n]) (fun Y=>ownTb Y.2)=R
 have hfin:∀ (s':Int×Int) (t:List (List Int)),Sr c s'→Bd t→R .ret (fr [(0,some (.val (src c s'))),(1,some (.val (I n))),(4,some (.val (ownTb t)))]):=by
  intro s' X a1 a2
  subst hR
  exact ⟨(s',X),⟨a1,a2⟩,by simp [post,c_spec_l01Bad]⟩
 obtain ⟨s1,t,⟨k1,k2⟩,hc1⟩:=h428 c s n hs n0 (by omega)
 obtain ⟨s2,kd,⟨k3,k3'⟩,hc2⟩:=h336.at k1 (n:=30) (by omega)
 have hbd:=k2.bd (by omega)
 have htl:=k2.1
 have ht0:0<t.length:=by omega
 have hrow0:=(k2.2 _ (List.getElem_mem ht0)).1
 have hg:(rows t)[0]?=some (ownL t[0]):=by rw [rows_get,List.getElem?_eq_getElem ht0];rfl
 simp [c_spec_l01Bad]
 refine callS (ts':=[rawB c,I s1.1,H64 s1.2]) (r:=ownTb t) (by simpa using hc1) ?_
 simp
 refine callS (ts':=[rawB c,I s2.1,H64 s2.2]) (r:=I kd) (by simpa using hc2) ?_
 simp
 rcases (by omega:kd=0∨kd=1∨kd=2∨kd=3∨kd=4∨5≤kd) with rfl | rfl | rfl | rfl | rfl | hk
 · simp
   refine callR (h334 n (by omega)) rfl rfl (fun _=>by simp) ?_
   simp
   have:=hfin s2 (t++[idL n]) k3 ⟨by simp;omega,fun r hr=>by
    rcases List.mem_append.1 hr with h1 | h1
    · exact hbd.2 r h1
    · rw [List.mem_singleton.1 h1];simp [idL];omega⟩
   exact ⟨by unfold roomy;omega,by simpa only [ownTb,rows_snoc] using this⟩
 · simp [ht0]
   have:=hfin s2 (t.set 0 (t[0]++[0])) k3 (hbd.set (by simp;omega))
   exact ⟨by unfold roomy;omega,by omega,by simpa only [ownTb,← rows_set1,ownL,List.map_append,List.map_cons,List.map_nil] using this⟩
 · obtain ⟨s3,z,⟨j1,_⟩,hc3⟩:=h292 c s2 [-1,n,1099511627776] k3 (by simp) (by simp)
   simp [ht0]
   simp only [ix,List.map_cons,List.map_nil] at hc3
   refine callS (ts':=[rawB c,I s3.1,H64 s3.2]) (r:=I z) (by simpa using hc3) ?_
   have ht00:0<t[0].length:=by omega
   simp [ht0,ht00]
   have:=hfin s3 (t.set 0 (t[0].set 0 z)) j1 (hbd.set (by simp;omega))
   exact ⟨by omega,by simpa only [ownTb,← rows_set1,ownL,List.map_set] using this⟩
 · simp
   exact hfin s2 [] k3 ⟨by simp,by simp⟩
 · obtain ⟨s3,t',⟨j1,j2⟩,hc3⟩:=h428 c s2 13 k3 (by omega) (by omega)
   simp
   refine callS (ts':=[rawB c,I s3.1,H64 s3.2]) (r:=ownTb t') (by simpa using hc3) ?_
   simp
   exact hfin s3 t' j1 (j2.bd (by omega))
 · have h1:¬kd=0:=by omega
   have h2:¬(kd:Int)=1:=by omega
   have h3:¬(kd:Int)=2:=by omega
   have h4:¬(kd:Int)=3:=by omega
   have h5:¬(kd:Int)=4:=by omega
   simp [h1,h2,h3,h4,h5]
   exact hfin s2 t k3 hbd
def S_spl (pg:Pg) (f:Nat):Prop:=∀ (c:Rw Int) (s:Int×Int) (most:Nat),Sr c s→0<most→most≤12→∃ (s':Int×Int) (X:S2),(Sr c s'∧Bd X.1∧Bd X.2)∧Call pg f [src c s,I most] [src c s',I most] (ownS X)
set_option maxRecDepth 10000 in
theorem t_spl {pg:Pg} (hp:pg.fn 379=some c_spec_l02Spoil) (h336:S_nxt pg) (h412:S_dr2 pg) (h368:S_drw pg) (h428:S_tbs pg) (h413:S_bad pg):S_spl pg 379:=by
 intro c s most hs m0 m12
 have hfind:=Call.findA (α:=(Int×Int)×S2) (Q:=fun Y=>Sr c Y.1∧Bd Y.2.1∧Bd Y.2.2) (args:=[src c s,I most]) (args':=fun Y=>[src c Y.1,I most]) (r:=fun Y=>ownS Y.2) hp rfl (by simp [F.lets,c_spec_l02Spoil,List.range,List.range.loop]) (by simp [kindOf]) ?_
 · obtain ⟨Y,h1,h2⟩:=hfind
   exact ⟨_,_,h1,h2⟩
 show wp _ _ c_spec_l02Spoil.body (postX _ _ _ _ _) _
 generalize hR:postX (fun Y:(Int×Int)×S2=>Sr c Y.1∧Bd Y.2.1∧Bd Y.2.2) c_spec_l02Spoil.rs [src c s,I most] (fun Y=>[src c Y.1,I most]) (fun Y=>ownS Y.2)=R
 have hfin:∀ (s':Int×Int) (X:S2),Sr c s'→Bd X.1→Bd X.2→R .ret (fr [(0,some (.val (src c s'))),(1,some (.val (I most))),(4,some (.val (.mem .own none [ownTb X.1,ownTb X.2])))]):=by
  intro s' X a1 a2 a3
  subst hR
  exact ⟨(s',X),⟨a1,a2,a3⟩,by simp [post,c_spec_l02Spoil]⟩
 obtain ⟨s1,n,X,⟨k1,n0,nm,hX⟩,hc1⟩:=h412 c s most hs m0 m12
 obtain ⟨s2,kd,⟨k3,k3'⟩,hc2⟩:=h336.at k1 (n:=24) (by omega)
 have hb1:=hX.1.bd (by omega)
 have hb2:=hX.2.bd (by omega)
 have hl1:=hX.1.1
 have hl2:=hX.2.1
 simp [c_spec_l02Spoil]
 refine callS (ts':=[rawB c,I s1.1,H64 s1.2]) (r:=ownS X) (by simpa using hc1) ?_
 simp [hl1]
 refine callS (ts':=[rawB c,I s2.1,H64 s2.2]) (r:=I kd) (by simpa using hc2) ?_
 simp
 rcases (by omega:kd=0∨kd=1∨kd=2∨kd=3∨kd=4∨5≤kd) with rfl | rfl | rfl | rfl | rfl | hk
 · obtain ⟨s3,a,⟨j1,j2⟩,hc3⟩:=h336.at k3 (n:=n) n0
   obtain ⟨s4,p,⟨j3,j4,_⟩,hc4⟩:=h368 c s3 n j1 (by omega)
   simp [hl1]
   refine callS (ts':=[rawB c,I s3.1,H64 s3.2]) (r:=I a) (by simpa using hc3) ?_
   simp
   refine callS (ts':=[rawB c,I s4.1,H64 s4.2]) (r:=ownL p) (by simpa using hc4) ?_
   simp [hl1,j2]
   have:=hfin s4 (X.1.set a p,X.2) j3 (hb1.set (by rw [j4.1];omega)) hb2
   exact ⟨by omega,by simpa only [ownTb,← rows_set1,ownL] using this⟩
 · obtain ⟨s3,a,⟨j1,j2⟩,hc3⟩:=h336.at k3 (n:=n) n0
   obtain ⟨s4,b,⟨j3,j4⟩,hc4⟩:=h336.at j1 (n:=n) n0
   obtain ⟨s5,z,⟨j5,j6⟩,hc5⟩:=h336.at j3 (n:=n) n0
   have ha:a<X.2.length:=by omega
   have hrow:=(hX.2.2 _ (List.getElem_mem ha)).1
   have hg:(rows X.2)[a]?=some (ownL X.2[a]):=by rw [rows_get,List.getElem?_eq_getElem ha];rfl
   simp [hl2]
   refine callS (ts':=[rawB c,I s3.1,H64 s3.2]) (r:=I a) (by simpa using hc3) ?_
   simp [hl2,j2,hrow]
   refine callS (ts':=[rawB c,I s4.1,H64 s4.2]) (r:=I b) (by simpa using hc4) ?_
   simp
   refine callS (ts':=[rawB c,I s5.1,H64 s5.2]) (r:=I z) (by simpa using hc5) ?_
   simp [hl2,j2,j4,hrow]
   have:=hfin s5 (X.1,X.2.set a (X.2[a].set b z)) j5 hb1 (hb2.set (by rw [List.length_set,hrow];omega))
   exact ⟨by omega,by simpa only [ownTb,← rows_set1,ownL,List.map_set] using this⟩
 · obtain ⟨s3,f,⟨j1,j2⟩,hc3⟩:=h428 c s2 n k3 n0 (by omega)
   obtain ⟨s4,g,⟨j3,j4⟩,hc4⟩:=h428 c s3 n j1 n0 (by omega)
   simp
   refine callS (ts':=[rawB c,I s3.1,H64 s3.2]) (r:=ownTb f) (by simpa using hc3) ?_
   simp
   refine callS (ts':=[rawB c,I s4.1,H64 s4.2]) (r:=ownTb g) (by simpa using hc4) ?_
   simp
   exact hfin s4 (f,g) j3 (j2.bd (by omega)) (j4.bd (by omega))
 · obtain ⟨s3,t',⟨j1,j2⟩,hc3⟩:=h413 c s2 n k3 n0 (by omega)
   simp
   refine callS (ts':=[rawB c,I s3.1,H64 s3.2]) (r:=ownTb t') (by simpa using hc3) ?_
   simp
   exact hfin s3 (X.1,t') j1 hb1 j2
 · obtain ⟨s3,t',⟨j1,j2⟩,hc3⟩:=h413 c s2 n k3 n0 (by omega)
   simp
   refine callS (ts':=[rawB c,I s3.1,H64 s3.2]) (r:=ownTb t') (by simpa using hc3) ?_
   simp
   exact hfin s3 (t',X.2) j1 j2 hb2
 · have h1:¬kd=0:=by omega
   have h2:¬(kd:Int)=1:=by omega
   have h3:¬(kd:Int)=2:=by omega
   have h4:¬(kd:Int)=3:=by omega
   have h5:¬(kd:Int)=4:=by omega
   simp [h1,h2,h3,h4,h5]
   exact hfin s2 X k3 hb1 hb2
end Go.Mch
namespace Go.Mch
def CY (n:Nat) (t:List (List Int)):Prop:=TabN n t∧∀ r∈t,r.Nodup
abbrev cyT (t:List (List Int)):T:=.agg [tb t]
abbrev ownC (t:List (List Int)):T:=.agg [ownTb t]
theorem CY.has {n:Nat} {t:List (List Int)} (h:CY n t) (h0:0<n) (h12:n≤12) {x y:Nat} (hx:x<n) (hy:y<n):∃ (h1:x<t.length),0≤ixOf t[x] y∧ixOf t[x] y<n:=by
 have h1:x<t.length:=by rw [h.1.1];exact hx
 have h2:=h.1.2 _ (List.getElem_mem h1)
 have hp:=pm_of h2 (h.2 _ (List.getElem_mem h1)) h0 h12
 have:=hp.mem (x:=y) (by rw [h2.1];exact hy)
 have h3:=ixOf_le t[x] y
 rw [h2.1] at h3
 exact ⟨h1,(ixOf_mem _ _).2 this,h3.2⟩
theorem invL_ok {p:List Int} (h:Pm p):RowIn p.length (invL p)∧(invL p).Nodup:=by
 refine ⟨⟨invL_length p,fun v hv=>?_⟩,?_⟩
 · obtain ⟨i,hi,rfl⟩:=List.getElem_of_mem hv
   have hil:i<p.length:=by simpa using hi
   have:=h.lt hil
   rw [invL_get hi]
   omega
 · rw [List.nodup_iff_pairwise_ne,List.pairwise_iff_getElem]
   intro i j hi hj hij he
   have hil:i<p.length:=by simpa using hi
   have hjl:j<p.length:=by simpa using hj
   rw [invL_get hi,invL_get hj] at he
   have h1:=h.at hil
   have h2:=h.at hjl
   have he':invQ p i=invQ p j:=by omega
   rw [he'] at h1
   rw [h1] at h2
   omega
def S_aff (pg:Pg):Prop:=∀ n a b c:Nat,0<n→n≤64→a≤64→b≤64→c≤64→∃ t:List (List Int),TabN n t∧Call pg 424 [I n,I a,I b,I c] [I n,I a,I b,I c] (ownC t)
set_option maxRecDepth 10000 in
theorem t_aff {pg:Pg} (hp:pg.fn 424=some c_spec_l05Affine):S_aff pg:=by
 intro n a b c h0 hn ha hb hc
 refine Call.find hp rfl (by simp) ?_
 show wp _ _ c_spec_l05Affine.body _ _
 generalize hR:(fun (x:X) (e:Env)=>∃ l:List (List Int),TabN n l∧post c_spec_l05Affine.rs [I n,I a,I b,I c] [I n,I a,I b,I c] (ownC l) x e)=R
 simp [c_spec_l05Affine]
 refine wpLoop_count (fun k e=>∃ s:List (List Int),(s.length=k∧∀ r∈s,RowIn n r)∧e=fr [(0,some (.val (I n))),(1,some (.val (I a))),(2,some (.val (I b))),(3,some (.val (I c))),(8,some (.val (.mem .own none [nil]))),(9,some (.val (.mem .own none [ownN2 s]))),(10,some (.val (I k)))]) n ?_ ?_ 0 _ (by omega) ⟨[],⟨rfl,by simp⟩,rfl⟩
 · rintro k e hk ⟨s,⟨g3,g4⟩,rfl⟩
   simp [hk]
   refine wpLoop_count (fun j e=>∃ q:List Int,(q.length=j∧∀ v∈q,0≤v∧v<n)∧e=fr [(0,some (.val (I n))),(1,some (.val (I a))),(2,some (.val (I b))),(3,some (.val (I c))),(8,some (.val (.mem .own none [nil]))),(9,some (.val (.mem .own none [ownN2 s]))),(10,some (.val (I k))),(11,some (.val (ownL q))),(12,some (.val (I j)))]) n ?_ ?_ 0 _ (by omega) ⟨[],⟨rfl,by simp⟩,rfl⟩
   · rintro j e hj ⟨q,⟨i3,i4⟩,rfl⟩
     obtain ⟨u,hu,hu2⟩:∃ u:Nat,(a:Int)*k=u∧u≤4096:=⟨a*k,by simp,Nat.mul_le_mul ha (by omega:k≤64)⟩
     obtain ⟨v,hv,hv2⟩:∃ v:Nat,(b:Int)*j=v∧v≤4096:=⟨b*j,by simp,Nat.mul_le_mul hb (by omega:j≤64)⟩
     obtain ⟨m,hm,hm2⟩:∃ m:Nat,((u:Int)+v+c).tmod n=m∧m<n:=⟨(u+v+c) % n,by rw [Int.tmod_eq_emod_of_nonneg (by omega),Int.natCast_emod];simp,Nat.mod_lt _ h0⟩
     have hn0:¬n=0:=by omega
     simp [hj,hu,hv,hm,hn0]
     exact ⟨by omega,by omega,by omega,by omega,by unfold roomy;omega,by omega,q++[(m:Int)],⟨by simp [i3],snoc_in i4 (by omega)⟩,by simp only [ownL,List.map_append,List.map_cons,List.map_nil]⟩
   · rintro e ⟨q,⟨i3,i4⟩,rfl⟩
     by_cases hk0:k=0
     · subst hk0
       obtain rfl:s=[]:=List.length_eq_zero_iff.1 g3
       simp
       exact ⟨by unfold roomy;omega,[q],⟨rfl,one_row ⟨i3,i4⟩⟩,rfl⟩
     · rw [ownN2_ne g3 (by omega)]
       simp
       exact ⟨by unfold roomy;omega,by omega,s++[q],TabN.snoc ⟨g3,g4⟩ ⟨i3,i4⟩,by simp only [ownN2_snoc]⟩
 · rintro e ⟨s,⟨g3,g4⟩,rfl⟩
   rw [ownN2_ne g3 h0]
   simp
   subst hR
   exact ⟨s,⟨g3,g4⟩,by simp [post,c_spec_l05Affine]⟩
def S_sqs (pg:Pg):Prop:=∀ (n:Nat) (t:List (List Int)),n≤64→TabN n t→∃ q:List Int,q.length=n∧Call pg 417 [tb t] [tb t] (ownL q)
set_option maxRecDepth 10000 in
theorem t_sqs {pg:Pg} (hp:pg.fn 417=some c_spec_l05Squares):S_sqs pg:=by
 intro n t hn ht
 have htl:=ht.1
 refine Call.find hp rfl (by simp) ?_
 show wp _ _ c_spec_l05Squares.body _ _
 generalize hR:(fun (x:X) (e:Env)=>∃ l:List Int,l.length=n∧post c_spec_l05Squares.rs [tb t] [tb t] (ownL l) x e)=R
 simp [c_spec_l05Squares]
 refine wpLoop_count (fun k e=>∃ q:List Int,q.length=k∧e=fr [(0,some (.val (tb t))),(3,some (.val (ownL q))),(4,some (.val (I k)))]) n ?_ ?_ 0 _ (by omega) ⟨[],rfl,rfl⟩
 · rintro k e hk ⟨q,g1,rfl⟩
   obtain ⟨u1,u2,u3,u4,u5⟩:=ht.at hk hk
   simp [hk,htl,u3]
   exact ⟨by unfold roomy;omega,by omega,q++[t[k][k]],by simp [g1],by simp only [ownL,List.map_append,List.map_cons,List.map_nil]⟩
 · rintro e ⟨q,g1,rfl⟩
   simp [htl]
   subst hR
   exact ⟨q,g1,by simp [post,c_spec_l05Squares]⟩
def S_flt (pg:Pg):Prop:=∀ (n:Nat) (t:List (List Int)),n≤64→TabN n t→∃ q:List Int,q.length≤3∧Call pg 418 [tb t] [tb t] (ownL q)
set_option maxRecDepth 10000 in
theorem t_flt {pg:Pg} (hp:pg.fn 418=some c_spec_l05Fault):S_flt pg:=by
 intro n t hn ht
 have htl:=ht.1
 refine Call.find hp rfl (by simp) ?_
 show wp _ _ c_spec_l05Fault.body _ _
 generalize hR:(fun (x:X) (e:Env)=>∃ l:List Int,l.length≤3∧post c_spec_l05Fault.rs [tb t] [tb t] (ownL l) x e)=R
 simp [c_spec_l05Fault,htl]
 refine wpLoop_count (fun x e=>e=fr [(0,some (.val (tb t))),(3,some (.val (I n))),(4,some (.val (I x)))]) n ?_ ?_ 0 _ (by omega) rfl
 · rintro x e hx rfl
   simp [hx]
   refine wpLoop_count (fun y e=>e=fr [(0,some (.val (tb t))),(3,some (.val (I n))),(4,some (.val (I x))),(5,some (.val (I y)))]) n ?_ ?_ 0 _ (by omega) rfl
   · rintro y e hy rfl
     simp [hy]
     refine wpLoop_count (fun z e=>e=fr [(0,some (.val (tb t))),(3,some (.val (I n))),(4,some (.val (I x))),(5,some (.val (I y))),(6,some (.val (I z)))]) n ?_ ?_ 0 _ (by omega) rfl
     · rintro z e hz rfl
       obtain ⟨a1,a2,a3,a4,a5⟩:=ht.at hx hy
       obtain ⟨b1,b2,b3,b4,b5⟩:=ht.at hx hz
       obtain ⟨c1,c2,c3,c4,c5⟩:=ht.at hy hx
       obtain ⟨d1,d2,d3,d4,d5⟩:=ht.at hy hz
       obtain ⟨A,hA⟩:∃ A:Nat,t[x][y]=A:=⟨(t[x][y]).toNat,by omega⟩
       obtain ⟨B,hB⟩:∃ A:Nat,t[x][z]=A:=⟨(t[x][z]).toNat,by omega⟩
       obtain ⟨C,hC⟩:∃ A:Nat,t[y][x]=A:=⟨(t[y][x]).toNat,by omega⟩
       obtain ⟨D,hD⟩:∃ A:Nat,t[y][z]=A:=⟨(t[y][z]).toNat,by omega⟩
       rw [hA] at a4 a5
       rw [hB] at b4 b5
       rw [hC] at c4 c5
       rw [hD] at d4 d5
       have hAn:A<n:=by omega
       have hBn:B<n:=by omega
       have hCn:C<n:=by omega
       have hDn:D<n:=by omega
       obtain ⟨m1,m2,m3,m4,m5⟩:=ht.at hAn hBn
       obtain ⟨n1,n2,n3,n4,n5⟩:=ht.at hCn hDn
       by_cases he:t[A][B]=t[C][D]
       · simp [hz,hx,hy,htl,a3,c3,hA,hB,hC,hD,hAn,hBn,hCn,hDn,m3,n3,he]
         omega
       · simp [hz,hx,hy,htl,a3,c3,hA,hB,hC,hD,hAn,hBn,hCn,hDn,m3,n3,he]
         subst hR
         exact ⟨[(x:Int),y,z],by simp,by simp [post,c_spec_l05Fault]⟩
     · rintro e rfl
       simp
       omega
   · rintro e rfl
     simp
     omega
 · rintro e rfl
   simp
   subst hR
   exact ⟨[],by simp,by simp [post,c_spec_l05Fault]⟩
end Go.Mch
namespace Go.Mch
def S_cyI (pg:Pg):Prop:=∀ (n:Nat) (t:List (List Int)),0<n→n≤12→TabN n t→∃ b:Bool,(b=true→∀ r∈t,r.Nodup)∧Call pg 363 [cyT t] [cyT t] (B b)
set_option maxRecDepth 10000 in
theorem t_cyI {pg:Pg} (hp:pg.fn 363=some c_spec_l05Is) (h46:S_table pg 46) (h410:S_l01Rows pg) (h417:S_sqs pg) (h47:S_perm pg 47) (h418:S_flt pg):S_cyI pg:=by
 intro n t h0 hn ht
 have htl:=ht.1
 have hT:=ht.tab
 have hc1:=h46 t (by omega) (fun r hr=>by have:=(ht.2 r hr).1;omega)
 have hist:isTable t:=⟨by omega,by omega,hT⟩
 have hc2:=h410 t hT (by omega) (by omega)
 obtain ⟨q,q1,hc3⟩:=h417 n t (by omega) ht
 have hc4:=h47 q (by omega)
 obtain ⟨w,w1,hc5⟩:=h418 n t (by omega) ht
 have hw1:w.length≤1048576:=by omega
 simp only [hist,decide_true] at hc1
 by_cases hr:permRows t
 · simp only [hr,decide_true] at hc2
   by_cases hq:isPerm q
   · simp only [hq,decide_true] at hc4
     refine ⟨decide (w.length=0),fun _ r hr'=>(hr r hr').2,Call.intro hp rfl (by simp) ?_⟩
     show wp _ _ c_spec_l05Is.body (post _ _ _ _) _
     simp [c_spec_l05Is]
     refine callR hc1 rfl rfl (fun _=>rfl) ?_
     simp
     refine callR hc2 rfl rfl (fun _=>rfl) ?_
     simp
     refine callR hc3 rfl rfl (fun _=>by simp) ?_
     simp
     refine callR hc4 rfl rfl (fun _=>rfl) ?_
     simp
     refine callR hc5 rfl rfl (fun _=>by simp) ?_
     simp
   · simp only [hq,decide_false] at hc4
     refine ⟨false,by simp,Call.intro hp rfl (by simp) ?_⟩
     show wp _ _ c_spec_l05Is.body (post _ _ _ _) _
     simp [c_spec_l05Is]
     refine callR hc1 rfl rfl (fun _=>rfl) ?_
     simp
     refine callR hc2 rfl rfl (fun _=>rfl) ?_
     simp
     refine callR hc3 rfl rfl (fun _=>by simp) ?_
     simp
     refine callR hc4 rfl rfl (fun _=>rfl) ?_
     simp [undefV]
 · simp only [hr,decide_false] at hc2
   refine ⟨false,by simp,Call.intro hp rfl (by simp) ?_⟩
   show wp _ _ c_spec_l05Is.body (post _ _ _ _) _
   simp [c_spec_l05Is]
   refine callR hc1 rfl rfl (fun _=>rfl) ?_
   simp
   refine callR hc2 rfl rfl (fun _=>rfl) ?_
   simp [undefV]
def S_cyc (pg:Pg):Prop:=∀ (n:Nat) (f s:List (List Int)),0<n→n≤12→CY n f→fits s→∃ t:List (List Int),CY n t∧Call pg 364 [sol f s] [sol f s] (ownC t)
set_option maxRecDepth 10000 in
theorem t_cyc {pg:Pg} (hp:pg.fn 364=some c_spec_l05Cycle) (h304:S_inv pg 304):S_cyc pg:=by
 intro n f s h0 hn hf hs
 have hfl:=hf.1.1
 refine Call.find hp rfl (by simp) ?_
 show wp _ _ c_spec_l05Cycle.body _ _
 generalize hR:(fun (x:X) (e:Env)=>∃ l:List (List Int),CY n l∧post c_spec_l05Cycle.rs [sol f s] [sol f s] (ownC l) x e)=R
 simp [c_spec_l05Cycle]
 refine wpLoop_count (fun k e=>∃ t:List (List Int),((t.length=k∧∀ r∈t,RowIn n r)∧∀ r∈t,r.Nodup)∧e=fr [(1,some (.val (.mem .own none [tb f,tb s]))),(2,some (.val (.mem .own none [nil]))),(3,some (.val (.mem .own none [ownN2 t]))),(4,some (.val (I k)))]) n ?_ ?_ 0 _ (by omega) ⟨[],⟨⟨rfl,by simp⟩,by simp⟩,rfl⟩
 · rintro k e hk ⟨t,⟨⟨g1,g2⟩,g3⟩,rfl⟩
   have hkl:k<f.length:=by omega
   have hr:=hf.1.2 _ (List.getElem_mem hkl)
   have hpm:=pm_of hr (hf.2 _ (List.getElem_mem hkl)) h0 hn
   have hc:=h304 f[k] hpm
   obtain ⟨j1,j2⟩:=invL_ok hpm
   rw [hr.1] at j1
   by_cases hk0:k=0
   · subst hk0
     obtain rfl:t=[]:=List.length_eq_zero_iff.1 g1
     simp [hk,hfl]
     refine callR hc rfl rfl (fun _=>by simp) ?_
     simp
     exact ⟨by unfold roomy;omega,[invL f[0]],⟨⟨rfl,one_row j1⟩,fun r hr=>by rw [List.mem_singleton.1 hr];exact j2⟩,rfl⟩
   · rw [ownN2_ne g1 (by omega)]
     simp [hk,hfl]
     refine callR hc rfl rfl (fun _=>by simp) ?_
     simp
     refine ⟨by unfold roomy;omega,by omega,t++[invL f[k]],⟨TabN.snoc ⟨g1,g2⟩ j1,fun r hr=>?_⟩,by simp only [ownN2_snoc]⟩
     rcases List.mem_append.1 hr with h1 | h1
     · exact g3 r h1
     · rw [List.mem_singleton.1 h1];exact j2
 · rintro e ⟨t,⟨⟨g1,g2⟩,g3⟩,rfl⟩
   rw [ownN2_ne g1 h0]
   simp [hfl]
   subst hR
   exact ⟨t,⟨⟨g1,g2⟩,g3⟩,by simp [post,c_spec_l05Cycle]⟩
def S_cys (pg:Pg):Prop:=∀ (n:Nat) (t:List (List Int)),0<n→n≤12→CY n t→∃ X:S2,PMN n X.1 X.2∧Call pg 366 [cyT t] [cyT t] (ownS X)
set_option maxRecDepth 10000 in
theorem t_cys {pg:Pg} (hp:pg.fn 366=some c_spec_l05Solution) (h398:S_empty pg) (h69:S_index pg):S_cys pg:=by
 intro n t h0 hn ht
 have htl:=ht.1.1
 refine Call.find hp rfl (by simp) ?_
 show wp _ _ c_spec_l05Solution.body _ _
 generalize hR:(fun (x:X) (e:Env)=>∃ l:S2,PMN n l.1 l.2∧post c_spec_l05Solution.rs [cyT t] [cyT t] (ownS l) x e)=R
 simp [c_spec_l05Solution]
 rw [htl]
 refine callR (h398 n h0 (by omega)) rfl rfl (fun _=>by simp) ?_
 simp
 refine wpLoop_count (fun a e=>∃ F S:List (List Int),PMN n F S∧e=fr [(1,some (.val (.mem .own none [tb t]))),(2,some (.val (.mem .own none [nil,nil]))),(3,some (.val (I n))),(4,some (.val (.mem .own none [ownTb F,ownTb S]))),(5,some (.val (I a)))]) n ?_ ?_ 0 _ (by omega) ⟨zeroT n n,zeroT n n,⟨zeroT_tabN h0,zeroT_tabN h0⟩,rfl⟩
 · rintro a e ha ⟨F,S,hX,rfl⟩
   have hal:a<t.length:=by omega
   have w1:=hX.1.1
   have w2:=hX.2.1
   have xF:a<F.length:=by omega
   have xS:a<S.length:=by omega
   have rF:=(hX.1.2 _ (List.getElem_mem xF)).1
   have rS:=(hX.2.2 _ (List.getElem_mem xS)).1
   have hg1:(rows F)[a]?=some (ownL F[a]):=by rw [rows_get,List.getElem?_eq_getElem xF];rfl
   have hg2:(rows S)[a]?=some (ownL S[a]):=by rw [rows_get,List.getElem?_eq_getElem xS];rfl
   simp [ha,w1,w2,rF,rS]
   refine wpLoop_count (fun b e=>∃ F S:List (List Int),PMN n F S∧e=fr [(1,some (.val (.mem .own none [tb t]))),(2,some (.val (.mem .own none [nil,nil]))),(3,some (.val (I n))),(4,some (.val (.mem .own none [ownTb F,ownTb S]))),(5,some (.val (I a))),(6,some (.sref 4 [0,a] 1 0 n)),(7,some (.sref 4 [1,a] 1 0 n)),(8,some (.val (I b)))]) n ?_ ?_ 0 _ (by omega) ⟨F,S,hX,by simp⟩
   · clear hg1 hg2 rF rS xF xS w1 w2 hX
     rintro b e hb ⟨F,S,hX,rfl⟩
     have w1:=hX.1.1
     have w2:=hX.2.1
     have xF:a<F.length:=by omega
     have xS:a<S.length:=by omega
     have rF:=(hX.1.2 _ (List.getElem_mem xF)).1
     have rS:=(hX.2.2 _ (List.getElem_mem xS)).1
     have hg1:(rows F)[a]?=some (ownL F[a]):=by rw [rows_get,List.getElem?_eq_getElem xF];rfl
     have hg2:(rows S)[a]?=some (ownL S[a]):=by rw [rows_get,List.getElem?_eq_getElem xS];rfl
     obtain ⟨_,z1,z2⟩:=ht.has h0 hn ha hb
     have hrow:=(ht.1.2 _ (List.getElem_mem hal)).1
     have hc:=h69 t[a] b (by omega)
     obtain ⟨u,hu⟩:∃ u:Nat,ixOf t[a] b=u:=⟨(ixOf t[a] b).toNat,by omega⟩
     rw [hu] at z1 z2 hc
     have hun:u<n:=by omega
     obtain ⟨m1,m2,m3,m4,m5⟩:=ht.1.at hun ha
     simp [hb,ha,htl]
     refine callR hc rfl rfl (fun _=>rfl) ?_
     simp [hb,ha,htl,w1,w2,rF,rS,hun,m3]
     exact ⟨by omega,by omega,F.set a (F[a].set b u),S.set a (S[a].set b t[u][a]),⟨hX.1.set2 xF ⟨by omega,by omega⟩,hX.2.set2 xS ⟨by omega,by omega⟩⟩,by simp only [ownTb,← rows_set2 xF,← rows_set2 xS]⟩
   · rintro e ⟨F,S,hX,rfl⟩
     simp
     exact ⟨by omega,F,S,hX,rfl⟩
 · rintro e ⟨F,S,hX,rfl⟩
   simp
   subst hR
   exact ⟨(F,S),hX,by simp [post,c_spec_l05Solution]⟩
theorem PMN.pm {n:Nat} {f s:List (List Int)} (h:PMN n f s) (h0:0<n) (h12:n≤12):PM f s:=⟨h.1.tab,h.2.tab,by rw [h.1.1,h.2.1],by rw [h.1.1];exact h0,by rw [h.1.1];exact h12⟩
theorem PMN.fits {n:Nat} {f s:List (List Int)} (h:PMN n f s) (h12:n≤12):fits f∧fits s:=⟨⟨by rw [h.1.1];omega,fun r hr=>by rw [(h.1.2 r hr).1];omega⟩,by rw [h.2.1];omega,fun r hr=>by rw [(h.2.2 r hr).1];omega⟩
def S_cyD (pg:Pg) (f:Nat):Prop:=∀ (c:Rw Int) (s:Int×Int) (most:Nat),Sr c s→0<most→most≤12→∃ (s':Int×Int) (n:Nat) (t:List (List Int)),(Sr c s'∧0<n∧n≤most∧CY n t)∧Call pg f [src c s,I most] [src c s',I most] (ownC t)
set_option maxRecDepth 10000 in
theorem t_cyA {pg:Pg} (hp:pg.fn 427=some c_spec_l05Any) (h336:S_nxt pg) (h424:S_aff pg) (h363:S_cyI pg) (h412:S_dr2 pg) (h350:S_nonDeg pg 350) (h351:S_twice pg 351) (h364:S_cyc pg) (h449:S_flp pg):S_cyD pg 427:=by
 intro c s most hs m0 m12
 have hfind:=Call.findA (α:=(Int×Int)×Nat×List (List Int)) (Q:=fun Y=>Sr c Y.1∧0<Y.2.1∧Y.2.1≤most∧CY Y.2.1 Y.2.2) (args:=[src c s,I most]) (args':=fun Y=>[src c Y.1,I most]) (r:=fun Y=>ownC Y.2.2) hp rfl (by simp [F.lets,c_spec_l05Any,List.range,List.range.loop]) (by simp [kindOf]) ?_
 · obtain ⟨Y,h1,h2⟩:=hfind
   exact ⟨_,_,_,h1,h2⟩
 show wp _ _ c_spec_l05Any.body (postX _ _ _ _ _) _
 generalize hR:postX (fun Y:(Int×Int)×Nat×List (List Int)=>Sr c Y.1∧0<Y.2.1∧Y.2.1≤most∧CY Y.2.1 Y.2.2) c_spec_l05Any.rs [src c s,I most] (fun Y=>[src c Y.1,I most]) (fun Y=>ownC Y.2.2)=R
 have hfin:∀ (s':Int×Int) (k:Nat) (t:List (List Int)),Sr c s'→0<k→k≤most→CY k t→R .ret (fr [(0,some (.val (src c s'))),(1,some (.val (I most))),(4,some (.val (.mem .own none [ownTb t])))]):=by
  intro s' k X a1 a2 a3 a4
  subst hR
  exact ⟨(s',k,X),⟨a1,a2,a3,a4⟩,by simp [post,c_spec_l05Any]⟩
 obtain ⟨s1,r1,⟨k1,k2⟩,hc1⟩:=h336.at hs (n:=most) m0
 obtain ⟨s2,kd,⟨k3,k4⟩,hc2⟩:=h336.at k1 (n:=3) (by omega)
 obtain ⟨n,hn⟩:∃ n:Nat,(1:Int)+r1=n:=⟨1+r1,by omega⟩
 have hn0:0<n:=by omega
 have hnm:n≤most:=by omega
 simp [c_spec_l05Any]
 refine callS (ts':=[rawB c,I s1.1,H64 s1.2]) (r:=I r1) (by simpa using hc1) ?_
 simp [hn]
 refine ⟨by omega,?_⟩
 refine callS (ts':=[rawB c,I s2.1,H64 s2.2]) (r:=I kd) (by simpa using hc2) ?_
 by_cases hk0:kd=0
 · simp [hk0]
   refine wpLoop_count (fun k e=>∃ s':Int×Int,Sr c s'∧e=fr [(0,some (.val (src c s'))),(1,some (.val (I most))),(4,some (.val (.mem .own none [nil]))),(5,some (.val (I n))),(6,some (.val (I k)))]) 30 ?_ ?_ 0 _ (by omega) ⟨s2,k3,rfl⟩
   · rintro k e hk ⟨s3,g1,rfl⟩
     obtain ⟨s4,a1,⟨j1,j2⟩,hd1⟩:=h336.at g1 (n:=n) hn0
     obtain ⟨s5,a2,⟨j3,j4⟩,hd2⟩:=h336.at j1 (n:=n) hn0
     obtain ⟨s6,a3,⟨j5,j6⟩,hd3⟩:=h336.at j3 (n:=n) hn0
     obtain ⟨t,ht,hd4⟩:=h424 n a1 a2 a3 hn0 (by omega) (by omega) (by omega) (by omega)
     obtain ⟨b,hb,hd5⟩:=h363 n t hn0 (by omega) ht
     have hk':(k:Int)<30:=by omega
     simp [hk']
     refine callS (ts':=[rawB c,I s4.1,H64 s4.2]) (r:=I a1) (by simpa using hd1) ?_
     simp
     refine callS (ts':=[rawB c,I s5.1,H64 s5.2]) (r:=I a2) (by simpa using hd2) ?_
     simp
     refine callS (ts':=[rawB c,I s6.1,H64 s6.2]) (r:=I a3) (by simpa using hd3) ?_
     simp
     refine callR hd4 rfl rfl (fun _=>by simp) ?_
     simp
     refine callR hd5 rfl rfl (fun _=>rfl) ?_
     cases b with
     | true =>
      simp
      exact hfin s6 n t j5 hn0 hnm ⟨ht,hb rfl⟩
     | false =>
      simp
      exact ⟨by omega,s6.1,s6.2,j5,rfl⟩
   · rintro e ⟨s3,g1,rfl⟩
     simp
     refine wpLoop_count (fun k e=>∃ s':Int×Int,Sr c s'∧e=fr [(0,some (.val (src c s'))),(1,some (.val (I most))),(4,some (.val (.mem .own none [nil]))),(5,some (.val (I n))),(8,some (.val (I k)))]) 8 ?_ ?_ 0 _ (by omega) ⟨s3,g1,rfl⟩
     · rintro k e hk ⟨s3,g1,rfl⟩
       obtain ⟨s4,m,X,⟨j1,j2,j3,j4⟩,hd1⟩:=h412 c s3 n g1 hn0 (by omega)
       have hpm:=j4.pm j2 (by omega)
       have hfit:=j4.fits (by omega)
       have hk':(k:Int)<8:=by omega
       have hd2:=h350 X.1 X.2 hpm
       have hd3:=h351 X.1 X.2 hpm
       simp [hk']
       refine callS (ts':=[rawB c,I s4.1,H64 s4.2]) (r:=ownS X) (by simpa using hd1) ?_
       simp
       refine callR hd2 rfl rfl (fun _=>rfl) ?_
       by_cases hg:nonDeg X.1 X.2
       · simp [hg]
         refine callR hd3 rfl rfl (fun _=>rfl) ?_
         generalize dec (isInv X.1 X.2)=b at *
         cases b with
         | true =>
          obtain ⟨t,ht,hd4⟩:=h364 m X.1 X.2 j2 (by omega) ⟨j4.1,fun r hr=>(hg.1 r hr).2⟩ hfit.2
          simp
          refine callR hd4 rfl rfl (fun _=>by simp) ?_
          simp
          exact hfin s4 m t j1 j2 (by omega) ht
         | false =>
          simp
          exact ⟨by omega,s4.1,s4.2,j1,rfl⟩
       · simp [hg,undefV]
         exact ⟨by omega,s4.1,s4.2,j1,rfl⟩
     · rintro e ⟨s3,g1,rfl⟩
       obtain ⟨X,⟨j1,j2⟩,hd1⟩:=h449 n hn0 (by omega)
       have hfit:=j1.fits (by omega)
       obtain ⟨t,ht,hd2⟩:=h364 n X.1 X.2 hn0 (by omega) ⟨j1.1,fun r hr=>by rw [j2 r hr];exact (idL_rowIn n).2⟩ hfit.2
       simp
       refine callR hd1 rfl rfl (fun _=>by simp) ?_
       simp
       refine callR hd2 rfl rfl (fun _=>by simp) ?_
       simp
       exact hfin s3 n t g1 hn0 hnm ht
 · simp [hk0]
   refine wpLoop_count (fun k e=>∃ s':Int×Int,Sr c s'∧e=fr [(0,some (.val (src c s'))),(1,some (.val (I most))),(4,some (.val (.mem .own none [nil]))),(5,some (.val (I n))),(8,some (.val (I k)))]) 8 ?_ ?_ 0 _ (by omega) ⟨s2,k3,rfl⟩
   · rintro k e hk ⟨s3,g1,rfl⟩
     obtain ⟨s4,m,X,⟨j1,j2,j3,j4⟩,hd1⟩:=h412 c s3 n g1 hn0 (by omega)
     have hpm:=j4.pm j2 (by omega)
     have hfit:=j4.fits (by omega)
     have hk':(k:Int)<8:=by omega
     have hd2:=h350 X.1 X.2 hpm
     have hd3:=h351 X.1 X.2 hpm
     simp [hk']
     refine callS (ts':=[rawB c,I s4.1,H64 s4.2]) (r:=ownS X) (by simpa using hd1) ?_
     simp
     refine callR hd2 rfl rfl (fun _=>rfl) ?_
     by_cases hg:nonDeg X.1 X.2
     · simp [hg]
       refine callR hd3 rfl rfl (fun _=>rfl) ?_
       generalize dec (isInv X.1 X.2)=b at *
       cases b with
       | true =>
        obtain ⟨t,ht,hd4⟩:=h364 m X.1 X.2 j2 (by omega) ⟨j4.1,fun r hr=>(hg.1 r hr).2⟩ hfit.2
        simp
        refine callR hd4 rfl rfl (fun _=>by simp) ?_
        simp
        exact hfin s4 m t j1 j2 (by omega) ht
       | false =>
        simp
        exact ⟨by omega,s4.1,s4.2,j1,rfl⟩
     · simp [hg,undefV]
       exact ⟨by omega,s4.1,s4.2,j1,rfl⟩
   · rintro e ⟨s3,g1,rfl⟩
     obtain ⟨X,⟨j1,j2⟩,hd1⟩:=h449 n hn0 (by omega)
     have hfit:=j1.fits (by omega)
     obtain ⟨t,ht,hd2⟩:=h364 n X.1 X.2 hn0 (by omega) ⟨j1.1,fun r hr=>by rw [j2 r hr];exact (idL_rowIn n).2⟩ hfit.2
     simp
     refine callR hd1 rfl rfl (fun _=>by simp) ?_
     simp
     refine callR hd2 rfl rfl (fun _=>by simp) ?_
     simp
     exact hfin s3 n t g1 hn0 hnm ht
theorem nodup_inj {p:List Int} (h:p.Nodup) {i j:Nat} (hi:i<p.length) (hj:j<p.length) (he:p.getD i 0=p.getD j 0):i=j:=by
 simp only [List.getD_eq_getElem?_getD,List.getElem?_eq_getElem hi,List.getElem?_eq_getElem hj,Option.getD_some] at he
 exact (List.getElem_inj h).1 he
theorem imT_nodup {n:Nat} {t:List (List Int)} {p:List Int} (ht:CY n t) (hp:Pm p) (hl:p.length=n):∀ r∈imT t p,r.Nodup:=by
 intro r hr
 obtain ⟨a,ha,rfl⟩:=List.mem_map.1 hr
 simp only [List.mem_range] at ha
 have htl:=ht.1.1
 have hA:=hp.lt (x:=a) (by omega)
 have hAt:invQ p a<t.length:=by omega
 have hrow:=ht.1.2 _ (List.getElem_mem hAt)
 have hnd:=ht.2 _ (List.getElem_mem hAt)
 rw [List.nodup_iff_pairwise_ne,List.pairwise_iff_getElem]
 intro i j hi hj hij he
 have hil:i<n:=by simp at hi;omega
 have hjl:j<n:=by simp at hj;omega
 simp only [List.getElem_map,List.getElem_range] at he
 unfold imG at he
 have hI:=hp.lt (x:=i) (by omega)
 have hJ:=hp.lt (x:=j) (by omega)
 obtain ⟨u1,u2,u3,u4,u5⟩:=ht.1.at (i:=invQ p a) (j:=invQ p i) (by omega) (by omega)
 obtain ⟨v1,v2',v3,v4,v5⟩:=ht.1.at (i:=invQ p a) (j:=invQ p j) (by omega) (by omega)
 have e1:=get_v2 u1 u2
 have e2:=get_v2 v1 v2'
 rw [e1] at u4 u5
 rw [e2] at v4 v5
 have h1:=nodup_inj hp.pm.2 (by omega) (by omega) he
 have h2:v2 t (invQ p a) (invQ p i)=v2 t (invQ p a) (invQ p j):=by omega
 rw [← e1,← e2] at h2
 have h3:=(List.getElem_inj hnd).1 h2
 have h4:=hp.at (x:=i) (by omega)
 have h5:=hp.at (x:=j) (by omega)
 rw [h3] at h4
 omega
set_option maxRecDepth 10000 in
theorem t_cyDr {pg:Pg} (hp:pg.fn 378=some c_spec_l05Draw) (h336:S_nxt pg) (h427:S_cyD pg 427) (h368:S_drw pg) (h367:S_image pg 367):S_cyD pg 378:=by
 intro c s most hs m0 m12
 have hfind:=Call.findA (α:=(Int×Int)×Nat×List (List Int)) (Q:=fun Y=>Sr c Y.1∧0<Y.2.1∧Y.2.1≤most∧CY Y.2.1 Y.2.2) (args:=[src c s,I most]) (args':=fun Y=>[src c Y.1,I most]) (r:=fun Y=>ownC Y.2.2) hp rfl (by simp [F.lets,c_spec_l05Draw,List.range,List.range.loop]) (by simp [kindOf]) ?_
 · obtain ⟨Y,h1,h2⟩:=hfind
   exact ⟨_,_,_,h1,h2⟩
 show wp _ _ c_spec_l05Draw.body (postX _ _ _ _ _) _
 generalize hR:postX (fun Y:(Int×Int)×Nat×List (List Int)=>Sr c Y.1∧0<Y.2.1∧Y.2.1≤most∧CY Y.2.1 Y.2.2) c_spec_l05Draw.rs [src c s,I most] (fun Y=>[src c Y.1,I most]) (fun Y=>ownC Y.2.2)=R
 have hfin:∀ (s':Int×Int) (k:Nat) (t:List (List Int)),Sr c s'→0<k→k≤most→CY k t→R .ret (fr [(0,some (.val (src c s'))),(1,some (.val (I most))),(4,some (.val (.mem .own none [ownTb t])))]):=by
  intro s' k X a1 a2 a3 a4
  subst hR
  exact ⟨(s',k,X),⟨a1,a2,a3,a4⟩,by simp [post,c_spec_l05Draw]⟩
 obtain ⟨s1,n,t,⟨k1,k2,k3,k4⟩,hc1⟩:=h427 c s most hs m0 m12
 obtain ⟨s2,r,⟨k5,_⟩,hc2⟩:=h336.at k1 (n:=3) (by omega)
 obtain ⟨s3,p,⟨k6,k7,k8⟩,hc3⟩:=h368 c s2 n k5 (by omega)
 have hpm:=pm_of k7 k8 k2 (by omega)
 have hl1:=k4.1.1
 have hc4:=h367 t p k4.1.tab hpm (by rw [k7.1,hl1])
 simp [c_spec_l05Draw]
 refine callS (ts':=[rawB c,I s1.1,H64 s1.2]) (r:=ownC t) (by simpa using hc1) ?_
 simp
 refine callS (ts':=[rawB c,I s2.1,H64 s2.2]) (r:=I r) (by simpa using hc2) ?_
 by_cases hr:0<r
 · simp [hr,hl1]
   refine callS (ts':=[rawB c,I s3.1,H64 s3.2]) (r:=ownL p) (by simpa using hc3) ?_
   simp [hl1]
   refine callR hc4 rfl rfl (fun _=>by simp) ?_
   simp
   refine hfin s3 n (imT t p) k6 k2 k3 ⟨imT_tabN k4.1 hpm k7.1,?_⟩
   exact imT_nodup k4 hpm k7.1
 · simp [hr]
   exact hfin s2 n t k5 k2 k3 k4
set_option maxRecDepth 10000 in
theorem t_spl7 {pg:Pg} (hp:pg.fn 268=some c_spec_l07Spoil) (h336:S_nxt pg) (h378:S_cyD pg 378) (h366:S_cys pg) (h379:S_spl pg 379):S_spl pg 268:=by
 intro c s most hs m0 m12
 have hfind:=Call.findA (α:=(Int×Int)×S2) (Q:=fun Y=>Sr c Y.1∧Bd Y.2.1∧Bd Y.2.2) (args:=[src c s,I most]) (args':=fun Y=>[src c Y.1,I most]) (r:=fun Y=>ownS Y.2) hp rfl (by simp [F.lets,c_spec_l07Spoil,List.range,List.range.loop]) (by simp [kindOf]) ?_
 · obtain ⟨Y,h1,h2⟩:=hfind
   exact ⟨_,_,h1,h2⟩
 show wp _ _ c_spec_l07Spoil.body (postX _ _ _ _ _) _
 generalize hR:postX (fun Y:(Int×Int)×S2=>Sr c Y.1∧Bd Y.2.1∧Bd Y.2.2) c_spec_l07Spoil.rs [src c s,I most] (fun Y=>[src c Y.1,I most]) (fun Y=>ownS Y.2)=R
 have hfin:∀ (s':Int×Int) (X:S2),Sr c s'→Bd X.1→Bd X.2→R .ret (fr [(0,some (.val (src c s'))),(1,some (.val (I most))),(4,some (.val (.mem .own none [ownTb X.1,ownTb X.2])))]):=by
  intro s' X a1 a2 a3
  subst hR
  exact ⟨(s',X),⟨a1,a2,a3⟩,by simp [post,c_spec_l07Spoil]⟩
 obtain ⟨s1,r,⟨k1,_⟩,hc1⟩:=h336.at hs (n:=3) (by omega)
 simp [c_spec_l07Spoil]
 refine callS (ts':=[rawB c,I s1.1,H64 s1.2]) (r:=I r) (by simpa using hc1) ?_
 by_cases hr:r=0
 · obtain ⟨s2,n,t,⟨k2,k3,k4,k5⟩,hc2⟩:=h378 c s1 most k1 m0 m12
   obtain ⟨X,hX,hc3⟩:=h366 n t k3 (by omega) k5
   simp [hr]
   refine callS (ts':=[rawB c,I s2.1,H64 s2.2]) (r:=ownC t) (by simpa using hc2) ?_
   simp
   refine callR hc3 rfl rfl (fun _=>by simp) ?_
   simp
   exact hfin s2 X k2 (hX.1.bd (by omega)) (hX.2.bd (by omega))
 · obtain ⟨s2,X,⟨k2,k3,k4⟩,hc2⟩:=h379 c s1 most k1 m0 m12
   simp [hr]
   refine callS (ts':=[rawB c,I s2.1,H64 s2.2]) (r:=ownS X) (by simpa using hc2) ?_
   simp
   exact hfin s2 X k2 k3 k4
end Go.Mch
namespace Go.Mch
structure Cnj (L:List (List Int)):Prop where
 pos:0<L.length
 six:L.length≤6
 pm:∀ p∈L,Pm p∧p.length=3
 cl:∀ i j (hi:i<L.length) (hj:j<L.length),∃ m,∃ h:m<L.length,L[m]=thenL (thenL (invL L[i]) L[j]) L[i]
end Go.Mch
namespace Go.Mch
def S_big (pg:Pg):Prop:=∀ c:Rw Int,Call pg 128 [rawB c] [rawB c] (B (decide ((4096:Int)<(lst c).length)))
theorem t_big {pg:Pg} (hp:pg.fn 128=some c_laws_big):S_big pg:=by
 intro c
 refine Call.intro hp rfl (by simp) ?_
 show wp _ _ c_laws_big.body (post [.t 2] _ _ _) _
 simp [c_laws_big]
def S_likeI (pg:Pg):Prop:=∀ a b:Rw Int,(lst a).length≤1048576→Call pg 141 [rawI a,rawI b] [rawI a,rawI b] (B (decide (lst a=lst b)))
theorem t_likeI {pg:Pg} (hp:pg.fn 141=some c_laws_likeInts):S_likeI pg:=by
 intro a b ha
 refine Call.intro hp rfl (by simp) ?_
 show wp _ _ c_laws_likeInts.body (post [.t 4] _ _ _) _
 by_cases hl:(lst a).length=(lst b).length
 · simp [c_laws_likeInts,hl]
   refine wpLoop_count (fun k e=>(∀ i,i<k→(lst a)[i]?=(lst b)[i]?)∧e=fr [(0,some (.val (rawI a))),(1,some (.val (rawI b))),(5,some (.val (I k)))]) (lst a).length ?_ ?_ 0 _ (by omega) ?_
   · rintro k e hk ⟨h1,rfl⟩
     have hk2:k<(lst b).length:=by omega
     by_cases hne:(lst a)[k]=(lst b)[k]
     · simp [hk,hk2,hne]
       refine ⟨by omega,fun i hi=>?_⟩
       rcases Nat.lt_or_ge i k with h2 | h2
       · exact h1 i h2
       · have:i=k:=by omega
         subst this
         rw [List.getElem?_eq_getElem hk,List.getElem?_eq_getElem hk2,hne]
     · simp [hk,hk2,hne]
       intro h2
       exact hne (by simp [h2])
   · rintro e ⟨h1,rfl⟩
     simp [hl]
     apply List.ext_getElem?
     intro i
     rcases Nat.lt_or_ge i (lst a).length with h2 | h2
     · exact h1 i h2
     · rw [List.getElem?_eq_none h2,List.getElem?_eq_none (by omega)]
   · exact ⟨fun i hi=>by omega,by simp⟩
 · have:lst a≠lst b:=fun h=>hl (by rw [h])
   have h2:((lst a).length:Int)≠(lst b).length:=by omega
   simp [c_laws_likeInts,h2,this]

def S_likeT (pg:Pg):Prop:=∀ a b:Rw (Rw Int),small a→Call pg 137 [rawT a,rawT b] [rawT a,rawT b] (B (decide ((lst a).map lst=(lst b).map lst)))
theorem t_likeT {pg:Pg} (hp:pg.fn 137=some c_laws_likeRows5) (h141:S_likeI pg):S_likeT pg:=by
 intro a b ⟨ha,hr⟩
 refine Call.intro hp rfl (by simp) ?_
 show wp _ _ c_laws_likeRows5.body (post [.t 4] _ _ _) _
 by_cases hl:(lst a).length=(lst b).length
 · simp [c_laws_likeRows5,hl]
   refine wpLoop_count (fun k e=>(∀ i,i<k→((lst a).map lst)[i]?=((lst b).map lst)[i]?)∧e=fr [(0,some (.val (rawT a))),(1,some (.val (rawT b))),(5,some (.val (I k)))]) (lst a).length ?_ ?_ 0 _ (by omega) ?_
   · rintro k e hk ⟨h1,rfl⟩
     have hk2:k<(lst b).length:=by omega
     simp [hk,hk2]
     refine callR (h141 _ _ (hr _ (List.getElem_mem hk))) rfl rfl (fun _=>rfl) ?_
     by_cases hne:lst (lst a)[k]=lst (lst b)[k]
     · simp [hne]
       refine ⟨by omega,fun i hi=>?_⟩
       rcases Nat.lt_or_ge i k with h2 | h2
       · have:=h1 i h2
         simpa using this
       · have:i=k:=by omega
         subst this
         simp [hk,hk2,hne]
     · simp [hne]
       intro h2
       have h3:=congrArg (fun l=>l[k]?) h2
       simp [hk,hk2] at h3
       exact hne h3
   · rintro e ⟨h1,rfl⟩
     simp [hl]
     apply List.ext_getElem?
     intro i
     rcases Nat.lt_or_ge i (lst a).length with h2 | h2
     · exact h1 i h2
     · rw [List.getElem?_eq_none (by simpa using h2),List.getElem?_eq_none (by simp;omega)]
   · exact ⟨fun i hi=>by omega,by simp⟩
 · have:(lst a).map lst≠(lst b).map lst:=fun h=>hl (by have:=congrArg List.length h;simpa using this)
   have h2:((lst a).length:Int)≠(lst b).length:=by omega
   simp [c_laws_likeRows5,h2,this]

def S_same9 (pg:Pg):Prop:=∀ a b:Rw (Rw Int),small a→Call pg 178 [rawT a,rawT b] [rawT a,rawT b] (B (decide ((lst a).map lst=(lst b).map lst)))
theorem S_likeT.tb {pg:Pg} (h:S_likeT pg) (X Y:List (List Int)) (hs:smallT X):Call pg 137 [tb X,tb Y] [tb X,tb Y] (B (decide (X=Y))):=by
 have:=h (ryT (some X)) (ryT (some Y)) (small_ry hs)
 simp only [rawT_ry,lst_ry] at this
 exact this
end Go.Mch
namespace Go.Mch
theorem S_likeI.ix {pg:Pg} (h:S_likeI pg) (X Y:List Int) (hs:X.length≤1048576):Call pg 141 [ix X,ix Y] [ix X,ix Y] (B (decide (X=Y))):=h (.of X) (.of Y) hs
end Go.Mch
namespace Go.Mch
def SqS (X:S2):Prop:=∃ m,0<m∧m≤12∧(X.1.length=m∧∀ r∈X.1,r.length=m)∧(X.2.length=m∧∀ r∈X.2,r.length=m)
end Go.Mch
namespace Go.Mch

def S_roll (pg:Pg):Prop:=∀ (c:Rw Int) (d:Int),okB c→0≤d→d≤1048576→∃ s:Int×Int,Sr c s∧Call pg 139 [rawB c,H64 d] [rawB c,H64 d] (src c s)
set_option maxRecDepth 10000 in
theorem t_roll {pg:Pg} (hp:pg.fn 139=some c_laws_roll):S_roll pg:=by
 intro c d hc _ _
 have hb:=hc.1
 have hfind:=Call.find (α:=Int×Int) (Q:=fun s=>Sr c s) (args:=[rawB c,H64 d]) (r:=fun s=>src c s) hp rfl (by simp) ?_
 · exact hfind
 show wp _ _ c_laws_roll.body (postX _ [.t 4] _ _ _) _
 generalize hR:postX (fun s:Int×Int=>Sr c s) [.t 4] [rawB c,H64 d] (fun _=>[rawB c,H64 d]) (fun s=>src c s)=R
 simp [c_laws_roll]
 refine wpLoop_count (fun k e=>∃ h:Int,e=fr [(0,some (.val (rawB c))),(5,some (.val (src c (0,h)))),(6,some (.val (I k)))]) (lst c).length ?_ ?_ 0 _ (by omega) ⟨_,rfl⟩
 · rintro k e hk ⟨h,rfl⟩
   simp [hk]
   exact ⟨by omega,_,rfl⟩
 · rintro e ⟨h,rfl⟩
   simp
   subst hR
   exact ⟨(0,h),⟨hc,by simp,by simp⟩,by simp [post]⟩
def S_below (pg:Pg):Prop:=∀ (c:Rw Int) (s:Int×Int) (n:Int),Sr c s→∃ (s':Int×Int) (r:Int),(Sr c s'∧0≤r∧(1≤n→r<n)∧(n<1→r=0))∧Call pg 140 [src c s,I n] [src c s',I n] (I r)
set_option maxRecDepth 10000 in
theorem t_below {pg:Pg} (hp:pg.fn 140=some c___laws_dice__below):S_below pg:=by
 intro c s n hs
 have hfind:=Call.findA (α:=(Int×Int)×Int) (Q:=fun Y=>Sr c Y.1∧0≤Y.2∧(1≤n→Y.2<n)∧(n<1→Y.2=0)) (args:=[src c s,I n]) (args':=fun Y=>[src c Y.1,I n]) (r:=fun Y=>I Y.2) hp rfl (by simp [F.lets,c___laws_dice__below,List.range,List.range.loop]) (by simp [kindOf]) ?_
 · obtain ⟨Y,h1,h2⟩:=hfind
   exact ⟨_,_,h1,h2⟩
 show wp _ _ c___laws_dice__below.body (postX _ [.t 4] _ _ _) _
 generalize hR:postX (fun Y:(Int×Int)×Int=>Sr c Y.1∧0≤Y.2∧(1≤n→Y.2<n)∧(n<1→Y.2=0)) [.t 4] [src c s,I n] (fun Y=>[src c Y.1,I n]) (fun Y=>I Y.2)=R
 obtain ⟨a,h⟩:=s
 obtain ⟨hc,ha,hl⟩:=hs
 have hb:=hc.1
 simp only at ha hl
 by_cases hn:n<1
 · simp [c___laws_dice__below,hn]
   subst hR
   exact ⟨((a,h),0),⟨⟨hc,ha,hl⟩,by simp;omega⟩,by simp [post]⟩
 · simp [c___laws_dice__below,hn]
   generalize IntKind.u64.wrap (IntKind.u64.wrap (h*6364136223846793005)+1442695040888963407)=h'
   generalize (h'.fdiv (2 ^ min 33 IntKind.u64.bits) % 2 ^ IntKind.u64.bits).toNat=z
   obtain ⟨y,hy,e⟩:=and24 z
   have hn0:¬n=0:=by omega
   have hmod:∀ x:Int,0≤x→0≤x.tmod n∧x.tmod n<n:=fun x hx=>by
    rw [Int.tmod_eq_emod_of_nonneg hx]
    exact ⟨Int.emod_nonneg _ hn0,Int.emod_lt_of_pos _ (by omega)⟩
   rw [e]
   by_cases hlt:a<(lst c).length
   · obtain ⟨i,rfl⟩:∃ i:Nat,a=i:=⟨a.toNat,by omega⟩
     have hi:i<(lst c).length:=by omega
     have hx:=hc.2 _ (List.getElem_mem hi)
     have hw:IntKind.i64.wrap ((lst c)[i])=(lst c)[i]:=by
      obtain ⟨x,hx'⟩:∃ x:Nat,(lst c)[i]=x:=⟨((lst c)[i]).toNat,by omega⟩
      rw [hx',wr64 (by omega)]
     simp [hlt,hi,hn0,hw]
     subst hR
     have:=hmod (y+(lst c)[i]) (by omega)
     refine ⟨by omega,by omega,((i+1,h'),((y:Int)+(lst c)[i]).tmod n),⟨⟨hc,by simp only;omega,by simp only;omega⟩,by simp only;omega⟩,by simp [post]⟩
   · simp [hlt,hn0]
     subst hR
     have:=hmod y (by omega)
     exact ⟨((a,h'),(y:Int).tmod n),⟨⟨hc,ha,hl⟩,by simp only;omega⟩,by simp [post]⟩
end Go.Mch
namespace Go.Mch

def S_sz9 (pg:Pg):Prop:=∀ X Y:List (List Int),X.length≤1048576→Call pg 374 [sol X Y] [sol X Y] (I (if X.length=0 then 1 else (X.length:Int)))
theorem t_sz9 {pg:Pg} (hp:pg.fn 374=some c_spec_l09Size):S_sz9 pg:=by
 intro X Y hX
 refine Call.intro hp rfl (by simp) ?_
 show wp _ _ c_spec_l09Size.body (post [.t 2] _ _ _) _
 simp [c_spec_l09Size]
 by_cases h:X.length=0
 · have:X=[]:=List.length_eq_zero_iff.1 h
   simp [this]
 · have h2:X≠[]:=fun e=>h (by simp [e])
   simp [h2]

def S_dw9 (pg:Pg):Prop:=∀ (c:Rw Int) (s:Int×Int) (n most:Nat),Sr c s→most≤12→∃ (s':Int×Int) (w:List Int),(Sr c s'∧w.length≤13)∧Call pg 373 [src c s,I n,I most] [src c s',I n,I most] (ownL w)
set_option maxRecDepth 10000 in
theorem t_dw9 {pg:Pg} (hp:pg.fn 373=some c_spec_l09DrawWord) (h336:S_nxt pg) (h292:S_pick pg):S_dw9 pg:=by
 intro c s n most hs hm
 have hfind:=Call.findA (α:=(Int×Int)×List Int) (Q:=fun Y=>Sr c Y.1∧Y.2.length≤13) (args:=[src c s,I n,I most]) (args':=fun Y=>[src c Y.1,I n,I most]) (r:=fun Y=>ownL Y.2) hp rfl (by simp [F.lets,c_spec_l09DrawWord,List.range,List.range.loop]) (by simp [kindOf]) ?_
 · obtain ⟨Y,h1,h2⟩:=hfind
   exact ⟨_,_,h1,h2⟩
 show wp _ _ c_spec_l09DrawWord.body (postX _ _ _ _ _) _
 generalize hR:postX (fun Y:(Int×Int)×List Int=>Sr c Y.1∧Y.2.length≤13) c_spec_l09DrawWord.rs [src c s,I n,I most] (fun Y=>[src c Y.1,I n,I most]) (fun Y=>ownL Y.2)=R
 have hfin:∀ (s':Int×Int) (w:List Int),Sr c s'→w.length≤13→R .ret (fr [(0,some (.val (src c s'))),(1,some (.val (I n))),(2,some (.val (I most))),(6,some (.val (ownL w)))]):=by
  intro s' w a1 a2
  subst hR
  exact ⟨(s',w),⟨a1,a2⟩,by simp [post,c_spec_l09DrawWord]⟩
 obtain ⟨s1,k,⟨k1,k2⟩,hc1⟩:=h336.at hs (n:=most+1) (by omega)
 simp [c_spec_l09DrawWord]
 refine ⟨by omega,?_⟩
 refine callS (ts':=[rawB c,I s1.1,H64 s1.2]) (r:=I k) (by simpa using hc1) ?_
 simp
 refine wpLoop_lower (α:=Nat) (fun m=>m) (fun m e=>m≤k∧∃ (s':Int×Int) (w:List Int),(Sr c s'∧w.length+m=k)∧e=fr [(0,some (.val (src c s'))),(1,some (.val (I n))),(2,some (.val (I most))),(7,some (.val (ownL w))),(8,some (.val (I m)))]) ?_ k _ ⟨by omega,s1,[],⟨k1,by simp⟩,rfl⟩
 rintro m e ⟨hmk,s2,w,⟨g1,g2⟩,rfl⟩
 by_cases hm0:0<m
 · obtain ⟨s3,x,⟨j1,j2,j3,j4⟩,hc2⟩:=h336 c s2 n g1
   obtain ⟨m,rfl⟩:∃ m',m=m'+1:=⟨m-1,by omega⟩
   have hmp:(0:Int)<(m:Int)+1:=by omega
   simp [hmp]
   refine callS (ts':=[rawB c,I s3.1,H64 s3.2]) (r:=I x) (by simpa using hc2) ?_
   simp
   refine ⟨by unfold roomy;omega,by omega,m,by omega,by omega,s3.1,s3.2,w++[x],⟨j1,by simp;omega⟩,by simp [ownL]⟩
 · obtain ⟨s3,z,⟨j1,j2⟩,hc2⟩:=h336.at g1 (n:=24) (by omega)
   simp [hm0]
   refine callS (ts':=[rawB c,I s3.1,H64 s3.2]) (r:=I z) (by simpa using hc2) ?_
   by_cases hz0:z=0
   · obtain ⟨s4,y,⟨i1,i2⟩,hc3⟩:=h292 c s3 [-1,n] j1 (by simp) (by simp)
     simp [hz0]
     refine callS (ts':=[rawB c,I s4.1,H64 s4.2]) (r:=I y) (by simpa [ix] using hc3) ?_
     simp
     refine ⟨by unfold roomy;omega,?_⟩
     have:=hfin s4 (w++[y]) i1 (by simp;omega)
     simpa [ownL] using this
   · by_cases hz1:z=1
     · simp [hz1]
       refine wpLoop_lower (α:=Nat) (fun l=>13-l) (fun l e=>l≤13∧∃ w:List Int,w.length=l∧(e=fr [(0,some (.val (src c s3))),(1,some (.val (I n))),(2,some (.val (I most))),(7,some (.val (ownL w)))]∨e=fr [(0,some (.val (src c s3))),(1,some (.val (I n))),(2,some (.val (I most))),(7,some (.val (ownL w))),(35,some (.val (B true)))])) ?_ w.length _ ⟨by omega,w,rfl,.inr rfl⟩
       rintro l e ⟨hl,w,x1,he⟩
       rcases he with rfl | rfl
       all_goals
        by_cases h13:l≤8
        · have h13':(w.length:Int)≤8:=by omega
          simp [h13']
          exact ⟨by unfold roomy;omega,l+1,by omega,by omega,w++[0],by simp [x1],.inl (by simp [ownL])⟩
        · have h13':¬(w.length:Int)≤8:=by omega
          simp [h13']
          exact hfin s3 w j1 (by omega)
     · have e1:¬(z:Int)=1:=by omega
       simp [hz0,e1]
       exact hfin s3 w j1 (by omega)

def S_drV (pg:Pg) (f:Nat):Prop:=∀ c:Rw Int,okB c→∃ (X:S2) (w:List Int),(Bd X.1∧Bd X.2∧w.length≤13)∧Call pg f [rawB c] [rawB c] (.tup [ownS X,ownL w])
set_option maxRecDepth 10000 in
theorem t_dCW {pg:Pg} (hp:pg.fn 257=some c_spec_DrawClassOfWord) (h269:S_from pg) (h268:S_spl pg 268) (h374:S_sz9 pg) (h292:S_pick pg) (h373:S_dw9 pg):S_drV pg 257:=by
 intro c hc
 obtain ⟨s,hs,hc1⟩:=h269 c hc
 obtain ⟨s1,X,⟨k1,k2,k3⟩,hc2⟩:=h268 c s 6 hs (by omega) (by omega)
 obtain ⟨s2,x,⟨k4,k5⟩,hc3⟩:=h292 c s1 [4,4,5,6] k1 (by simp) (by simp)
 have hl:=k2.1
 have hc4:=h374 X.1 X.2 (by omega)
 obtain ⟨n,hn⟩:∃ n:Nat,(if X.1.length=0 then 1 else (X.1.length:Int))=n:=by
  split
  · exact ⟨1,rfl⟩
  · exact ⟨_,rfl⟩
 rw [hn] at hc4
 obtain ⟨m,rfl,hm⟩:∃ m:Nat,x=m∧m≤12:=by
  simp at k5
  rcases k5 with rfl | rfl | rfl
  · exact ⟨4,rfl,by omega⟩
  · exact ⟨5,rfl,by omega⟩
  · exact ⟨6,rfl,by omega⟩
 obtain ⟨s3,w,⟨k6,k7⟩,hc5⟩:=h373 c s2 n m k4 hm
 refine ⟨X,w,⟨k2,k3,k7⟩,Call.intro hp rfl (by simp) ?_⟩
 show wp _ _ c_spec_DrawClassOfWord.body (post [.cell 2 (some 2),.t 3] _ _ _) _
 simp [c_spec_DrawClassOfWord]
 refine callR hc1 rfl rfl (fun h=>by simp at h) ?_
 simp
 refine callS (ts':=[rawB c,I s1.1,H64 s1.2]) (r:=ownS X) (by simpa using hc2) ?_
 simp
 refine callR hc4 rfl rfl (fun _=>rfl) ?_
 simp
 refine callS (ts':=[rawB c,I s2.1,H64 s2.2]) (r:=I m) (by simpa [ix] using hc3) ?_
 simp
 refine callS (ts':=[rawB c,I s3.1,H64 s3.2]) (r:=ownL w) (by simpa using hc5) ?_
 simp

def S_ls5 (pg:Pg):Prop:=∀ (c:Rw Int) (s:Int×Int) (k n:Nat),Sr c s→k≤1000→0<n→∃ (s':Int×Int) (w:List Int),(Sr c s'∧w.length=k∧inN n w)∧Call pg 259 [src c s,I k,I n] [src c s',I k,I n] (ownL w)
set_option maxRecDepth 10000 in
theorem t_ls5 {pg:Pg} (hp:pg.fn 259=some c_laws_list5) (h140:S_below pg):S_ls5 pg:=by
 intro c s k n hs hk hn
 have hfind:=Call.findA (α:=(Int×Int)×List Int) (Q:=fun Y=>Sr c Y.1∧Y.2.length=k∧inN n Y.2) (args:=[src c s,I k,I n]) (args':=fun Y=>[src c Y.1,I k,I n]) (r:=fun Y=>ownL Y.2) hp rfl (by simp [F.lets,c_laws_list5,List.range,List.range.loop]) (by simp [kindOf]) ?_
 · obtain ⟨Y,h1,h2⟩:=hfind
   exact ⟨_,_,h1,h2⟩
 show wp _ _ c_laws_list5.body (postX _ _ _ _ _) _
 generalize hR:postX (fun Y:(Int×Int)×List Int=>Sr c Y.1∧Y.2.length=k∧inN n Y.2) c_laws_list5.rs [src c s,I k,I n] (fun Y=>[src c Y.1,I k,I n]) (fun Y=>ownL Y.2)=R
 have hfin:∀ (s':Int×Int) (w:List Int) (z:Int),Sr c s'→w.length=k→inN n w→R .ret (fr [(0,some (.val (src c s'))),(1,some (.val (I z))),(2,some (.val (I n))),(6,some (.val (ownL w)))]):=by
  intro s' w z a1 a2 a3
  subst hR
  exact ⟨(s',w),⟨a1,a2,a3⟩,by simp [post,c_laws_list5]⟩
 simp [c_laws_list5]
 refine wpLoop_lower (α:=Nat) (fun m=>m) (fun m e=>m≤k∧∃ (s':Int×Int) (w:List Int),(Sr c s'∧w.length+m=k∧inN n w)∧e=fr [(0,some (.val (src c s'))),(1,some (.val (I m))),(2,some (.val (I n))),(7,some (.val (ownL w)))]) ?_ k _ ⟨by omega,s,[],⟨hs,by simp,fun x hx=>(by cases hx)⟩,rfl⟩
 rintro m e ⟨hmk,s2,w,⟨g1,g2,g3⟩,rfl⟩
 by_cases hm0:0<m
 · obtain ⟨s3,x,⟨j1,j2,j3,j4⟩,hc2⟩:=h140 c s2 n g1
   obtain ⟨m,rfl⟩:∃ m',m=m'+1:=⟨m-1,by omega⟩
   have hmp:(0:Int)<(m:Int)+1:=by omega
   have hx:=j3 (by omega)
   simp [hmp]
   refine callS (ts':=[rawB c,I s3.1,H64 s3.2]) (r:=I x) (by simpa using hc2) ?_
   simp
   refine ⟨by unfold roomy;omega,by omega,m,by omega,by omega,s3.1,s3.2,w++[x],⟨j1,by simp;omega,fun y hy=>?_⟩,by simp [ownL]⟩
   rcases List.mem_append.1 hy with h1 | h1
   · exact g3 y h1
   · rw [List.mem_singleton.1 h1];omega
 · obtain rfl:m=0:=by omega
   simp
   exact hfin s2 w _ g1 (by omega) g3
end Go.Mch
namespace Go.Mch

def acW (f:List (List Int)) (w:List Int) (x:Int):Int:=w.foldr (fun l x=>g2 f l x) x
open Classical in
noncomputable def awC (f s:List (List Int)) (w:List Int) (x:Int):Int:=if isSol f s then (if isWd f.length w∧(0≤x∧x≤(f.length:Int)-1) then 0 else 2) else 1
noncomputable def awR (f s:List (List Int)) (w:List Int) (x:Int):Int:=if awC f s w x=0 then acW f w x else 0
def S_aw (pg:Pg) (n:Nat):Prop:=∀ (f s:List (List Int)) (w:List Int) (x:Int),fits f→fits s→w.length≤1048576→Call pg n [sol f s,ix w,I x] [sol f s,ix w,I x] (.tup [I (awR f s w x),I (awC f s w x)])

theorem acW_in {f s:List (List Int)} (h:PM f s) {w:List Int} {x:Int} (hx:0≤x∧x<f.length):0≤acW f w x∧acW f w x<f.length:=by
 induction w with
 | nil=>exact hx
 | cons l w ih=>exact h.gF _ _

def S_back (pg:Pg):Prop:=∀ w:List Int,Call pg 40 [ix w] [ix w] (.fn 55 [.mem .fresh none [ix w]])
theorem t_back {pg:Pg} (hp:pg.fn 40=some c_slices_Backward___int64_int64_):S_back pg:=by
 intro w
 refine Call.intro hp rfl (by simp) ?_
 show wp _ _ c_slices_Backward___int64_int64_.body (post [.t 2] _ _ _) _
 simp [c_slices_Backward___int64_int64_]

theorem aw_impl {pg pg0:Pg} (hp:∀ args args' r,actP (Call pg0) args args' r→Call pg 17 args args' r) (h38:S_chk38 pg0) (h39:S_areElements pg0) (h40:S_back pg0):S_aw pg 17:=by
 intro f s w x hf hs hw
 refine hp _ _ _ ⟨rfl,by simp,rfl,?_⟩
 simp [actA,actB,actC,actD]
 refine callR (h38 f s [w] hf hs (by simp) (by simp [hw])) rfl rfl (fun _=>rfl) ?_
 by_cases h:isSol f s
 · have hpm:=PM.of h.1
   have h12:=hpm.small
   by_cases h1:isWd f.length w
   · have e0:=wdC_0 h (us:=[w]) (by simp [h1])
     simp [e0]
     refine callR (h39 f.length [x] (by simp) (by omega) (by omega)) rfl rfl (fun _=>rfl) ?_
     by_cases hx:0≤x∧x≤(f.length:Int)-1
     · have e1:awC f s w x=0:=by simp only [awC,if_pos h,if_pos (And.intro h1 hx)]
       have e2:awR f s w x=acW f w x:=by simp only [awR,if_pos e1]
       simp [hx,inR,e1,e2]
       refine callR (h40 w) rfl rfl (fun hh=>by simp at hh) ?_
       show actLoop _ _
       obtain ⟨n,rfl⟩:∃ n:Nat,x=n:=⟨x.toNat,by omega⟩
       have hwi:=wd_in h1
       have hl8:=h1.2
       have hrow:∀ l,l<f.length→(f.getD l []).length=f.length:=fun l hl=>by
        simp [List.getD_eq_getElem?_getD,hl,hpm.tf.row hl]
       have hfold:∀ v:List Int,inN f.length v→(((v.map Int.toNat).foldr (fun (l y:Nat)=>(g2 f (l:Int) (y:Int)).toNat) n:Nat):Int)=acW f v n:=by
        intro v
        induction v with
        | nil=>intro _;rfl
        | cons l v ih =>
         intro hv
         have hl:=hv l (by simp)
         have h3:=hpm.gF l (acW f v n)
         have h4:=ih fun z hz=>hv z (List.mem_cons_of_mem _ hz)
         have h5:((l.toNat:Nat):Int)=l:=by omega
         rw [List.map_cons,List.foldr_cons,h5,h4]
         show ((g2 f l (acW f v n)).toNat:Int)=g2 f l (acW f v n)
         omega
       refine ⟨tb f,tb s,ix w,n,f.length,fun (l y:Nat)=>(g2 f (l:Int) (y:Int)).toNat,w.map Int.toNat,.fresh,rfl,rfl,rfl,by decide,by omega,by simp;omega,?_,?_,?_,?_⟩
       · intro z hz
         obtain ⟨y,hy,rfl⟩:=List.mem_map.1 hz
         have:=hwi y hy
         omega
       · refine ⟨.old,tbL f,rfl,by decide,by simp,fun l hl=>?_⟩
         refine ⟨.old,(f[l]).map I,by simp [hl,ix],by decide,by simp [hpm.tf.row hl],fun y hy=>?_⟩
         have h3:=hpm.gF l y
         have hyl:y<(f[l]).length:=by rw [hpm.tf.row hl];exact hy
         refine ⟨show (g2 f l y).toNat<f.length from by omega,?_⟩
         show _=some (T.sc (.int .i64 ((g2 f l y).toNat:Int)))
         have:((g2 f l y).toNat:Int)=(f[l])[y]:=by
          have h4:g2 f l y=(f[l])[y]:=by simp [g2,v2,List.getD_eq_getElem?_getD,hl,hyl]
          omega
         rw [this]
         simp [hyl]
       · refine .inl ⟨.old,by decide,?_⟩
         have:w.map I=(w.map Int.toNat).map fun z:Nat=>I z:=by
          rw [List.map_map]
          refine List.map_congr_left fun y hy=>?_
          have:=hwi y hy
          simp only [Function.comp]
          congr 2
          omega
         simp only [ix,this]
       · rw [hfold w hwi]
     · have e1:awC f s w x=2:=by simp only [awC,if_pos h,if_neg fun hh:_∧_=>hx hh.2]
       have e2:awR f s w x=0:=by simp [awR,e1]
       simp [hx,inR,e1,e2,actR]
   · have e0:=wdC_2 h (us:=[w]) (by simpa using h1)
     have e1:awC f s w x=2:=by simp only [awC,if_pos h,if_neg fun hh:_∧_=>h1 hh.1]
     have e2:awR f s w x=0:=by simp [awR,e1]
     simp [e0,e1,e2,actR]
 · have e0:=wdC_1 h [w]
   have e1:awC f s w x=1:=by simp only [awC,if_neg h]
   have e2:awR f s w x=0:=by simp [awR,e1]
   simp [e0,e1,e2,actR]
end Go.Mch
namespace Go.Mch

theorem acW_app (f:List (List Int)) (u v:List Int) (x:Int):acW f (u++v) x=acW f u (acW f v x):=by simp [acW,List.foldr_append]

theorem yb1 {f s:List (List Int)} (h:isSol f s) {a b y:Int} (ha:0≤a∧a<f.length) (hb:0≤b∧b<f.length) (hy:0≤y∧y<f.length):g2 f (g2 f a b) (g2 f (g2 s a b) y)=g2 f a (g2 f b y):=by
 have h1:=h.2.2 a.toNat b.toNat y.toNat (by omega) (by omega) (by omega)
 have ea:((a.toNat:Nat):Int)=a:=by omega
 have eb:((b.toNat:Nat):Int)=b:=by omega
 have ey:((y.toNat:Nat):Int)=y:=by omega
 unfold ybAt at h1
 rw [ea,eb,ey] at h1
 have h2:=congrArg (fun l=>l.getD 0 0) h1
 simpa [dW] using h2

theorem acW_dW {f s:List (List Int)} (h:isSol f s) {u:List Int} (hu:inN f.length u) {i:Nat} (hi:i+1<u.length) {x:Int} (hx:0≤x∧x<f.length):acW f (dW f s u i) x=acW f u x:=by
 have hpm:=PM.of h.1
 obtain ⟨p,q,hp,rfl⟩:∃ p q,p.length=i∧u=p++q:=⟨u.take i,u.drop i,by simp;omega,(List.take_append_drop i u).symm⟩
 subst hp
 rw [show dW f s (p++q) p.length=p++dW f s q 0 from dW_app2 (i:=0),acW_app,acW_app]
 match q,hi with
 | a::b::r,_ =>
  have ha:=hu a (by simp)
  have hb:=hu b (by simp)
  have hr:=acW_in (w:=r) hpm hx
  have e:dW f s (a::b::r) 0=g2 f a b::g2 s a b::r:=by simp [dW]
  rw [e]
  congr 1
  exact yb1 h ha hb hr
 | [_],hi=>simp at hi
 | [],hi=>simp at hi;omega

theorem acW_cMv {f s:List (List Int)} (h:isSol f s) {u:List Int} (hu:inN f.length u) {p:Nat} (hp:p<2*(u.length-1)) {x:Int} (hx:0≤x∧x<f.length):acW f (cMv f s u p) x=acW f u x:=by
 have hpm:=PM.of h.1
 by_cases he:p % 2=0
 · rw [cMv,if_pos he]
   exact acW_dW h hu (by omega) hx
 · have e:cMv f s u p=dW (invF f s) (invS f s) u (p / 2):=by rw [cMv,if_neg he]
   have ha:=inN_getD hu (i:=p / 2) (by omega)
   have hb:=inN_getD hu (i:=p / 2+1) (by omega)
   have hg:=inv_g2 hpm h.2.1 ha hb
   have hin:=cMv_in hpm h.2.1 hu p
   have hl:=cMv_length f s u p
   rw [e] at hin hl
   have hb2:dW f s (dW (invF f s) (invS f s) u (p / 2)) (p / 2)=u:=dW_back (by omega) fun a b ha hb=>by rw [ha,hb];exact hg.2
   have:=acW_dW h hin (i:=p / 2) (by omega) hx
   rw [hb2] at this
   rw [e,this]

theorem CR_back {f s:List (List Int)} (h:isSol f s) {w u:List Int} (hw:inN f.length w) (hu:TR (cMv f s) (2*(w.length-1)) w u):TR (cMv f s) (2*(w.length-1)) u w:=by
 have hpm:=PM.of h.1
 refine TR.symm (P:=fun y=>inN f.length y∧y.length=w.length) ⟨hw,rfl⟩ (fun y hy i _=>⟨cMv_in hpm h.2.1 hy.1 i,by rw [cMv_length];exact hy.2⟩) (fun y hy i hi=>?_) hu
 have:=cMv_back hpm h.2.1 hy.1 (p:=i) (by rw [hy.2];exact hi)
 rw [hy.2] at this
 exact this

structure Cls (f s:List (List Int)) (w:List Int) (X:List (List Int)):Prop where
 row:∀ u∈X,inN f.length u∧u.length=w.length
 len:X.length≤1000
 self:w∈X
 mv:∀ u∈X,∀ k,k+1<u.length→dW f s u k∈X
 same:∀ u∈X,cO f s u 1000=some X
 act:∀ u∈X,∀ x:Int,0≤x→x<f.length→acW f u x=acW f w x

theorem Cls.of {f s:List (List Int)} (h:isSol f s) {w:List Int} (hw:inN f.length w) {X:List (List Int)} (hX:cO f s w 1000=some X):Cls f s w X:=by
 have hpm:=PM.of h.1
 obtain ⟨h1,h2⟩:=orbO_spec hX
 obtain ⟨l1,l2,l3⟩:=cO_len h hw hX
 refine ⟨l2,l1,l3,fun u hu k hk=>?_,fun u hu=>?_,fun u hu x hx0 hx1=>?_⟩
 · have:=TR.step _ _ _ ((h1.2 u).1 hu) (i:=2*k) (by have:=(l2 u hu).2;omega)
   rw [cMv_0] at this
   exact (h1.2 _).2 this
 · have hl:=(l2 u hu).2
   have t1:=(h1.2 u).1 hu
   have t2:=CR_back h hw t1
   refine orbO_some ⟨h1.1,fun x=>?_⟩ l1
   rw [h1.2 x,hl]
   exact ⟨fun hh=>t2.trans hh,fun hh=>t1.trans hh⟩
 · have t1:=(h1.2 u).1 hu
   refine (t1 (fun y=>(inN f.length y∧y.length=w.length)∧acW f y x=acW f w x) ⟨⟨hw,rfl⟩,rfl⟩ fun y hy i hi=>⟨⟨cMv_in hpm h.2.1 hy.1.1 i,by rw [cMv_length];exact hy.1.2⟩,?_⟩).2
   rw [acW_cMv h hy.1.1 (by rw [hy.1.2];exact hi) ⟨hx0,hx1⟩]
   exact hy.2

theorem dW_get {f s:List (List Int)} {u:List Int} {k:Nat} (hk:k+1<u.length):dW f s u k=(u.set k (g2 f u[k] u[k+1])).set (k+1) (g2 s u[k] u[k+1]):=by
 have h0:k<u.length:=by omega
 simp [dW,h0,hk]

def S_ap (pg:Pg):Prop:=∀ (f s:List (List Int)) (x y:Int),fits f→fits s→isPairMap f s→(0≤x∧x<f.length)→(0≤y∧y<f.length)→Call pg 258 [sol f s,I x,I y] [sol f s,I x,I y] (.tup [I (g2 f x y),I (g2 s x y),I 0])
set_option maxRecDepth 10000 in
theorem t_ap {pg:Pg} (hp:pg.fn 258=some c_impl_ApplyPair) (h59:S_pairMap pg 59) (h39:S_areElements pg):S_ap pg:=by
 intro f s x y hf hs h hx hy
 have hpm:=PM.of h
 have h12:=hpm.small
 refine Call.intro hp rfl (by simp) ?_
 show wp _ _ c_impl_ApplyPair.body (post [.t 6,.t 7,.t 8] _ _ _) _
 simp [c_impl_ApplyPair]
 refine callR (h59 f s hf hs) rfl rfl (fun _=>rfl) ?_
 simp [h]
 refine callR (h39 f.length [x,y] (by simp) (by omega) (by omega)) rfl rfl (fun _=>rfl) ?_
 have hin:inR 0 ((f.length:Int)-1) [x,y]:=by
  intro z hz
  simp at hz
  rcases hz with rfl | rfl <;> omega
 have fr':=fun x hx=>hpm.tf.row (x:=x) hx
 have sr':∀ x (hx:x<s.length),(s[x]).length=f.length:=fun x hx=>(hpm.ts.row hx).trans hpm.len
 have t1:x.toNat<f.length:=by omega
 have t2:y.toNat<f.length:=by omega
 simp [hin,hx,hy,t1,t2,fr',sr',hpm.len,get_g2]
end Go.Mch
namespace Go.Mch

structure Rck (n:Nat) (T:Nat→Nat→Nat):Prop where
 r:∀ x y,x<n→y<n→T x y<n
 i:∀ x y y',x<n→y<n→y'<n→T x y=T x y'→y=y'
 sd:∀ x y z,x<n→y<n→z<n→T x (T y z)=T (T x y) (T x z)
structure Aut (n:Nat) (T:Nat→Nat→Nat) (P Q:Nat→Nat):Prop where
 p:∀ x,x<n→P x<n
 q:∀ x,x<n→Q x<n
 pq:∀ x,x<n→P (Q x)=x
 qp:∀ x,x<n→Q (P x)=x
 a:∀ x y,x<n→y<n→P (T x y)=T (P x) (P y)
end Go.Mch
namespace Go.Mch
theorem Bd.fits {t:List (List Int)} (h:Bd t):fits t:=⟨by have:=h.1;omega,fun r hr=>by have:=h.2 r hr;omega⟩
end Go.Mch
namespace Go.Mch

def ra (f s:List (List Int)) (x y:Nat):Nat:=σN (raT f s) x y


end Go.Mch
namespace Go.Mch

def left (st:List Bool×List Nat):Nat:=st.1.count false+st.2.length


def ctOk (f:List (List Int)) (p:Int):Prop:=(0≤p∧p≤12)∧f.length ^ p.toNat≤5000
instance (f:List (List Int)) (p:Int):Decidable (ctOk f p):=by unfold ctOk;infer_instance
end Go.Mch
namespace Go.Mch

def Rt (nb:Nat→List Nat) (a b:Nat):Prop:=∀ S:Nat→Prop,S a→(∀ x y,S x→y∈nb x→S y)→S b
structure Eqr (N:Nat) (R:Nat→Nat→Prop):Prop where
 r:∀ a,R a a
 s:∀ a b,a<N→R a b→R b a
 t:∀ a b c,R a b→R b c→R a c
 g:∀ a b,a<N→R a b→b<N
end Go.Mch
namespace Go.Mch

def foT:Option (List (List Int))→T
 | none=>nil
 | some X=>.mem .fresh (some 1) (rowsF X)
theorem frz_fo (o:Option (List (List Int))) (y:Value):T.frz .fresh (.tup [ownT o,.sc y])=.tup [foT o,.sc y]:=by
 cases o with
 | none=>rfl
 | some X=>exact frz_tb X y
end Go.Mch
namespace Go.Mch


structure Pn (n:Nat) (x:List Int):Prop where
 l:x.length=n
 r:inN n x
 d:x.Nodup


def S_hr5 (pg:Pg):Prop:=∀ (X:List (List Int)) (v:List Int),smallT X→Call pg 138 [tb X,ix v] [tb X,ix v] (B (decide (v∈X)))
theorem t_hr5 {pg:Pg} (hp:pg.fn 138=some c_laws_hasRow5) (h141:S_likeI pg):S_hr5 pg:=by
 intro X v hX
 have hl:=hX.1
 refine Call.intro hp rfl (by simp) ?_
 show wp _ _ c_laws_hasRow5.body (post [.t 4] _ _ _) _
 simp [c_laws_hasRow5]
 refine wpLoop_lower (α:=Nat) (fun k=>X.length-k) (fun k e=>(k≤X.length∧v ∉ X.take k)∧e=fr [(0,some (.val (tb X))),(1,some (.val (ix v))),(5,some (.val (I k)))]) ?_ 0 _ ⟨⟨by omega,by simp⟩,by simp⟩
 rintro k e ⟨⟨hk,hno⟩,rfl⟩
 by_cases hkl:k<X.length
 · have hc:=h141.ix X[k] v (hX.2 _ (List.getElem_mem hkl))
   simp [hkl]
   refine callR hc rfl rfl (fun _=>rfl) ?_
   by_cases he:X[k]=v
   · have:v∈X:=he▸List.getElem_mem hkl
     simp [he,this]
   · simp [he]
     refine ⟨by omega,k+1,by omega,⟨by omega,?_⟩,by simp⟩
     rw [List.take_succ_eq_append_getElem hkl,List.mem_append]
     rintro (h | h)
     · exact hno h
     · exact he (List.mem_singleton.1 h).symm
 · obtain rfl:k=X.length:=by omega
   rw [List.take_length] at hno
   simp [hno]
end Go.Mch
namespace Go.Mch

theorem like_e {pg:Pg} (h:S_likeT pg):Call pg 137 [nil,nil] [nil,nil] (B true)∧Call pg 137 [nil,tb []] [nil,tb []] (B true)∧Call pg 137 [tb [],nil] [tb [],nil] (B true)∧Call pg 137 [tb [],tb []] [tb [],tb []] (B true):=by
 have h1:=h .no .no ⟨by simp,by simp⟩
 have h2:=h .no (.of []) ⟨by simp,by simp⟩
 have h3:=h (.of []) .no ⟨by simp,by simp⟩
 have h4:=h (.of []) (.of []) ⟨by simp,by simp⟩
 simp [rawT] at h1 h2 h3 h4
 exact ⟨h1,h2,h3,h4⟩
def S_law123 (pg:Pg):Prop:=∀ c:Rw Int,okB c→∃ args',Call pg 123 [rawB c] args' (B true)
set_option maxHeartbeats 4000000 in
set_option maxRecDepth 20000 in
theorem t_law123 {pg:Pg} (hp:pg.fn 123=some c_laws_FnClasses) (h128:S_big pg) (h257:S_drV pg 257) (h158:S_cw pg 158) (h215:S_cw pg 215) (h137:S_likeT pg) (h139:S_roll pg) (h140:S_below pg) (h258:S_ap pg) (h138:S_hr5 pg) (h221:S_nw pg 221) (h214:S_ae pg 214) (h141:S_likeI pg) (h17:S_aw pg 17) (h259:S_ls5 pg):S_law123 pg:=by
 intro c hc
 obtain ⟨X,w,⟨hX1,hX2,hw1⟩,hd⟩:=h257 c hc
 obtain ⟨f,s⟩:=X
 have hf:fits f:=hX1.fits
 have hs:fits s:=hX2.fits
 refine ⟨[rawB c],Call.intro hp rfl (by simp) ?_⟩
 show wp _ _ c_laws_FnClasses.body (post [.t 2] _ _ _) _
 refine wp_cut' (fun e=>e=fr [(0,some (.val (rawB c)))]) (fun J hJ _=>?_) ?_
 · simp
   exact hJ _ rfl
 rintro e rfl
 refine wp_cut' (fun e=>e=fr [(0,some (.val (rawB c))),(30,some (.val (B false)))]) (fun J hJ hJr=>?_) ?_
 · simp
   refine callR (h128 c) rfl rfl (fun _=>rfl) ?_
   by_cases hbig:(4096:Int)<(lst c).length
   · simp [hbig]
     exact hJr _ (by simp [post])
   · simp [hbig]
     exact hJ _ rfl
 rintro e rfl
 refine wp_cut' (fun e=>e=fr [(0,some (.val (rawB c))),(3,some (.val (.mem .own none [ownTb f,ownTb s]))),(4,some (.val (ownL w)))]) (fun J hJ _=>?_) ?_
 · simp
   refine callR hd rfl rfl (fun _=>by simp) ?_
   simp
   exact hJ _ rfl
 rintro e rfl
 obtain ⟨o1,e1,hc1⟩:=h158 f s w hf hs (by omega)
 obtain ⟨o2,e2,hc2⟩:=h215 f s w hf hs (by omega)
 refine wp_cut' (fun e=>e=fr [(0,some (.val (rawB c))),(3,some (.val (.mem .own none [ownTb f,ownTb s]))),(4,some (.val (ownL w))),(5,some (.val (foT o1))),(6,some (.val (I (cwC f s w))))]) (fun J hJ _=>?_) ?_
 · clear e1 e2 hc2
   cases o1 with
   | none =>
    have hz:=frz_fo none (.int .i64 (cwC f s w))
    simp only [ownT,foT] at hc1 hz ⊢
    simp
    refine callR hc1 rfl rfl (fun _=>by simp) ?_
    simp [hz]
    exact hJ _ rfl
   | some Z =>
    have hz:=frz_fo (some Z) (.int .i64 (cwC f s w))
    simp only [ownT,foT] at hc1 hz ⊢
    simp
    refine callR hc1 rfl rfl (fun _=>by simp) ?_
    simp [hz]
    exact hJ _ rfl
 rintro e rfl
 by_cases h0:cwC f s w=0
 · obtain ⟨hso,hwd,X,hX,hR⟩:=cw_0 h0
   have hpm:=PM.of hso.1
   have n0:=hpm.pos
   have n12:=hpm.small
   have hwi:=wd_in hwd
   have hC:=Cls.of hso hwi hX
   have hX0:0<X.length:=List.length_pos_of_mem hC.self
   have hXl:=hC.len
   rw [hR] at e1 e2
   obtain rfl:o1=some X:=ownT_ne e1 hX0
   obtain rfl:o2=some X:=ownT_ne e2 hX0
   have hsm:smallT X:=⟨by omega,fun r hr=>by have:=(hC.row r hr).2;omega⟩
   rw [h0] at hc2 ⊢
   simp only [ownT,foT] at hc2 ⊢
   refine wp_cut' (fun e=>e=fr [(0,some (.val (rawB c))),(3,some (.val (.mem .own none [ownTb f,ownTb s]))),(4,some (.val (ownL w))),(5,some (.val (.mem .fresh (some 1) (rowsF X)))),(6,some (.val (I 0))),(7,some (.val (ownTb X))),(8,some (.val (I 0)))]) (fun J hJ _=>?_) ?_
   · simp
     refine callR hc2 rfl rfl (fun _=>by simp) ?_
     simp
     exact hJ _ rfl
   rintro e rfl
   refine wp_cut' (fun e=>e=fr [(0,some (.val (rawB c))),(3,some (.val (.mem .own none [ownTb f,ownTb s]))),(4,some (.val (ownL w))),(5,some (.val (.mem .fresh (some 1) (rowsF X)))),(6,some (.val (I 0))),(56,some (.val (B false)))]) (fun J hJ _=>?_) ?_
   · have hlk:=h137.tb X X hsm
     simp
     refine callR hlk rfl rfl (fun _=>by simp) ?_
     simp
     exact hJ _ rfl
   rintro e rfl
   refine wp_cut' (fun e=>e=fr [(0,some (.val (rawB c))),(3,some (.val (.mem .own none [ownTb f,ownTb s]))),(4,some (.val (ownL w))),(5,some (.val (.mem .fresh (some 1) (rowsF X)))),(58,some (.val (B false)))]) (fun J hJ _=>?_) ?_
   · simp
     exact hJ _ rfl
   rintro e rfl
   obtain ⟨q,k1,hc3⟩:=h139 c 817 hc (by omega) (by omega)
   obtain ⟨q2,r,⟨r1,r2,r3,_⟩,hc4⟩:=h140 c q X.length k1
   have r3:=r3 (by omega)
   obtain ⟨i,rfl⟩:∃ i:Nat,r=i:=⟨r.toNat,by omega⟩
   have hi:i<X.length:=by omega
   have hum:X[i]∈X:=List.getElem_mem hi
   refine wp_cut' (fun e=>e=fr [(3,some (.val (.mem .own none [ownTb f,ownTb s]))),(4,some (.val (ownL w))),(5,some (.val (.mem .fresh (some 1) (rowsF X)))),(9,some (.val (src c q)))]) (fun J hJ _=>?_) ?_
   · simp
     refine callR hc3 rfl rfl (fun h=>by simp at h) ?_
     simp
     exact hJ _ rfl
   rintro e rfl
   obtain ⟨u,hu⟩:∃ u,X[i]=u:=⟨_,rfl⟩
   rw [hu] at hum
   refine wp_cut' (fun e=>e=fr [(3,some (.val (.mem .own none [ownTb f,ownTb s]))),(4,some (.val (ownL w))),(5,some (.val (.mem .fresh (some 1) (rowsF X)))),(9,some (.val (src c q2))),(10,some (.val (.mem .fresh (some 1) (u.map I))))]) (fun J hJ _=>?_) ?_
   · simp
     refine callS (ts':=[rawB c,I q2.1,H64 q2.2]) (r:=I i) (by simpa using hc4) ?_
     simp [hi,hu]
     exact hJ _ rfl
   rintro e rfl
   obtain ⟨hui,hul⟩:=hC.row u hum
   have hl8:=hwd.2
   refine wp_cut' (fun e=>∃ k:Int,e=fr [(3,some (.val (.mem .own none [ownTb f,ownTb s]))),(4,some (.val (ownL w))),(5,some (.val (.mem .fresh (some 1) (rowsF X)))),(9,some (.val (src c q2))),(10,some (.val (.mem .fresh (some 1) (u.map I)))),(11,some (.val (I k))),(72,some (.val (B false)))]) (fun J hJ _=>?_) ?_
   · simp
     refine wpLoop_count (fun k e=>e=fr [(3,some (.val (.mem .own none [ownTb f,ownTb s]))),(4,some (.val (ownL w))),(5,some (.val (.mem .fresh (some 1) (rowsF X)))),(9,some (.val (src c q2))),(10,some (.val (.mem .fresh (some 1) (u.map I)))),(11,some (.val (I k)))]) (u.length-1) ?_ ?_ 0 _ (by omega) rfl
     · rintro k e hk rfl
       have hk1:(k:Int)+1<u.length:=by omega
       have hk2:k+1<u.length:=by omega
       have hk3:k<u.length:=by omega
       have ha:=hui _ (List.getElem_mem hk3)
       have hb:=hui _ (List.getElem_mem hk2)
       have hcp:=h258 f s u[k] u[k+1] hf hs hso.1 ha hb
       have hcr:=h138 X (dW f s u k) hsm
       rw [decide_eq_true (hC.mv u hum k hk2),dW_get hk2] at hcr
       have et:((k:Int)+1).toNat=k+1:=by omega
       have hp1:(0:Int)≤(k:Int)+1:=by omega
       generalize g2 f u[k] u[k+1]=a at *
       generalize g2 s u[k] u[k+1]=b at *
       simp [hk1,hk2,hk3,et,hp1]
       refine ⟨by omega,?_⟩
       refine callR hcp rfl rfl (fun _=>by simp) ?_
       simp [hk1,hk2,hk3,et,hp1]
       refine ⟨Nat.mod_one _,by unfold roomy;omega,by omega,by omega,by omega,?_⟩
       have hset:((u.map I).set k (T.sc (.int .i64 a))).set (k+1) (T.sc (.int .i64 b))=((u.set k a).set (k+1) b).map I:=by simp [List.map_set]
       rw [hset,eryL_mapI]
       refine callR hcr rfl rfl (fun _=>by simp) ?_
       simp
       omega
     · rintro e rfl
       have hk1:¬(((u.length-1:Nat):Int)+1<u.length):=by omega
       simp [hk1]
       refine ⟨by omega,hJ _ ⟨_,rfl⟩⟩
   rintro e ⟨kk,rfl⟩
   have hwu:isWd f.length u:=⟨fun x hx=>by have:=hui x hx;omega,by omega⟩
   have hXu:=hC.same u hum
   have c5:cwC f s u=0:=by simp only [cwC,if_pos hso,if_pos hwu,hXu];rfl
   have r5:nwR f s u=X[0]:=by
    have:cwR f s u=X:=by simp only [cwR,cwO,if_pos (And.intro hso hwu),hXu,lso_some]
    simp [nwR,this,hd0,hX0]
   obtain ⟨o3,e3,hc5⟩:=h221 f s u hf hs (by omega)
   rw [c5] at hc5
   rw [r5] at e3
   have ae:∀ v,isWd f.length v→aeR f s w v=decide (v∈X)∧aeC f s w v=0:=fun v hv=>by
    constructor
    · simp only [aeR,if_pos (And.intro hso (And.intro hwd hv)),hX]
    · simp only [aeC,if_pos hso,if_pos (And.intro hwd hv),hX];rfl
   have hc6:=h214 f s w u hf hs (by omega) (by omega)
   rw [(ae u hwu).1,(ae u hwu).2,decide_eq_true hum] at hc6
   have hx0m:(X[0]).length≤13:=by have:=(hC.row _ (List.getElem_mem hX0)).2;omega
   have hlk:Call pg 141 [rawI (.ofO o3),ix X[0]] [rawI (.ofO o3),ix X[0]] (B true):=by
    have:=h141 (.ofO o3) (.of X[0]) (by simp [e3];omega)
    simpa [e3,rawI] using this
   have hrw0:(rowsF X)[0]?=some (.mem .fresh (some 1) ((X[0]).map I)):=by simp [rowsF,hX0]
   refine wp_cut' (fun e=>e=fr [(3,some (.val (.mem .own none [ownTb f,ownTb s]))),(4,some (.val (ownL w))),(5,some (.val (.mem .fresh (some 1) (rowsF X)))),(9,some (.val (src c q2))),(10,some (.val (.mem .fresh (some 1) (u.map I)))),(16,some (.val (ownI o3))),(17,some (.val (I 0)))]) (fun J hJ _=>?_) ?_
   · clear hlk e3
     cases o3 <;> simp only [ownI] at hc5 ⊢
     all_goals
      simp
      refine callR hc5 rfl rfl (fun _=>by simp) ?_
      simp
      exact hJ _ rfl
   rintro e rfl
   refine wp_cut' (fun e=>e=fr [(3,some (.val (.mem .own none [ownTb f,ownTb s]))),(4,some (.val (ownL w))),(5,some (.val (.mem .fresh (some 1) (rowsF X)))),(9,some (.val (src c q2))),(10,some (.val (.mem .fresh (some 1) (u.map I)))),(16,some (.val (ownI o3))),(17,some (.val (I 0))),(18,some (.val (B true))),(19,some (.val (I 0)))]) (fun J hJ _=>?_) ?_
   · clear hlk e3 hc5
     cases o3 <;> simp only [ownI]
     all_goals
      simp
      refine callR hc6 rfl rfl (fun _=>by simp) ?_
      simp
      exact hJ _ rfl
   rintro e rfl
   refine wp_cut' (fun e=>e=fr [(3,some (.val (.mem .own none [ownTb f,ownTb s]))),(4,some (.val (ownL w))),(5,some (.val (.mem .fresh (some 1) (rowsF X)))),(9,some (.val (src c q2))),(10,some (.val (.mem .fresh (some 1) (u.map I)))),(140,some (.val (B false)))]) (fun J hJ _=>?_) ?_
   · clear e3 hc5
     cases o3 <;> simp only [ownI,Rw.ofO,rawI] at hlk ⊢
     all_goals
      simp [hX0]
      refine callR hlk rfl rfl (fun _=>by simp) ?_
      simp
      exact hJ _ rfl
   rintro e rfl
   clear hc5 hlk hrw0 e3 hx0m r5
   refine wp_cut' (fun e=>e=fr [(3,some (.val (.mem .own none [ownTb f,ownTb s]))),(4,some (.val (ownL w))),(5,some (.val (.mem .fresh (some 1) (rowsF X)))),(9,some (.val (src c q2))),(10,some (.val (.mem .fresh (some 1) (u.map I)))),(20,some (.val (I f.length)))]) (fun J hJ _=>?_) ?_
   · simp
     exact hJ _ rfl
   rintro e rfl
   obtain ⟨q3,x,⟨x1,x2,x3,_⟩,hc7⟩:=h140 c q2 f.length r1
   have x3:=x3 (by omega)
   refine wp_cut' (fun e=>e=fr [(3,some (.val (.mem .own none [ownTb f,ownTb s]))),(4,some (.val (ownL w))),(5,some (.val (.mem .fresh (some 1) (rowsF X)))),(9,some (.val (src c q3))),(10,some (.val (.mem .fresh (some 1) (u.map I)))),(20,some (.val (I f.length))),(21,some (.val (I x)))]) (fun J hJ _=>?_) ?_
   · simp
     refine callS (ts':=[rawB c,I q3.1,H64 q3.2]) (r:=I x) (by simpa using hc7) ?_
     simp
     exact hJ _ rfl
   rintro e rfl
   have aw:∀ v,isWd f.length v→awC f s v x=0∧awR f s v x=acW f v x:=fun v hv=>by
    have e1:awC f s v x=0:=by simp only [awC,if_pos hso,if_pos (And.intro hv (show 0≤x∧x≤(f.length:Int)-1 from by omega))]
    exact ⟨e1,by simp only [awR,if_pos e1]⟩
   have hc8:=h17 f s w x hf hs (by omega)
   have hc9:=h17 f s u x hf hs (by omega)
   rw [(aw w hwd).1,(aw w hwd).2] at hc8
   rw [(aw u hwu).1,(aw u hwu).2,hC.act u hum x x2 x3] at hc9
   generalize acW f w x=y at *
   refine wp_cut' (fun e=>e=fr [(3,some (.val (.mem .own none [ownTb f,ownTb s]))),(4,some (.val (ownL w))),(5,some (.val (.mem .fresh (some 1) (rowsF X)))),(9,some (.val (src c q3))),(10,some (.val (.mem .fresh (some 1) (u.map I)))),(20,some (.val (I f.length))),(21,some (.val (I x))),(22,some (.val (I y))),(23,some (.val (I 0)))]) (fun J hJ _=>?_) ?_
   · simp
     refine callR hc8 rfl rfl (fun _=>by simp) ?_
     simp
     exact hJ _ rfl
   rintro e rfl
   refine wp_cut' (fun e=>e=fr [(3,some (.val (.mem .own none [ownTb f,ownTb s]))),(4,some (.val (ownL w))),(5,some (.val (.mem .fresh (some 1) (rowsF X)))),(9,some (.val (src c q3))),(20,some (.val (I f.length))),(22,some (.val (I y))),(23,some (.val (I 0))),(24,some (.val (I y))),(25,some (.val (I 0)))]) (fun J hJ _=>?_) ?_
   · simp
     refine callR hc9 rfl rfl (fun _=>by simp) ?_
     simp
     exact hJ _ rfl
   rintro e rfl
   refine wp_cut' (fun e=>e=fr [(3,some (.val (.mem .own none [ownTb f,ownTb s]))),(4,some (.val (ownL w))),(5,some (.val (.mem .fresh (some 1) (rowsF X)))),(9,some (.val (src c q3))),(20,some (.val (I f.length))),(171,some (.val (B false)))]) (fun J hJ _=>?_) ?_
   · simp
     exact hJ _ rfl
   rintro e rfl
   obtain ⟨q4,v,⟨v1,v2,v3⟩,hc10⟩:=h259 c q3 w.length f.length x1 (by omega) n0
   have hwv:isWd f.length v:=⟨fun x hx=>by have:=v3 x hx;omega,by omega⟩
   have hc11:=h214 f s w v hf hs (by omega) (by omega)
   rw [(ae v hwv).1,(ae v hwv).2] at hc11
   have hcr:=h138 X v hsm
   generalize decide (v∈X)=bb at *
   simp
   refine callS (ts':=[rawB c,I q4.1,H64 q4.2]) (r:=ownL v) (by simpa using hc10) ?_
   simp
   refine callR hc11 rfl rfl (fun _=>by simp) ?_
   simp
   refine callR hcr rfl rfl (fun _=>by simp) ?_
   simp
 · have e0:=cw_ne h0
   rw [e0] at e1 e2
   obtain ⟨q1,q2,q3,q4⟩:=like_e h137
   generalize cwC f s w=cd at *
   rcases (by cases o1 with
    | none=>exact Or.inl rfl
    | some l=>simp only [lso_some] at e1;exact Or.inr (by rw [e1]):o1=none∨o1=some []) with rfl | rfl <;>
   rcases (by cases o2 with
    | none=>exact Or.inl rfl
    | some l=>simp only [lso_some] at e2;exact Or.inr (by rw [e2]):o2=none∨o2=some []) with rfl | rfl
   all_goals
    simp only [ownT,foT] at hc2 ⊢
    simp
    refine callR hc2 rfl rfl (fun _=>by simp) ?_
    simp
    first
     | refine callR q1 rfl rfl (fun _=>by simp) ?_
     | refine callR q2 rfl rfl (fun _=>by simp) ?_
     | refine callR q3 rfl rfl (fun _=>by simp) ?_
     | refine callR q4 rfl rfl (fun _=>by simp) ?_
    simp [h0]
end Go.Mch
