/- Our texts YjR YjS YjD YjE YjU YjF YjG YjW YkA YkB YkE YkF YkH YkM YlB YlC YlD YlE YlF YlG YlH YlI YlK YnA YlX YlN YmC YnB YkC YoG YnI YoH,end to end. -/
import Derived.Test.YtkcgdmjdkbgmkaaGreatP1
import Derived.Test.YtkcgdmjdkbgmkaaGreatYeD
import Derived.Test.YtkcgdmjdkbgmkaaGreatYeH
namespace Go.Mch

set_option maxRecDepth 10000 in
theorem t_pdq {pg:Pg} (hp:pg.fn 393=some c_slices_pdqsortCmpFunc___int64_) (h433:S_insSort pg) (h434:S_heap pg) (h435:S_brk pg) (h436:S_piv pg) (h437:S_revR pg) (h438:S_pins pg) (h440:S_part pg) (h314:S_cmpL pg):S_pdq pg:=by
 have main:∀ (n:Nat) (X:List (List Int)) (a b lim:Nat),b-a=n→Sm X→Dj X→a≤b→b≤X.length→Lb X a b→lim≤64 →
  ∃ Y,(PI X Y a b∧SI Y a b)∧Call pg 393 [ownR X,I a,I b,I lim,.fn 314 []] [ownR Y,I a,I b,I lim,.fn 314 []] (.tup []):=by
  intro n
  induction n using Nat.strongRecOn with
  | ind n ih =>
  intro X a b lim hn hS hD hab hb hLb hlim
  have hX1:=hS.1
  refine Call.findA (α:=List (List Int)) (Q:=fun Y=>PI X Y a b∧SI Y a b) (args':=fun Y=>[ownR Y,I a,I b,I lim,.fn 314 []]) (r:=fun _=>.tup []) hp rfl (by simp [F.lets,c_slices_pdqsortCmpFunc___int64_,List.range,List.range.loop]) (kind_own _ _) ?_
  show wp _ _ c_slices_pdqsortCmpFunc___int64_.body (postX _ [] _ _ _) _
  generalize hR:postX (fun Y=>PI X Y a b∧SI Y a b) [] [ownR X,I a,I b,I lim,.fn 314 []] (fun Y=>[ownR Y,I a,I b,I lim,.fn 314 []]) (fun _=>T.tup [])=R
  simp [c_slices_pdqsortCmpFunc___int64_]
  refine wpLoop_lower (α:=List (List Int)×Nat×Nat×Nat) (fun z=>z.2.2.1-z.2.1) (fun z e=>(PI X z.1 a b∧Fr z.1 a z.2.1 z.2.2.1 b∧z.2.2.2≤64)∧ExWB fun wb wq=>e=fr [(0,some (.val (ownR z.1))),(1,some (.val (I z.2.1))),(2,some (.val (I z.2.2.1))),(3,some (.val (I z.2.2.2))),(4,some (.val (.fn 314 []))),(10,some (.val (.sc (.bool wb)))),(11,some (.val (.sc (.bool wq))))]) ?_ (X,a,b,lim) _ ⟨⟨PI.refl hD a b,Fr.start hab,hlim⟩,true,true,by simp⟩
  rintro ⟨Y,c,d,l⟩ e ⟨⟨g1,g2,g3⟩,wb,wq,rfl⟩
  simp only at g1 g2 g3
  have hY:=g1.len
  have f1:=g2.h1
  have f2:=g2.h2
  have f3:=g2.h3
  have hSY:=hS.pi g1
  have hLY:=g2.lb (hLb.pi g1)
  obtain ⟨k0,hk0⟩:∃ k0:Nat,(d:Int)-c=k0:=⟨d-c,by omega⟩
  refine wp_block ?_
  refine wp_cut' (fun e=>e=fr [(0,some (.val (ownR Y))),(1,some (.val (I c))),(2,some (.val (I d))),(3,some (.val (I l))),(4,some (.val (.fn 314 []))),(10,some (.val (.sc (.bool wb)))),(11,some (.val (.sc (.bool wq)))),(12,some (.val (I k0)))]) (fun J hJ hJr=>?_) ?_
  · simp [hk0]
    repeat (refine And.intro (by omega) ?_)
    exact hJ _ (by simp)
  rintro e rfl
  refine wp_cut' (fun e=>12<k0∧e=fr [(0,some (.val (ownR Y))),(1,some (.val (I c))),(2,some (.val (I d))),(3,some (.val (I l))),(4,some (.val (.fn 314 []))),(10,some (.val (.sc (.bool wb)))),(11,some (.val (.sc (.bool wq)))),(12,some (.val (I k0))),(25,some (.val (.sc (.bool false))))]) (fun J hJ hJr=>?_) ?_
  · by_cases h12:(k0:Int)≤12
    · obtain ⟨Z,_,z1,rfl,z2,z3⟩:=h433 Y c d hSY g1.dj (by omega) (by omega) trivial
      have h12':k0≤12:=by omega
      simp [h12]
      refine callM (ts':=[ownR Z,I c,I d,.fn 314 []]) (r:=.tup []) ?_ ?_ ?_ ?_
      · simp
      · simpa using z3
      · simp
      · simp
        refine hJr _ ?_
        simp
        rw [← hR]
        exact ⟨Z,⟨g1.trans (z1.wide f1 f3),(g2.pi z1).fin z2⟩,by simp [post]⟩
    · have h12':¬k0≤12:=by omega
      simp [h12]
      exact hJ _ ⟨by omega,by simp⟩
  rintro e ⟨hk12,rfl⟩
  refine wp_cut' (fun e=>0<l∧e=fr [(0,some (.val (ownR Y))),(1,some (.val (I c))),(2,some (.val (I d))),(3,some (.val (I l))),(4,some (.val (.fn 314 []))),(10,some (.val (.sc (.bool wb)))),(11,some (.val (.sc (.bool wq)))),(12,some (.val (I k0))),(32,some (.val (.sc (.bool false))))]) (fun J hJ hJr=>?_) ?_
  · by_cases hl0:l=0
    · obtain ⟨Z,_,z1,rfl,z2,z3⟩:=h434 Y c d hSY g1.dj (by omega) (by omega) trivial
      subst hl0
      simp
      refine callM (ts':=[ownR Z,I c,I d,.fn 314 []]) (r:=.tup []) ?_ ?_ ?_ ?_
      · simp
      · simpa using z3
      · simp
      · simp
        refine hJr _ ?_
        simp
        rw [← hR]
        exact ⟨Z,⟨g1.trans (z1.wide f1 f3),(g2.pi z1).fin z2⟩,by simp [post]⟩
    · simp [hl0]
      exact hJ _ ⟨by omega,by simp⟩
  rintro e ⟨hl0,rfl⟩
  refine wp_cut' (fun e=>∃ (Y1:List (List Int)) (l1:Nat),(PI Y Y1 c d∧l1≤64)∧(e=fr [(0,some (.val (ownR Y1))),(1,some (.val (I c))),(2,some (.val (I d))),(3,some (.val (I l1))),(4,some (.val (.fn 314 []))),(10,some (.val (.sc (.bool wb)))),(11,some (.val (.sc (.bool wq)))),(12,some (.val (I k0)))]∨e=fr [(0,some (.val (ownR Y1))),(1,some (.val (I c))),(2,some (.val (I d))),(3,some (.val (I l1))),(4,some (.val (.fn 314 []))),(10,some (.val (.sc (.bool wb)))),(11,some (.val (.sc (.bool wq)))),(12,some (.val (I k0))),(39,some (.val (.sc (.bool false))))])) (fun J hJ hJr=>?_) ?_
  · cases wb with
    | true =>
     simp
     exact hJ _ ⟨Y,l,⟨PI.refl g1.dj c d,g3⟩,.inr (by simp)⟩
    | false =>
     obtain ⟨Z,_,z1,rfl,z2,z3⟩:=h435 Y c d hSY g1.dj (by omega) (by omega) trivial
     have hl1:(l:Int)-1=((l-1:Nat):Int):=by omega
     simp
     refine callM (ts':=[ownR Z,I c,I d,.fn 314 []]) (r:=.tup []) ?_ ?_ ?_ ?_
     · simp
     · simpa using z3
     · simp
     · simp
       repeat (refine And.intro (by omega) ?_)
       exact hJ _ ⟨Z,l-1,⟨z1,by omega⟩,.inl (by simp [hl1])⟩
  rintro e ⟨Y1,l1,⟨p1,p3⟩,hee⟩
  have g1:=g1.trans (p1.wide f1 f3)
  have g2:=g2.pi p1
  have hY1:=g1.len
  have hSY1:=hS.pi g1
  have hLY1:=hLY.pi p1
  clear hY hSY hLY p1
  obtain ⟨p,h,⟨q1,q2⟩,q3⟩:=h436 Y1 c d hSY1 (by omega) (by omega)
  refine wp_cut' (fun e=>e=fr [(0,some (.val (ownR Y1))),(1,some (.val (I c))),(2,some (.val (I d))),(3,some (.val (I l1))),(4,some (.val (.fn 314 []))),(10,some (.val (.sc (.bool wb)))),(11,some (.val (.sc (.bool wq)))),(12,some (.val (I k0))),(13,some (.val (I p))),(14,some (.val (I h)))]) (fun J hJ hJr=>?_) ?_
  · rcases hee with rfl | rfl
    all_goals
     simp
     refine callM (ts':=[ownR Y1,I c,I d,.fn 314 []]) (r:=.tup [I p,I h]) ?_ ?_ ?_ ?_
     · simp
     · simpa using q3
     · simp
     · simp
       exact hJ _ (by simp)
  clear hee q3
  rintro e rfl
  refine wp_cut' (fun e=>∃ (Y2:List (List Int)) (p2 h2:Nat),(PI Y1 Y2 c d∧c<p2∧p2<d)∧(e=fr [(0,some (.val (ownR Y2))),(1,some (.val (I c))),(2,some (.val (I d))),(3,some (.val (I l1))),(4,some (.val (.fn 314 []))),(10,some (.val (.sc (.bool wb)))),(11,some (.val (.sc (.bool wq)))),(12,some (.val (I k0))),(13,some (.val (I p2))),(14,some (.val (I h2)))]∨e=fr [(0,some (.val (ownR Y2))),(1,some (.val (I c))),(2,some (.val (I d))),(3,some (.val (I l1))),(4,some (.val (.fn 314 []))),(10,some (.val (.sc (.bool wb)))),(11,some (.val (.sc (.bool wq)))),(12,some (.val (I k0))),(13,some (.val (I p2))),(14,some (.val (I h2))),(56,some (.val (.sc (.bool false))))])) (fun J hJ hJr=>?_) ?_
  · by_cases hh2:h=2
    · obtain ⟨Z,_,z1,rfl,z2,z3⟩:=h437 Y1 c d hSY1 g1.dj (by omega) (by omega) trivial
      subst hh2
      have hp2:(d:Int)-1-((p:Int)-c)=((d-1-(p-c):Nat):Int):=by omega
      simp
      refine callM (ts':=[ownR Z,I c,I d,.fn 314 []]) (r:=.tup []) ?_ ?_ ?_ ?_
      · simp
      · simpa using z3
      · simp
      · simp
        repeat (refine And.intro (by omega) ?_)
        exact hJ _ ⟨Z,d-1-(p-c),1,⟨z1,by omega,by omega⟩,.inl (by simp [hp2])⟩
    · have hh2':¬(h:Int)=2:=by omega
      simp [hh2']
      exact hJ _ ⟨Y1,p,h,⟨PI.refl g1.dj c d,by omega,by omega⟩,.inr (by simp)⟩
  rintro e ⟨Y2,p2,h2,⟨p1,q3,q4⟩,hee⟩
  have g1:=g1.trans (p1.wide f1 f3)
  have g2:=g2.pi p1
  have hY2:=g1.len
  have hSY2:=hS.pi g1
  have hLY2:=hLY1.pi p1
  clear hY1 hSY1 hLY1 p1 q1 q2
  refine wp_cut' (fun e=>∃ (Y3:List (List Int)),PI Y2 Y3 c d∧(e=fr [(0,some (.val (ownR Y3))),(1,some (.val (I c))),(2,some (.val (I d))),(3,some (.val (I l1))),(4,some (.val (.fn 314 []))),(10,some (.val (.sc (.bool wb)))),(11,some (.val (.sc (.bool wq)))),(12,some (.val (I k0))),(13,some (.val (I p2))),(80,some (.val (.sc (.bool false))))]∨e=fr [(0,some (.val (ownR Y3))),(1,some (.val (I c))),(2,some (.val (I d))),(3,some (.val (I l1))),(4,some (.val (.fn 314 []))),(10,some (.val (.sc (.bool wb)))),(11,some (.val (.sc (.bool wq)))),(12,some (.val (I k0))),(13,some (.val (I p2))),(75,some (.val (.sc (.bool false))))])) (fun J hJ hJr=>?_) ?_
  · by_cases hw:wb=true∧wq=true∧h2=1
    · obtain ⟨rfl,rfl,rfl⟩:=hw
      obtain ⟨Z,t,⟨z1,z2⟩,z3⟩:=h438 Y2 c d hSY2 g1.dj (by omega) (by omega) hLY2
      rcases hee with rfl | rfl
      all_goals
       simp
       refine callM (ts':=[ownR Z,I c,I d,.fn 314 []]) (r:=.sc (.bool t)) ?_ ?_ ?_ ?_
       · simp
       · simpa using z3
       · simp
       · simp
         cases t with
         | true =>
          simp
          refine hJr _ ?_
          simp
          rw [← hR]
          exact ⟨Z,⟨g1.trans (z1.wide f1 f3),(g2.pi z1).fin (z2 rfl)⟩,by simp [post]⟩
         | false =>
          simp
          exact hJ _ ⟨Z,z1,.inl (by simp)⟩
    · have hx:=PI.refl g1.dj c d
      rcases hee with rfl | rfl
      all_goals
       cases wb with
       | false =>
        simp [undefV]
        exact hJ _ ⟨Y2,hx,.inr (by simp)⟩
       | true =>
        cases wq with
        | false =>
         simp [undefV]
         exact hJ _ ⟨Y2,hx,.inr (by simp)⟩
        | true =>
         have h21:¬h2=1:=fun hh=>hw ⟨rfl,rfl,hh⟩
         have h21':¬(h2:Int)=1:=by omega
         simp [h21']
         exact hJ _ ⟨Y2,hx,.inr (by simp)⟩
  rintro e ⟨Y3,p1,hee⟩
  have g1:=g1.trans (p1.wide f1 f3)
  have g2:=g2.pi p1
  have hY3:=g1.len
  have hSY3:=hS.pi g1
  have hLY3:=hLY2.pi p1
  clear hY2 hSY2 hLY2 p1
  refine wp_cut' (fun e=>e=fr [(0,some (.val (ownR Y3))),(1,some (.val (I c))),(2,some (.val (I d))),(3,some (.val (I l1))),(4,some (.val (.fn 314 []))),(10,some (.val (.sc (.bool wb)))),(11,some (.val (.sc (.bool wq)))),(12,some (.val (I k0))),(13,some (.val (I p2))),(97,some (.val (.sc (.bool false))))]) (fun J hJ hJr=>?_) ?_
  · by_cases hc0:0<c
    · have hbf:bef (gt Y3 (c-1)) (gt Y3 p2):=by
       rcases hLY3 with h0 | h0
       · omega
       · exact h0 p2 (by omega) (by omega)
      have hb':cmpL (gt Y3 (c-1)) (gt Y3 p2)<0:=hbf
      have hcl:c-1<Y3.length:=by omega
      have hpl:p2<Y3.length:=by omega
      have e1:=gt_at hcl
      have e2:=gt_at hpl
      have hc:=h314 (gt Y3 (c-1)) (gt Y3 p2) (hSY3.2 _)
      have hc1:(c:Int)-1=((c-1:Nat):Int):=by omega
      have hc0':(0:Int)<c:=by omega
      rcases hee with rfl | rfl
      all_goals
       simp [hc0,hc1,hcl,hpl,e1,e2]
       repeat (refine And.intro (by omega) ?_)
       refine callR hc rfl rfl (fun _=>rfl) ?_
       simp [hb']
       exact hJ _ (by simp)
    · have hc0':¬(0:Int)<c:=by omega
      rcases hee with rfl | rfl
      all_goals
       simp [hc0,undefV]
       exact hJ _ (by simp)
  clear hee
  rintro e rfl
  obtain ⟨Z,m,ap,⟨t1,t2,t3,t4,t5⟩,t6⟩:=h440 Y3 c d p2 hSY3 g1.dj (by omega) (by omega) (by omega)
  have g1:=g1.trans (t1.wide f1 f3)
  have g2:=g2.pi t1
  have hZ:=g1.len
  have hSZ:=hS.pi g1
  have hLZ:=hLY3.pi t1
  have hcut:=g2.cutm t2 t3 t4 t5
  obtain ⟨L,hL⟩:∃ L:Nat,(m:Int)-c=L:=⟨m-c,by omega⟩
  obtain ⟨M,hM⟩:∃ M:Nat,(d:Int)-m=M:=⟨d-m,by omega⟩
  obtain ⟨q,hq⟩:∃ q:Nat,(k0:Int).tdiv 8=q:=⟨k0 / 8,by rw [Int.tdiv_eq_ediv_of_nonneg (by omega)];omega⟩
  simp
  refine callM (ts':=[ownR Z,I c,I d,I p2,.fn 314 []]) (r:=.tup [I m,.sc (.bool ap)]) ?_ ?_ ?_ ?_
  · simp
  · simpa using t6
  · simp
  · simp
    simp [hL,hM]
    repeat (refine And.intro (by omega) ?_)
    by_cases hlt:L<M
    · have hLb2:Lb Z c m:=by
       rcases hLZ with h0 | h0
       · exact .inl h0
       · exact .inr fun k k1 k2=>h0 k k1 (by omega)
      obtain ⟨W,⟨w1,w2⟩,w3⟩:=ih (m-c) (by omega) Z c m l1 rfl hSZ g1.dj (by omega) (by omega) hLb2 p3
      simp [hlt]
      refine callM (ts':=[ownR W,I c,I m,I l1,.fn 314 []]) (r:=.tup []) ?_ ?_ ?_ ?_
      · simp
      · simpa using w3
      · simp
      · simp
        repeat (refine And.intro (by omega) ?_)
        exact ⟨W,m+1,d,by omega,l1,⟨g1.trans (w1.wide f1 (by omega)),g2.left t2 t3 hcut w1 w2,p3⟩,decide ((k0:Int) / 8≤L),ap,by simp⟩
    · have hLb2:Lb Z (m+1) d:=.inr fun k k1 k2=>t5 k (by omega) k2
      obtain ⟨W,⟨w1,w2⟩,w3⟩:=ih (d-(m+1)) (by omega) Z (m+1) d l1 rfl hSZ g1.dj (by omega) (by omega) hLb2 p3
      simp [hlt]
      repeat (refine And.intro (by omega) ?_)
      refine callM (ts':=[ownR W,I (m+1:Nat),I d,I l1,.fn 314 []]) (r:=.tup []) ?_ ?_ ?_ ?_
      · simp
      · simpa using w3
      · simp
      · simp
        exact ⟨W,c,m,by omega,l1,⟨g1.trans (w1.wide (by omega) f3),g2.right t2 t3 hcut w1 w2,p3⟩,decide ((k0:Int) / 8≤M),ap,by simp⟩
 exact fun X a b lim=>main _ X a b lim rfl
end Go.Mch
namespace Go.Mch

def S_sort (pg:Pg):Prop:=∀ X:List (List Int),Sm X→Dj X→∃ Y,(Srt Y∧∀ x,x∈Y↔x∈X)∧Call pg 313 [ownR X,.fn 314 []] [ownR Y,.fn 314 []] (.tup [])
theorem t_sortFunc {pg:Pg} (hp:pg.fn 313=some c_slices_SortFunc_____int64___int64_) (h394:S_len pg 394) (h393:S_pdq pg):S_sort pg:=by
 intro X hS hD
 have hX1:=hS.1
 obtain ⟨L,⟨_,_,l3⟩,hl⟩:=h394 X.length hX1
 obtain ⟨Y,⟨y1,y2⟩,hy⟩:=h393 X 0 X.length L hS hD (by omega) (Nat.le_refl _) (.inl rfl) (by omega)
 have hlen:=y1.len
 have hY:SI Y 0 Y.length:=by rw [hlen];exact y2
 have ew:IntKind.u64.wrap (X.length:Int)=X.length:=wru (by omega) (by omega)
 refine ⟨Y,⟨hY.srt,y1.mem⟩,Call.intro_own hp rfl (by simp [F.lets,c_slices_SortFunc_____int64___int64_,List.range,List.range.loop]) ?_⟩
 show wp _ _ c_slices_SortFunc_____int64___int64_.body (post [] _ _ _) _
 simp [c_slices_SortFunc_____int64___int64_,ew]
 refine callR hl rfl rfl (fun _=>rfl) ?_
 simp
 refine callM (ts':=[ownR Y,I 0,I X.length,I L,.fn 314 []]) (r:=.tup []) ?_ ?_ ?_ ?_
 · simp
 · simpa using hy
 · simp
 · simp
end Go.Mch
namespace Go.Mch

theorem Srt.ins {X:List (List Int)} {w:List Int} {i:Nat} (h:Srt X) (h1:∀ j (hj:j<X.length),j<i→cmpL X[j] w<0) (h2:∀ j (hj:j<X.length),i≤j→cmpL w X[j]<0):Srt (X.take i++w::X.drop i):=by
 refine List.pairwise_append.2 ⟨h.sublist (List.take_sublist _ _),List.pairwise_cons.2 ⟨fun b hb=>?_,h.sublist (List.drop_sublist _ _)⟩,fun a ha b hb=>?_⟩
 · obtain ⟨k,hk,rfl⟩:=List.getElem_of_mem hb
   simp only [List.length_drop] at hk
   rw [List.getElem_drop]
   exact h2 _ (by omega) (by omega)
 · obtain ⟨k,hk,rfl⟩:=List.getElem_of_mem ha
   simp only [List.length_take] at hk
   rw [List.getElem_take]
   rcases List.mem_cons.1 hb with rfl | hb
   · exact h1 _ (by omega) (by omega)
   · obtain ⟨m,hm,rfl⟩:=List.getElem_of_mem hb
     simp only [List.length_drop] at hm
     rw [List.getElem_drop]
     exact h.lt (by omega) (by omega)
theorem thr (n:Nat) (P:Nat→Prop):(∀ j k,j≤k→k<n→P k→P j)→∃ i,i≤n∧(∀ j,j<n→j<i→P j)∧∀ j,j<n→i≤j→¬P j:=by
 induction n with
 | zero=>intro _;exact ⟨0,by omega,fun j h=>by omega,fun j h=>by omega⟩
 | succ n ih =>
  intro h
  by_cases hp:P n
  · exact ⟨n+1,by omega,fun j hj _=>h j n (by omega) (by omega) hp,fun j hj h2=>by omega⟩
  · obtain ⟨i,h1,h2,h3⟩:=ih fun j k hjk hk=>h j k hjk (by omega)
    refine ⟨i,by omega,fun j hj hi=>h2 j (by omega) hi,fun j hj hi=>?_⟩
    by_cases hjn:j=n
    · subst hjn;exact hp
    · exact h3 j (by omega) hi
structure At (X:List (List Int)) (w:List Int) (i:Nat):Prop where
 le:i≤X.length
 lo:∀ j (hj:j<X.length),j<i→cmpL X[j] w<0
 hi:∀ j (hj:j<X.length),i≤j→¬cmpL X[j] w<0
def S_put (pg:Pg):Prop:=∀ (X:List (List Int)) (w:List Int),Srt X→X.length≤1000000→(∀ x∈X,x.length≤1048576)→w.length≤1048576→∃ (X':List (List Int)) (b:Bool) (args':List T),Srt X'∧(∀ x,x∈X'↔x∈X∨x=w)∧(b=true↔w ∉ X)∧X'.length≤X.length+1∧args'.length=2∧Call pg 349 [.mem .own (some 1) (tbL X),ix w] args' (.tup [.mem .own (some 1) (tbL X'),B b])
theorem Srt.at {X:List (List Int)} (h:Srt X) (w:List Int):∃ i,At X w i:=by
 obtain ⟨i,h1,h2,h3⟩:=thr X.length (fun j=>cmpL (X.getD j []) w<0) fun j k hjk hk hp=>by
  by_cases he:j=k
  · subst he;exact hp
  · have hj:j<X.length:=by omega
    have:=h.lt hk (show j<k by omega)
    simp only [List.getD_eq_getElem?_getD,List.getElem?_eq_getElem hk,List.getElem?_eq_getElem hj,Option.getD_some] at hp ⊢
    exact cmpL_trans _ _ _ this hp
 refine ⟨i,h1,fun j hj hl=>?_,fun j hj hl=>?_⟩
 · have:=h2 j hj hl
   simpa [hj] using this
 · have:=h3 j hj hl
   simpa [hj] using this
theorem At.mem {X:List (List Int)} {w:List Int} {i:Nat} (h:At X w i) (hs:Srt X):w∈X↔∃ hi:i<X.length,X[i]=w:=by
 constructor
 · intro hm
   obtain ⟨j,hj,rfl⟩:=List.getElem_of_mem hm
   have hij:i≤j:=by
    refine Classical.byContradiction fun hn=>?_
    have:=h.lo j hj (by omega)
    have z:=(cmpL_zero X[j] X[j]).2 rfl
    omega
   by_cases he:i=j
   · subst he;exact ⟨hj,rfl⟩
   · exact absurd (hs.lt hj (by omega)) (h.hi i (by omega) (Nat.le_refl _))
 · rintro ⟨hi,rfl⟩
   exact List.getElem_mem hi
theorem At.ins {X:List (List Int)} {w:List Int} {i:Nat} (h:At X w i) (hs:Srt X) (hn:w ∉ X):Srt (X.take i++w::X.drop i):=by
 refine hs.ins h.lo fun j hj hij=>?_
 have h1:=h.hi j hj hij
 have h2:=cmpL_neg X[j] w
 have h3:cmpL X[j] w≠0:=fun hz=>hn (by rw [← (cmpL_zero _ _).1 hz];exact List.getElem_mem hj)
 omega
def shf (X:List (List Int)) (z:List Int) (q:Nat):List (List Int):=X.take q++z::X.drop q
theorem shf_length (X:List (List Int)) (z:List Int) {q:Nat} (h:q≤X.length):(shf X z q).length=X.length+1:=by simp [shf];omega
theorem shf_get (X:List (List Int)) (z:List Int) {r:Nat} (h:r<X.length):(shf X z (r+1))[r]?=some X[r]:=by
 rw [shf,List.getElem?_append_left (by simp;omega),List.getElem?_take_of_lt (by omega),List.getElem?_eq_getElem h]
theorem shf_set (X:List (List Int)) (z:List Int) {r:Nat} (h:r<X.length):(shf X z (r+1)).set (r+1) X[r]=shf X X[r] r:=by
 have hl:(X.take (r+1)).length=r+1:=by simp;omega
 rw [shf,List.set_append_right _ _ (by omega),hl,Nat.sub_self,List.set_cons_zero,shf,List.take_succ_eq_append_getElem h,List.drop_eq_getElem_cons h,List.append_assoc]
 rfl
theorem tbL_set (X:List (List Int)) (i:Nat) (v:List Int):tbL (X.set i v)=(tbL X).set i (ix v):=by simp [tbL,List.map_set]
theorem shf_fin (X:List (List Int)) (z w:List Int) {q:Nat} (h:q≤X.length):(shf X z q).set q w=X.take q++w::X.drop q:=by
 have hl:(X.take q).length=q:=by simp;omega
 rw [shf,List.set_append_right _ _ (by omega),hl,Nat.sub_self,List.set_cons_zero]
set_option maxRecDepth 10000 in
theorem t_l01Put {pg:Pg} (hp:pg.fn 349=some c_spec_l01Put) (h408:S_less pg) (h67:S_same pg):S_put pg:=by
 intro X w hs hl hr hw
 obtain ⟨i,hi⟩:=hs.at w
 have hmem:=hi.mem hs
 have hle:=hi.le
 have hlets:∀ a b:T,c_spec_l01Put.lets [a,b]=true:=fun a b=>by simp [F.lets,c_spec_l01Put,List.range,List.range.loop]
 by_cases hm:w∈X
 · obtain ⟨hiX,hXi⟩:=hmem.1 hm
   refine ⟨X,false,[.gone,ix w],hs,fun x=>⟨.inl,fun h=>h.elim id fun h=>h▸hm⟩,by simp [hm],by omega,rfl,Call.intro_own hp rfl (hlets _ _) ?_⟩
   show wp _ _ c_spec_l01Put.body (post [.t 4,.t 5] _ _ _) _
   simp [c_spec_l01Put,kindOf]
   refine wpLoop_lower (α:=Nat×Nat) (fun z=>z.2-z.1) (fun z e=>(z.1≤i∧i≤z.2∧z.2≤X.length)∧e=fr [(0,some (.val (.mem .own (some 1) (tbL X)))),(1,some (.val (ix w))),(6,some (.val (I z.1))),(7,some (.val (I z.2)))]) ?_ (0,X.length) _ ⟨⟨by simp,hle,by simp⟩,by simp⟩
   rintro ⟨lo,hI⟩ e ⟨⟨g1,g2,g3⟩,rfl⟩
   simp only at g1 g2 g3
   by_cases hlt:lo<hI
   · have hdiv:((lo:Int)+hI).tdiv 2=(((lo+hI) / 2:Nat):Int):=by
      rw [Int.tdiv_eq_ediv_of_nonneg (by omega)];omega
     have hmid:(lo+hI) / 2<X.length:=by omega
     have hlow:=hi.lo _ hmid
     have hhi:=hi.hi _ hmid
     have hmr:=hr _ (List.getElem_mem hmid)
     generalize hM:(lo+hI) / 2=M at *
     have hcl:=h408 X[M] w hmr
     have hcase:cmpL X[M] w<0↔M<i:=⟨fun hc=>Classical.byContradiction fun hn=>hhi (by omega) hc,hlow⟩
     simp [hlt,hdiv,hmid]
     refine ⟨by omega,by omega,?_⟩
     refine callR hcl rfl rfl (fun _=>rfl) ?_
     by_cases hc:cmpL X[M] w<0
     · have hMi:=hcase.1 hc
       simp [hc]
       exact ⟨by omega,M+1,hI,by omega,⟨by omega,by omega,by omega⟩,by simp⟩
     · have hMi:¬M<i:=fun hh=>hc (hcase.2 hh)
       simp [hc]
       exact ⟨lo,M,by omega,⟨by omega,by omega,by omega⟩,by simp⟩
   · have hlo:lo=i:=by omega
     have hhi:hI=i:=by omega
     subst hlo hhi
     have hsame:=h67 X[hI] w (hr _ (List.getElem_mem hiX))
     simp [hiX]
     refine callR hsame rfl rfl (fun _=>rfl) ?_
     simp [hXi]
 · have hX':Srt (X.take i++w::X.drop i):=hi.ins hs hm
   refine ⟨X.take i++w::X.drop i,true,[.gone,ix w],hX',fun x=>?_,by simp [hm],by simp;omega,rfl,Call.intro_own hp rfl (hlets _ _) ?_⟩
   · rw [List.mem_append,List.mem_cons]
     constructor
     · rintro (h1 | h1 | h1)
       · exact .inl (List.mem_of_mem_take h1)
       · exact .inr h1
       · exact .inl (List.mem_of_mem_drop h1)
     · rintro (h1 | h1)
       · rw [← List.take_append_drop i X] at h1
         rcases List.mem_append.1 h1 with h2 | h2
         · exact .inl h2
         · exact .inr (.inr h2)
       · exact .inr (.inl h1)
   show wp _ _ c_spec_l01Put.body (post [.t 4,.t 5] _ _ _) _
   simp [c_spec_l01Put,kindOf]
   refine wpLoop_lower (α:=Nat×Nat) (fun z=>z.2-z.1) (fun z e=>(z.1≤i∧i≤z.2∧z.2≤X.length)∧e=fr [(0,some (.val (.mem .own (some 1) (tbL X)))),(1,some (.val (ix w))),(6,some (.val (I z.1))),(7,some (.val (I z.2)))]) ?_ (0,X.length) _ ⟨⟨by simp,hle,by simp⟩,by simp⟩
   rintro ⟨lo,hI⟩ e ⟨⟨g1,g2,g3⟩,rfl⟩
   simp only at g1 g2 g3
   by_cases hlt:lo<hI
   · have hdiv:((lo:Int)+hI).tdiv 2=(((lo+hI) / 2:Nat):Int):=by
      rw [Int.tdiv_eq_ediv_of_nonneg (by omega)];omega
     have hmid:(lo+hI) / 2<X.length:=by omega
     have hlow:=hi.lo _ hmid
     have hhi:=hi.hi _ hmid
     have hmr:=hr _ (List.getElem_mem hmid)
     generalize hM:(lo+hI) / 2=M at *
     have hcl:=h408 X[M] w hmr
     have hcase:cmpL X[M] w<0↔M<i:=⟨fun hc=>Classical.byContradiction fun hn=>hhi (by omega) hc,hlow⟩
     simp [hlt,hdiv,hmid]
     refine ⟨by omega,by omega,?_⟩
     refine callR hcl rfl rfl (fun _=>rfl) ?_
     by_cases hc:cmpL X[M] w<0
     · have hMi:=hcase.1 hc
       simp [hc]
       exact ⟨by omega,M+1,hI,by omega,⟨by omega,by omega,by omega⟩,by simp⟩
     · have hMi:¬M<i:=fun hh=>hc (hcase.2 hh)
       simp [hc]
       exact ⟨lo,M,by omega,⟨by omega,by omega,by omega⟩,by simp⟩
   · have hlo:lo=i:=by omega
     have hhi:hI=i:=by omega
     subst hlo hhi
     have hl2:X.length+1≤roomy:=by unfold roomy;omega
     have htk:X.take X.length=X:=List.take_length
     by_cases hiX:hI<X.length
     · have hne:X[hI]≠w:=fun hh=>hm (hmem.2 ⟨hiX,hh⟩)
       have hsame:=h67 X[hI] w (hr _ (List.getElem_mem hiX))
       simp [hiX]
       refine callR hsame rfl rfl (fun _=>rfl) ?_
       simp [hne,hl2]
       refine ⟨by omega,?_⟩
       refine wpLoop_lower (α:=Nat×List Int) (fun z=>z.1) (fun z e=>(hI≤z.1∧z.1≤X.length)∧e=fr [(0,none),(1,some (.val (ix w))),(6,some (.val (I hI))),(9,some (.val (.mem .own (some 1) (tbL (shf X z.2 z.1))))),(10,some (.val (I z.1)))]) ?_ (X.length,w) _ ⟨⟨by simp;omega,by simp⟩,by simp [shf,tbL_append];simp [tbL]⟩
       rintro ⟨q,z⟩ e ⟨⟨k1,k2⟩,rfl⟩
       simp only at k1 k2
       have hYl:=shf_length X z k2
       by_cases hq:hI<q
       · obtain ⟨r,rfl⟩:∃ r,q=r+1:=⟨q-1,by omega⟩
         have hrX:r<X.length:=by omega
         have hYr:=shf_get X z hrX
         have hYs:=shf_set X z hrX
         generalize shf X z (r+1)=Y at *
         have hrY:r<Y.length:=by omega
         have hrY1:r+1<Y.length:=by omega
         have hYr:Y[r]=X[r]:=by rw [List.getElem?_eq_getElem hrY] at hYr;exact Option.some.inj hYr
         have hq':(hI:Int)<(r:Int)+1:=by omega
         simp [hq',hrY,hrY1,hYr]
         exact ⟨by omega,by omega,by omega,by omega,r,by omega,⟨by omega,by omega⟩,X[r],by rw [← hYs,tbL_set]⟩
       · have hqe:q=hI:=by omega
         subst hqe
         have hfin:=shf_fin X z w k2
         generalize shf X z q=Y at *
         have hqY:q<Y.length:=by omega
         rw [← hfin]
         rw [tbL_set]
         simp [hqY]
         omega
     · simp [hiX,undefV,hl2]
       refine ⟨by omega,?_⟩
       refine wpLoop_lower (α:=Nat×List Int) (fun z=>z.1) (fun z e=>(hI≤z.1∧z.1≤X.length)∧e=fr [(0,none),(1,some (.val (ix w))),(6,some (.val (I hI))),(9,some (.val (.mem .own (some 1) (tbL (shf X z.2 z.1))))),(10,some (.val (I z.1)))]) ?_ (X.length,w) _ ⟨⟨by simp;omega,by simp⟩,by simp [shf,tbL_append];simp [tbL]⟩
       rintro ⟨q,z⟩ e ⟨⟨k1,k2⟩,rfl⟩
       simp only at k1 k2
       have hYl:=shf_length X z k2
       by_cases hq:hI<q
       · obtain ⟨r,rfl⟩:∃ r,q=r+1:=⟨q-1,by omega⟩
         have hrX:r<X.length:=by omega
         have hYr:=shf_get X z hrX
         have hYs:=shf_set X z hrX
         generalize shf X z (r+1)=Y at *
         have hrY:r<Y.length:=by omega
         have hrY1:r+1<Y.length:=by omega
         have hYr:Y[r]=X[r]:=by rw [List.getElem?_eq_getElem hrY] at hYr;exact Option.some.inj hYr
         have hq':(hI:Int)<(r:Int)+1:=by omega
         simp [hq',hrY,hrY1,hYr]
         exact ⟨by omega,by omega,by omega,by omega,r,by omega,⟨by omega,by omega⟩,X[r],by rw [← hYs,tbL_set]⟩
       · have hqe:q=hI:=by omega
         subst hqe
         have hfin:=shf_fin X z w k2
         generalize shf X z q=Y at *
         have hqY:q<Y.length:=by omega
         rw [← hfin]
         rw [tbL_set]
         simp [hqY]
         omega
end Go.Mch
namespace Go.Mch

def GR (ms:List (List Int)) (n:Nat) (x:List Int):Prop:=∀ S:List Int→Prop,S (idL n)→(∀ y,S y→∀ p∈ms,S (thenL y p))→S x
theorem GR.id (ms:List (List Int)) (n:Nat):GR ms n (idL n):=fun _ h _=>h
theorem GR.step {ms:List (List Int)} {n:Nat} {x:List Int} (h:GR ms n x) {p:List Int} (hp:p∈ms):GR ms n (thenL x p):=fun S h1 h2=>h2 x (h S h1 h2) p hp
structure Grp (ms:List (List Int)) (n:Nat) (X:List (List Int)):Prop where
 srt:Srt X
 mem:∀ x,x∈X↔GR ms n x
theorem Srt.nodup {X:List (List Int)} (h:Srt X):X.Nodup:=h.imp fun {a b} hab he=>by
 subst he
 have:=(cmpL_zero a a).2 rfl
 omega
theorem Srt.unique:∀ {X Y:List (List Int)},Srt X→Srt Y→(∀ x,x∈X↔x∈Y)→X=Y
 | [],[],_,_,_=>rfl
 | [],y::Y,_,_,h=>by have:=(h y).2 (by simp);cases this
 | x::X,[],_,_,h=>by have:=(h x).1 (by simp);cases this
 | x::X,y::Y,hx,hy,h=>by
  have hx1:=List.pairwise_cons.1 hx
  have hy1:=List.pairwise_cons.1 hy
  have hxy:x=y:=by
   refine Classical.byContradiction fun hne=>?_
   have m1:x∈Y:=by
    have:=(h x).1 (by simp)
    rcases List.mem_cons.1 this with e | e
    · exact absurd e hne
    · exact e
   have m2:y∈X:=by
    have:=(h y).2 (by simp)
    rcases List.mem_cons.1 this with e | e
    · exact absurd e.symm hne
    · exact e
   have a1:=hy1.1 x m1
   have a2:=hx1.1 y m2
   have a3:=cmpL_neg x y
   omega
  subst hxy
  have:X=Y:=Srt.unique hx1.2 hy1.2 fun z=>by
   have hz:=h z
   have n1:x ∉ X:=fun hm=>by
    have:=hx1.1 x hm
    have z0:=(cmpL_zero x x).2 rfl
    omega
   have n2:x ∉ Y:=fun hm=>by
    have:=hy1.1 x hm
    have z0:=(cmpL_zero x x).2 rfl
    omega
   by_cases hzx:z=x
   · subst hzx;simp [n1,n2]
   · simpa [hzx] using hz
  rw [this]
theorem len_of_same {X Y:List (List Int)} (h1:X.Nodup) (h2:Y.Nodup) (h:∀ x,x∈X↔x∈Y):X.length=Y.length :=
 Nat.le_antisymm (len_le_of_sub X Y h1 fun x hx=>(h x).1 hx) (len_le_of_sub Y X h2 fun x hx=>(h x).2 hx)
open Classical in
noncomputable def grpO (ms:List (List Int)) (n:Nat):Option (List (List Int)):=if h:∃ X,Grp ms n X∧X.length≤1000 then some h.choose else none
theorem grpO_some {ms:List (List Int)} {n:Nat} {X:List (List Int)} (h:Grp ms n X) (hl:X.length≤1000):grpO ms n=some X:=by
 have hex:∃ X,Grp ms n X∧X.length≤1000:=⟨X,h,hl⟩
 rw [grpO,dif_pos hex]
 obtain ⟨h2,_⟩:=hex.choose_spec
 rw [Srt.unique h2.srt h.srt fun x=>(h2.mem x).trans (h.mem x).symm]
theorem grpO_none {ms:List (List Int)} {n:Nat} {Q:List (List Int)} (hd:Q.Nodup) (hm:∀ x∈Q,GR ms n x) (hl:1000<Q.length):grpO ms n=none:=by
 unfold grpO
 split
 · rename_i h
   obtain ⟨h1,h2⟩:=h.choose_spec
   have:=len_le_of_sub Q h.choose hd fun x hx=>(h1.mem x).2 (hm x hx)
   omega
 · rfl
theorem grpO_len {ms:List (List Int)} {n:Nat} {Q:List (List Int)} (hd:Q.Nodup) (hm:∀ x∈Q,GR ms n x) (hc:∀ x,GR ms n x→x∈Q) (hl:Q.length≤1000) (hs:∃ X,Grp ms n X):∃ X,grpO ms n=some X∧X.length=Q.length:=by
 obtain ⟨X,hX⟩:=hs
 have hlen:=len_of_same hX.srt.nodup hd fun x=>⟨fun h=>hc x ((hX.mem x).1 h),fun h=>(hX.mem x).2 (hm x h)⟩
 exact ⟨X,grpO_some hX (by omega),hlen⟩
theorem srt_ex (Q:List (List Int)):∃ X,Srt X∧∀ x,x∈X↔x∈Q:=by
 induction Q with
 | nil=>exact ⟨[],List.Pairwise.nil,fun x=>Iff.rfl⟩
 | cons w Q ih =>
  obtain ⟨X,h1,h2⟩:=ih
  by_cases hw:w∈X
  · refine ⟨X,h1,fun x=>?_⟩
    rw [List.mem_cons,h2]
    exact ⟨.inr,fun h=>h.elim (fun h=>h▸(h2 w).1 hw) id⟩
  · obtain ⟨i,hi⟩:=h1.at w
    refine ⟨_,hi.ins h1 hw,fun x=>?_⟩
    rw [List.mem_append,List.mem_cons,List.mem_cons,← h2]
    constructor
    · rintro (h | h | h)
      · exact .inr (List.mem_of_mem_take h)
      · exact .inl h
      · exact .inr (List.mem_of_mem_drop h)
    · rintro (h | h)
      · exact .inr (.inl h)
      · rw [← List.take_append_drop i X] at h
        rcases List.mem_append.1 h with h | h
        · exact .inl h
        · exact .inr (.inr h)
theorem GR.perm {ms:List (List Int)} {n:Nat} (hm:Prms n ms) {x:List Int} (h:GR ms n x):x.length=n∧inN n x:=by
 refine h (fun x=>x.length=n∧inN n x) ⟨by simp,fun v hv=>?_⟩ fun y hy p hp=>⟨by simpa using hy.1,fun v hv=>?_⟩
 · simp only [idL,List.mem_map,List.mem_range] at hv
   obtain ⟨i,hi,rfl⟩:=hv
   omega
 · simp only [thenL,List.mem_map] at hv
   obtain ⟨u,hu,rfl⟩:=hv
   have hr:=act_rng hm hp (hy.2 u hu)
   exact hr
end Go.Mch
namespace Go.Mch

section
variable (mv:List Int→Nat→List Int) (m:Nat) (w:List Int)
def TR (x:List Int):Prop:=∀ C:List Int→Prop,C w→(∀ y,C y→∀ i,i<m→C (mv y i))→C x
structure TF (Q:List (List Int)):Prop where
 w0:w∈Q
 nd:Q.Nodup
 gr:∀ x∈Q,TR mv m w x
structure TB (Q:List (List Int)) (a k:Nat):Prop where
 f:TF mv m w Q
 cl:∀ i (h:i<Q.length),i<a→∀ p,p<m→mv Q[i] p∈Q
 cur:∀ h:a<Q.length,∀ p,p<k→mv Q[a] p∈Q
variable {mv m w}
variable (mv m w)
def Orb (S:List (List Int)):Prop:=Srt S∧∀ x,x∈S↔TR mv m w x
variable {mv m w}
end
end Go.Mch
namespace Go.Mch

def ExT (P:List (List Int)→Prop):Prop:=∃ Q,P Q
theorem ExT.mk {P:List (List Int)→Prop} (Q:List (List Int)) (h:P Q):ExT P:=⟨Q,h⟩
structure BF (ms:List (List Int)) (n:Nat) (Q:List (List Int)) (i k:Nat):Prop where
 nd:Q.Nodup
 gr:∀ x∈Q,GR ms n x
 id:idL n∈Q
 dn:∀ j (hj:j<Q.length),j<i→∀ p∈ms,thenL Q[j] p∈Q
 dk:∀ hi:i<Q.length,∀ p∈ms.take k,thenL Q[i] p∈Q
 le:Q.length≤1000
theorem BF.start (ms:List (List Int)) (n:Nat):BF ms n [idL n] 0 0 where
 nd:=by simp
 gr:=fun x hx=>by simp at hx;subst hx;exact GR.id ms n
 id:=by simp
 dn:=fun j _ h=>by omega
 dk:=fun _ p hp=>by simp at hp
 le:=by simp
theorem BF.up {ms:List (List Int)} {n:Nat} {Q:List (List Int)} {i:Nat} (h:BF ms n Q i ms.length) (hi:i<Q.length):BF ms n Q (i+1) 0 :=
 ⟨h.nd,h.gr,h.id,fun j hj hl p hp=>by
  by_cases he:j=i
  · subst he;exact h.dk hi p (by simpa using hp)
  · exact h.dn j hj (by omega) p hp,fun _ p hp=>by simp at hp,h.le⟩
theorem BF.old {ms:List (List Int)} {n:Nat} {Q:List (List Int)} {i k:Nat} (h:BF ms n Q i k) (hk:k<ms.length) (hi:i<Q.length) (hm:thenL Q[i] ms[k]∈Q):BF ms n Q i (k+1) :=
 ⟨h.nd,h.gr,h.id,h.dn,fun _ p hp=>by
  rw [List.take_succ_eq_append_getElem hk] at hp
  rcases List.mem_append.1 hp with h1 | h1
  · exact h.dk hi p h1
  · simp at h1;subst h1;exact hm,h.le⟩
theorem BF.new {ms:List (List Int)} {n:Nat} {Q:List (List Int)} {i k:Nat} (h:BF ms n Q i k) (hk:k<ms.length) (hi:i<Q.length) (hm:thenL Q[i] ms[k] ∉ Q) :
 (Q++[thenL Q[i] ms[k]]).Nodup∧(∀ x∈Q++[thenL Q[i] ms[k]],GR ms n x)∧(Q.length<1000→BF ms n (Q++[thenL Q[i] ms[k]]) i (k+1)):=by
 have hnd:(Q++[thenL Q[i] ms[k]]).Nodup:=by
  rw [List.nodup_append]
  exact ⟨h.nd,by simp,fun a ha b hb=>by simp at hb;subst hb;exact fun he=>hm (he▸ha)⟩
 have hgr:∀ x∈Q++[thenL Q[i] ms[k]],GR ms n x:=fun x hx=>by
  rcases List.mem_append.1 hx with h1 | h1
  · exact h.gr x h1
  · simp at h1;subst h1;exact (h.gr _ (List.getElem_mem hi)).step (List.getElem_mem hk)
 refine ⟨hnd,hgr,fun hl=>⟨hnd,hgr,List.mem_append.2 (.inl h.id),fun j hj hl2 p hp=>?_,fun _ p hp=>?_,by simp;omega⟩⟩
 · rw [List.getElem_append_left (by omega)]
   exact List.mem_append.2 (.inl (h.dn j (by omega) hl2 p hp))
 · rw [List.getElem_append_left hi]
   rw [List.take_succ_eq_append_getElem hk] at hp
   rcases List.mem_append.1 hp with h1 | h1
   · exact List.mem_append.2 (.inl (h.dk hi p h1))
   · simp at h1;subst h1;exact List.mem_append.2 (.inr (by simp))
theorem BF.all {ms:List (List Int)} {n:Nat} {Q:List (List Int)} {i k:Nat} (h:BF ms n Q i k) (hi:¬i<Q.length):∀ x,GR ms n x→x∈Q:=fun x hx =>
 hx (·∈Q) h.id fun y hy p hp=>by
  obtain ⟨j,hj,rfl⟩:=List.getElem_of_mem hy
  exact h.dn j hj (by omega) p hp
theorem BF.grp {ms:List (List Int)} {n:Nat} {Q:List (List Int)} {i k:Nat} (h:BF ms n Q i k) (hi:¬i<Q.length):∃ X,grpO ms n=some X∧X.length=Q.length:=by
 refine grpO_len h.nd h.gr (h.all hi) h.le ?_
 obtain ⟨X,h1,h2⟩:=srt_ex Q
 exact ⟨X,h1,fun x=>(h2 x).trans ⟨h.gr x,h.all hi x⟩⟩
noncomputable def ordN (ms:List (List Int)) (n:Nat):Int:=match grpO ms n with | some X=>X.length | none=>1001
def S_order (pg:Pg):Prop:=∀ (ms:List (List Int)) (n:Nat),Prms n ms→ms.length≤1000→0<n→n≤12→Call pg 380 [I n,tb ms,I 1000] [I n,tb ms,I 1000] (I (ordN ms n))
set_option maxRecDepth 10000 in
theorem t_groupOrder {pg:Pg} (hp:pg.fn 380=some c_impl_groupOrder) (h335:S_identity pg) (h312:S_text pg) (h277:S_then pg 277):S_order pg:=by
 intro ms n hm hml hn0 hn
 have hid:inN 12 (idL n):=fun v hv=>by
  simp only [idL,List.mem_map,List.mem_range] at hv
  obtain ⟨i,hi,rfl⟩:=hv
  omega
 have hgi:∀ x,GR ms n x→inN 12 x:=fun x hx v hv=>by have:=(hx.perm hm).2 v hv;omega
 refine Call.intro hp rfl (by simp) ?_
 show wp _ _ c_impl_groupOrder.body (post [.t 6] _ _ _) _
 simp [c_impl_groupOrder]
 refine callR (h335 n (by omega)) rfl rfl (fun _=>by simp) ?_
 simp
 refine callR (h312 (idL n) hid (by simp;omega)) rfl rfl (fun _=>rfl) ?_
 simp
 refine callR (h335 n (by omega)) rfl rfl (fun _=>by simp) ?_
 simp
 refine wpLoop_lower (α:=List (List Int)×Nat) (fun z=>1001-z.2) (fun z e=>(BF ms n z.1 z.2 0∧z.2≤z.1.length)∧e=fr [(1,some (.val (tb ms))),(2,some (.val (I 1000))),(7,some (.val (.set (z.1.map txt)))),(8,some (.val (.mem .own (some 1) (rows z.1)))),(9,some (.val (I z.2)))]) ?_ ([idL n],0) _ ⟨⟨BF.start ms n,by simp⟩,by simp [rows]⟩
 rintro ⟨Q,i⟩ e ⟨⟨g,gi⟩,rfl⟩
 simp only at g gi
 have hQl:=g.le
 by_cases hi:i<Q.length
 · simp [hi]
   refine wpLoop_count (fun k e=>ExT fun Q'=>(BF ms n Q' i k∧i<Q'.length)∧e=fr [(1,some (.val (tb ms))),(2,some (.val (I 1000))),(7,some (.val (.set (Q'.map txt)))),(8,some (.val (.mem .own (some 1) (rows Q')))),(9,some (.val (I i))),(28,some (.val (tb ms))),(29,some (.val (I ms.length))),(30,some (.val (I k)))]) ms.length ?_ ?_ 0 _ (by omega) (ExT.mk Q ⟨⟨g,hi⟩,by simp⟩)
   · clear g gi hi hQl
     rintro k e hk ⟨Q,⟨g,hi⟩,rfl⟩
     have hQl:=g.le
     have hpm:ms[k]∈ms:=List.getElem_mem hk
     have hx:=(g.gr _ (List.getElem_mem hi)).perm hm
     have hpl:=(hm _ hpm).1
     have hth:=h277 Q[i] ms[k] (by omega) (by rw [hpl];exact hx.2)
     have hnx:=(g.gr _ (List.getElem_mem hi)).step hpm
     have htx:=h312 (thenL Q[i] ms[k]) (hgi _ hnx) (by rw [thenL_length];omega)
     have hkey:txt (thenL Q[i] ms[k])∈Q.map txt↔thenL Q[i] ms[k]∈Q:=by
      rw [List.mem_map]
      constructor
      · rintro ⟨y,hy,he⟩
        exact txt_inj (hgi y (g.gr y hy)) (hgi _ hnx) he▸hy
      · exact fun hh=>⟨_,hh,rfl⟩
     have hold:=g.old hk hi
     have hnew:=g.new hk hi
     simp [hi,hk]
     refine callR hth rfl rfl (fun _=>by simp) ?_
     generalize hW:thenL Q[i] ms[k]=W at *
     simp
     refine callR htx rfl rfl (fun _=>rfl) ?_
     by_cases hin:W∈Q
     · have hk2:=hkey.2 hin
       generalize hK:Q.map txt=KS at *
       simp [hk2]
       refine ⟨by omega,ExT.mk Q ⟨⟨hold hin,hi⟩,by simp [hK]⟩⟩
     · have hk2:¬txt W∈Q.map txt:=fun hh=>hin (hkey.1 hh)
       obtain ⟨n1,n2,n3⟩:=hnew hin
       have hK2:(Q++[W]).map txt=Q.map txt++[txt W]:=by simp
       generalize hK:Q.map txt=KS at *
       by_cases h1000:Q.length=1000
       · have hno:ordN ms n=1001:=by
          unfold ordN
          rw [grpO_none n1 n2 (by simp;omega)]
         simp [hk2,h1000,hno]
       · have h1000':¬(Q.length:Int)=1000:=by omega
         simp [hk2,h1000',roomy]
         exact ⟨by omega,by omega,ExT.mk (Q++[W]) ⟨⟨n3 (by omega),by simp;omega⟩,by rw [hK2];simp [rows]⟩⟩
   · rintro e ⟨Q,⟨g,hi⟩,rfl⟩
     have hQl:=g.le
     simp
     exact ⟨by omega,Q,i+1,by omega,⟨g.up hi,by omega⟩,by simp⟩
 · obtain ⟨X,x1,x2⟩:=g.grp hi
   have:ordN ms n=Q.length:=by unfold ordN;rw [x1];simp [x2]
   simp [hi,this]
noncomputable def ordR (ms:List (List Int)) (n:Nat):Int:=match grpO ms n with | some X=>X.length | none=>0
noncomputable def ordC (ms:List (List Int)) (n:Nat):Int:=match grpO ms n with | some _=>0 | none=>3
theorem grpO_le {ms:List (List Int)} {n:Nat} {X:List (List Int)} (h:grpO ms n=some X):X.length≤1000∧Grp ms n X:=by
 unfold grpO at h
 split at h
 · rename_i hh
   cases h
   exact ⟨hh.choose_spec.2,hh.choose_spec.1⟩
 · cases h
def S_limited (pg:Pg):Prop:=∀ (ms:List (List Int)) (n:Nat),Prms n ms→ms.length≤1000→0<ms.length→0<n→n≤12→Call pg 270 [tb ms] [tb ms] (.tup [I (ordR ms n),I (ordC ms n)])
theorem t_limitedOrder {pg:Pg} (hp:pg.fn 270=some c_impl_limitedOrder) (h380:S_order pg):S_limited pg:=by
 intro ms n hm hml h0 hn0 hn
 have hr:=(hm _ (List.getElem_mem h0)).1
 have ho:=h380 ms n hm hml hn0 hn
 refine Call.intro hp rfl (by simp) ?_
 show wp _ _ c_impl_limitedOrder.body (post [.t 2,.t 3] _ _ _) _
 simp [c_impl_limitedOrder,h0,hr]
 refine callR ho rfl rfl (fun _=>rfl) ?_
 cases hg:grpO ms n with
 | none =>
  simp [ordN,ordR,ordC,hg]
 | some X =>
  have:=(grpO_le hg).1
  have h2:¬1000<(X.length:Int):=by omega
  have h3:(X.length:Int)≤1000:=by omega
  simp [ordN,ordR,ordC,hg,h2]
end Go.Mch
namespace Go.Mch

def rowsF (X:List (List Int)):List T:=X.map fun xs=>.mem .fresh (some 1) (xs.map I)
@[simp] theorem rowsF_length (X:List (List Int)):(rowsF X).length=X.length:=by simp [rowsF]
@[simp] theorem noOwnL_rowsF (X:List (List Int)):T.noOwnL (rowsF X)=true:=by
 induction X with
 | nil=>rfl
 | cons x X ih=>simp only [rowsF,List.map_cons] at ih ⊢;simp [ih]
@[simp] theorem eryL_rowsF (X:List (List Int)):T.eryL .old (rowsF X)=tbL X:=by
 induction X with
 | nil=>rfl
 | cons x X ih=>simp only [rowsF,tbL,List.map_cons] at ih ⊢;simp [ih]
@[simp] theorem rowsF_getElem {X:List (List Int)} {k:Nat} (h:k<(rowsF X).length):(rowsF X)[k]=.mem .fresh (some 1) ((X[k]'(by simpa using h)).map I):=by simp [rowsF]
theorem rowsF_snoc (X:List (List Int)) (w:List Int):rowsF (X++[w])=rowsF X++[.mem .fresh (some 1) (w.map I)]:=by simp [rowsF]
def Rds (ts:List T) (X:List (List Int)):Prop:=T.eryL .old ts=tbL X∧T.noOwnL ts=true∧T.lendL ts=tbL X∧ts.length=X.length
theorem Rds.fresh (X:List (List Int)):Rds (rowsF X) X:=⟨by simp,by simp,by
 induction X with
 | nil=>rfl
 | cons x X ih=>simp only [rowsF,tbL,List.map_cons] at ih ⊢;simp [ih],by simp⟩
theorem Rds.old (X:List (List Int)):Rds (tbL X) X:=⟨by simp,by simp,by
 induction X with
 | nil=>rfl
 | cons x X ih=>simp only [tbL,List.map_cons] at ih ⊢;simp [ih],by simp⟩
def ExTT (P:List (List Int)→List (List Int)→List T→Prop):Prop:=∃ F S ts,P F S ts
theorem ExTT.mk {P:List (List Int)→List (List Int)→List T→Prop} (F S:List (List Int)) (ts:List T) (h:P F S ts):ExTT P:=⟨F,S,ts,h⟩
def grpT:Option (List (List Int))→T
 | some X=>.tup [.mem .own (some 1) (rows X),B true]
 | none=>.tup [nil,B false]
def S_group (pg:Pg):Prop:=∀ (ms:List (List Int)) (n:Nat),Prms n ms→ms.length≤1000→0<n→n≤12→Call pg 343 [I n,tb ms,I 1000] [I n,tb ms,I 1000] (grpT (grpO ms n))
set_option maxRecDepth 10000 in
theorem t_l01Group {pg:Pg} (hp:pg.fn 343=some c_spec_l01Group) (h334:S_unit pg) (h279:S_then pg 279) (h349:S_put pg) (h280:S_copyT pg 280):S_group pg:=by
 intro ms n hm hml hn0 hn
 refine Call.intro hp rfl (by simp) ?_
 show wp _ _ c_spec_l01Group.body (post [.t 6,.t 7] _ _ _) _
 simp [c_spec_l01Group]
 refine callR (h334 n (by omega)) rfl rfl (fun _=>by simp) ?_
 simp
 refine callR (h334 n (by omega)) rfl rfl (fun _=>by simp) ?_
 simp
 refine wpLoop_lower (α:=(List (List Int)×List (List Int)×List T)×Nat) (fun z=>1001-z.2) (fun z e=>(BF ms n z.1.1 z.2 0∧z.2≤z.1.1.length∧Srt z.1.2.1∧(∀ x,x∈z.1.2.1↔x∈z.1.1)∧Rds z.1.2.2 z.1.2.1)∧e=fr [(1,some (.val (tb ms))),(2,some (.val (I 1000))),(8,some (.val (.mem .own (some 1) (rowsF z.1.1)))),(9,some (.val (.mem .own (some 1) z.1.2.2))),(10,some (.val (I z.2)))]) ?_ (([idL n],[idL n],rowsF [idL n]),0) _ ⟨⟨BF.start ms n,by simp,by simp [Srt],by simp,Rds.fresh _⟩,by simp [rowsF]⟩
 rintro ⟨⟨Q,S,ts⟩,i⟩ e ⟨⟨g,gi,gs,gm,gr⟩,rfl⟩
 simp only at g gi gs gm gr
 have hQl:=g.le
 by_cases hi:i<Q.length
 · simp [hi]
   refine wpLoop_count (fun k e=>ExTT fun Q' S' ts'=>(BF ms n Q' i k∧i<Q'.length∧Srt S'∧(∀ x,x∈S'↔x∈Q')∧Rds ts' S')∧e=fr [(1,some (.val (tb ms))),(2,some (.val (I 1000))),(8,some (.val (.mem .own (some 1) (rowsF Q')))),(9,some (.val (.mem .own (some 1) ts'))),(10,some (.val (I i))),(11,some (.val (I k)))]) ms.length ?_ ?_ 0 _ (by omega) (ExTT.mk Q S ts ⟨⟨g,hi,gs,gm,gr⟩,by simp⟩)
   · clear g gi hi hQl gs gm gr
     rintro k e hk ⟨Q,S,ts,⟨g,hi,gs,gm,gr⟩,rfl⟩
     have hQl:=g.le
     have hpm:ms[k]∈ms:=List.getElem_mem hk
     have hx:=(g.gr _ (List.getElem_mem hi)).perm hm
     have hpl:=(hm _ hpm).1
     have hth:=h279 Q[i] ms[k] (by omega) (by rw [hpl];exact hx.2)
     have hSl:=len_of_same gs.nodup g.nd gm
     obtain ⟨S',b,args',p1,p2,p3,p4,p5,p6⟩:=h349 S (thenL Q[i] ms[k]) gs (by omega) (fun x hx=>by have:=((g.gr x ((gm x).1 hx)).perm hm).1;omega) (by rw [thenL_length];omega)
     have hold:=g.old hk hi
     have hnew:=g.new hk hi
     obtain ⟨r1,r2,r3,r4⟩:=gr
     simp [hi,hk]
     refine callR hth rfl rfl (fun _=>by simp) ?_
     generalize hW:thenL Q[i] ms[k]=W at *
     obtain ⟨a1,a2,rfl⟩:∃ a1 a2,args'=[a1,a2]:=by
      cases args' with
      | nil=>simp at p5
      | cons a1 l=>cases l with
       | nil=>simp at p5
       | cons a2 l=>cases l with
        | nil=>exact ⟨a1,a2,rfl⟩
        | cons=>simp at p5
     simp
     refine callM (ts':=[a1,a2]) (r:=.tup [.mem .own (some 1) (tbL S'),B b]) ?_ ?_ ?_ ?_
     · simp
     · simpa [r3] using p6
     · simp
     · have hWS:W∈S↔W∈Q:=gm W
       by_cases hin:W∈Q
       · have hb:b=false:=by
          cases b with
          | false=>rfl
          | true=>exact absurd (hWS.2 hin) (p3.1 rfl)
         subst hb
         have hgt:¬1000<(Q.length:Int):=by omega
         simp [hgt]
         refine ⟨by omega,ExTT.mk Q S' (tbL S') ⟨⟨hold hin,hi,p1,fun x=>?_,Rds.old _⟩,by simp⟩⟩
         rw [p2,gm]
         exact ⟨fun h=>h.elim id fun h=>h▸hin,.inl⟩
       · have hb:b=true:=p3.2 fun h=>hin (hWS.1 h)
         subst hb
         obtain ⟨n1,n2,n3⟩:=hnew hin
         by_cases h1000:Q.length=1000
         · have hno:grpO ms n=none:=grpO_none n1 n2 (by simp;omega)
           simp [h1000,roomy,hno,grpT]
         · have hlt:¬1000<(Q.length:Int)+1:=by omega
           have hle:(Q.length:Int)+1≤1000:=by omega
           have hle2:Q.length+1≤1000:=by omega
           have hro:Q.length+1≤roomy:=by unfold roomy;omega
           simp [hlt,hro]
           refine ⟨by omega,ExTT.mk (Q++[W]) S' (tbL S') ⟨⟨n3 (by omega),by simp;omega,p1,fun x=>?_,Rds.old _⟩,by rw [rowsF_snoc]⟩⟩
           rw [p2,gm,List.mem_append,List.mem_singleton]
   · rintro e ⟨Q,S,ts,⟨g,hi,gs,gm,gr⟩,rfl⟩
     have hQl:=g.le
     simp
     exact ⟨by omega,Q,S,ts,i+1,by omega,⟨g.up hi,by omega,gs,gm,gr⟩,by simp⟩
 · have hX:Grp ms n S:=⟨gs,fun x=>(gm x).trans ⟨g.gr x,g.all hi x⟩⟩
   have hSl:=len_of_same gs.nodup g.nd gm
   have hs:=grpO_some hX (by omega)
   obtain ⟨r1,r2,r3,r4⟩:=gr
   have hcp:=h280 S ⟨by omega,fun r hr=>by have:=((g.gr r ((gm r).1 hr)).perm hm).1;omega⟩
   have hw:win ts 0 ts.length=ts:=by simp [win]
   simp [hi,hw,r1]
   refine callR hcp rfl rfl (fun _=>by simp) ?_
   simp [hs,grpT]


def S_l07Order (pg:Pg):Prop:=∀ (f s ms:List (List Int)),PM f s→Prms f.length ms→ms.length≤1000→Call pg 272 [sol f s,tb ms] [sol f s,tb ms] (.tup [I (ordR ms f.length),I (ordC ms f.length)])
theorem t_l07Order {pg:Pg} (hp:pg.fn 272=some c_spec_l07Order) (h343:S_group pg):S_l07Order pg:=by
 intro f s ms h hm hml
 have h12:=h.small
 have h0:=h.pos
 have hg:=h343 ms f.length hm hml h0 h12
 refine Call.intro hp rfl (by simp) ?_
 show wp _ _ c_spec_l07Order.body (post [.t 4,.t 5] _ _ _) _
 simp [c_spec_l07Order]
 cases hgr:grpO ms f.length with
 | none =>
  rw [hgr] at hg
  refine callR hg rfl rfl (fun _=>by simp [grpT]) ?_
  simp [grpT,ordR,ordC,hgr]
 | some X =>
  have:=(grpO_le hgr).1
  rw [hgr] at hg
  refine callR hg rfl rfl (fun _=>by simp [grpT]) ?_
  simp [grpT,ordR,ordC,hgr]
noncomputable def goR (w:List (List Int)→List (List Int)→List (List Int)) (f s:List (List Int)):Int:=onReg 0 (fun f s=>ordR (w f s) f.length) f s
noncomputable def goC (w:List (List Int)→List (List Int)→List (List Int)) (f s:List (List Int)):Int:=onReg 1 (fun f s=>ordC (w f s) f.length) f s
def S_go (pg:Pg) (n:Nat) (w:List (List Int)→List (List Int)→List (List Int)):Prop:=∀ f s:List (List Int),fits f→fits s→Call pg n [sol f s] [sol f s] (.tup [I (goR w f s),I (goC w f s)])
def wL (f _:List (List Int)):List (List Int):=f
def wR (_ s:List (List Int)):List (List Int):=turnL s
def wB (f s:List (List Int)):List (List Int):=f++turnL s
def S_goL (pg:Pg) (n:Nat):Prop:=S_go pg n wL
def S_goR (pg:Pg) (n:Nat):Prop:=S_go pg n wR
def S_goB (pg:Pg) (n:Nat):Prop:=S_go pg n wB
theorem prmsL {f s:List (List Int)} (h:PM f s) (hn:nonDeg f s):Prms f.length f∧Prms f.length (turnL s):=by
 have:=prms_of h hn
 exact ⟨fun p hp=>this p (List.mem_append.2 (.inl hp)),fun p hp=>this p (List.mem_append.2 (.inr hp))⟩
theorem t_goL_impl {pg:Pg} (hp:pg.fn 133=some c_impl_LeftGroupOrder) (h266:S_reg pg 266) (h270:S_limited pg):S_goL pg 133:=by
 intro f s hf hs
 refine Call.intro hp rfl (by simp) ?_
 show wp _ _ c_impl_LeftGroupOrder.body (post [.t 2,.t 3] _ _ _) _
 simp [c_impl_LeftGroupOrder]
 refine callR (h266 f s hf hs) rfl rfl (fun _=>rfl) ?_
 by_cases h:isReg f s
 · have hpm:=PM.of h.1.1
   have h12:=hpm.small
   have h0:=hpm.pos
   simp [dec_true h,goR,goC,onReg_true h]
   refine callR (h270 f f.length (prmsL hpm h.2).1 (by omega) h0 h0 h12) rfl rfl (fun _=>by simp) ?_
   simp [wL]
 · simp [dec_false h,goR,goC,onReg_false h]
theorem t_goR_impl {pg:Pg} (hp:pg.fn 134=some c_impl_RightGroupOrder) (h266:S_reg pg 266) (h267:S_turn pg 267) (h270:S_limited pg):S_goR pg 134:=by
 intro f s hf hs
 refine Call.intro hp rfl (by simp) ?_
 show wp _ _ c_impl_RightGroupOrder.body (post [.t 2,.t 3] _ _ _) _
 simp [c_impl_RightGroupOrder]
 refine callR (h266 f s hf hs) rfl rfl (fun _=>rfl) ?_
 by_cases h:isReg f s
 · have hpm:=PM.of h.1.1
   have h12:=hpm.small
   have h0:=hpm.pos
   have hsl:=hpm.len
   have htl:=turnL_length s
   simp [dec_true h,goR,goC,onReg_true h]
   refine callR (h267 s hpm.ts (by omega)) rfl rfl (fun _=>by simp) ?_
   have hc:=h270 (turnL s) f.length (prmsL hpm h.2).2 (by omega) (by omega) h0 h12
   have hw:wR f s=turnL s:=rfl
   rw [hw]
   generalize turnL s=U at *
   simp
   refine callR hc rfl rfl (fun _=>by simp) ?_
   simp
 · simp [dec_false h,goR,goC,onReg_false h]
theorem t_goB_spec {pg:Pg} (hp:pg.fn 131=some c_spec_WholeGroupOrder) (h264:S_reg pg 264) (h273:S_both pg) (h272:S_l07Order pg):S_goB pg 131:=by
 intro f s hf hs
 refine Call.intro hp rfl (by simp) ?_
 show wp _ _ c_spec_WholeGroupOrder.body (post [.t 2,.t 3] _ _ _) _
 simp [c_spec_WholeGroupOrder]
 refine callR (h264 f s hf hs) rfl rfl (fun _=>rfl) ?_
 by_cases h:isReg f s
 · have hpm:=PM.of h.1.1
   have h12:=hpm.small
   have hsl:=hpm.len
   have htl:(f++turnL s).length=f.length+s.length:=by simp
   simp [dec_true h,goR,goC,onReg_true h]
   refine callR (h273 f s hpm) rfl rfl (fun _=>by simp) ?_
   have hc:=h272 f s (f++turnL s) hpm (prms_of hpm h.2) (by omega)
   have hw:wB f s=f++turnL s:=rfl
   rw [hw]
   generalize f++turnL s=U at *
   simp
   refine callR hc rfl rfl (fun _=>by simp) ?_
   simp
 · simp [dec_false h,goR,goC,onReg_false h]
theorem t_goB_impl {pg:Pg} (hp:pg.fn 130=some c_impl_WholeGroupOrder) (h266:S_reg pg 266) (h271:S_whole pg) (h270:S_limited pg):S_goB pg 130:=by
 intro f s hf hs
 refine Call.intro hp rfl (by simp) ?_
 show wp _ _ c_impl_WholeGroupOrder.body (post [.t 2,.t 3] _ _ _) _
 simp [c_impl_WholeGroupOrder]
 refine callR (h266 f s hf hs) rfl rfl (fun _=>rfl) ?_
 by_cases h:isReg f s
 · have hpm:=PM.of h.1.1
   have h12:=hpm.small
   have h0:=hpm.pos
   have hsl:=hpm.len
   have htl:(f++turnL s).length=f.length+s.length:=by simp
   simp [dec_true h,goR,goC,onReg_true h]
   refine callR (h271 f s hpm) rfl rfl (fun hh=>by simp at hh) ?_
   have hc:=h270 (f++turnL s) f.length (prms_of hpm h.2) (by omega) (by omega) h0 h12
   have hw:wB f s=f++turnL s:=rfl
   rw [hw]
   generalize f++turnL s=U at *
   simp
   refine callR hc rfl rfl (fun _=>by simp) ?_
   simp
 · simp [dec_false h,goR,goC,onReg_false h]
end Go.Mch
namespace Go.Mch

def cd3:Option (List (List Int))→Int
 | some _=>0
 | none=>3
theorem dj_of {Q:List (List Int)} (h:Q.Nodup):Dj Q:=fun k k' hk hk' he=>by
 rw [← gt_at hk,← gt_at hk'] at he
 have:=List.pairwise_iff_getElem.1 h
 rcases Nat.lt_trichotomy k k' with h1 | h1 | h1
 · exact absurd he (this k k' hk hk' h1)
 · exact h1
 · exact absurd he.symm (this k' k hk' hk h1)
end Go.Mch
namespace Go.Mch

def pre (f s:List (List Int)) (u v:Nat) (x y:Nat):Prop:=x<f.length∧y<f.length∧σN f x y=u∧τN s y x=v
noncomputable def preX (f s:List (List Int)) (u v:Nat):Nat:=by
 classical exact if h:∃ x,∃ y,pre f s u v x y then Classical.choose h else 0
noncomputable def preY (f s:List (List Int)) (u v:Nat):Nat:=by
 classical exact if h:∃ y,∃ x,pre f s u v x y then Classical.choose h else 0
noncomputable def invF (f s:List (List Int)):List (List Int):=tabL f.length fun u v=>(preX f s u v:Int)
noncomputable def invS (f s:List (List Int)):List (List Int):=tabL f.length fun u v=>(preY f s u v:Int)

end Go.Mch
namespace Go.Mch

def isWd (n:Int) (w:List Int):Prop:=inR 0 (n-1) w∧w.length≤8
instance (n:Int) (w:List Int):Decidable (isWd n w):=by unfold isWd;infer_instance

noncomputable def cMv (f s:List (List Int)) (x:List Int) (p:Nat):List Int:=if p % 2=0 then dW f s x (p / 2) else dW (invF f s) (invS f s) x (p / 2)

theorem frzRowsF (X:List (List Int)):T.frzL .fresh (rows X)=rowsF X:=by
 induction X with
 | nil=>rfl
 | cons x X ih=>simp only [rows,rowsF,List.map_cons] at ih ⊢;simp [ih]
end Go.Mch
namespace Go.Mch


def hd0 (X:List (List Int)):List Int:=X.getD 0 []
end Go.Mch
namespace Go.Mch

section
variable {mv mv':List Int→Nat→List Int} {m m':Nat} {w x y:List Int}
end

def Eqw (f s:List (List Int)) (u v:List Int):Prop:=TR (cMv f s) (2*(u.length-1)) u v
section
variable {f s:List (List Int)} (h:PM f s) (hi:Inj f s)
include h hi
end
end Go.Mch
namespace Go.Mch

theorem frz_tb (X:List (List Int)) (y:Value):T.frz .fresh (.tup [.mem .own (some 1) (rows X),.sc y])=.tup [.mem .fresh (some 1) (rowsF X),.sc y]:=by
 show T.tup [T.mem .fresh (some 1) (T.frzL .fresh (rows X)),.sc y]=_
 rw [frzRowsF]


end Go.Mch
namespace Go.Mch

def iv (f s:List (List Int)) (x y:Nat):Prop:=v2 f (σN f x y) (τN s y x)=x∧v2 s (σN f x y) (τN s y x)=y
instance (f s:List (List Int)) (x y:Nat):Decidable (iv f s x y):=by unfold iv;infer_instance
def isInv (f s:List (List Int)):Prop:=∀ x,x<f.length→∀ y,y<f.length→iv f s x y
def S_twice (pg:Pg) (n:Nat):Prop:=∀ f s:List (List Int),PM f s→Call pg n [sol f s] [sol f s] (B (dec (isInv f s)))
set_option maxRecDepth 10000 in
theorem t_l02Twice {pg:Pg} (hp:pg.fn 351=some c_spec_l02Twice):S_twice pg 351:=by
 intro f s h
 have h0:=h.pos
 have h12:=h.small
 have hls:=h.len
 have fr':=fun x hx=>h.tf.row (x:=x) hx
 have sr':∀ x (hx:x<s.length),(s[x]).length=f.length:=fun x hx=>(h.ts.row hx).trans hls
 refine Call.intro hp rfl (by simp) ?_
 show wp _ _ c_spec_l02Twice.body (post [.t 2] _ _ _) _
 simp [c_spec_l02Twice]
 refine wpLoop_count (fun a e=>(∀ x,x<a→∀ y,y<f.length→iv f s x y)∧e=fr [(1,some (.val (.mem .own none [tb f,tb s]))),(3,some (.val (I a)))]) f.length ?_ ?_ 0 _ (by omega) ⟨fun x hx=>by omega,by simp⟩
 · rintro a e ha ⟨h1,rfl⟩
   simp [ha]
   refine wpLoop_count (fun b e=>(∀ y,y<b→iv f s a y)∧e=fr [(1,some (.val (.mem .own none [tb f,tb s]))),(3,some (.val (I a))),(4,some (.val (I b)))]) f.length ?_ ?_ 0 _ (by omega) ⟨fun x hx=>by omega,by simp⟩
   · rintro b e hb ⟨h2,rfl⟩
     have hf:=h.v2f a b
     have hs2:=h.v2s a b
     have has:a<s.length:=by omega
     have hfr:=fr' a ha
     have hsr:=sr' a has
     have hfg:(f[a])[b]'(by omega)=v2 f a b:=get_v2 _ _
     have hsg:(s[a])[b]'(by omega)=v2 s a b:=get_v2 _ _
     have hiv:iv f s a b↔v2 f (σN f a b) (τN s b a)=a∧v2 s (σN f a b) (τN s b a)=b:=Iff.rfl
     have hf3:=h.v2f (σN f a b) (τN s b a)
     have hs3:=h.v2s (σN f a b) (τN s b a)
     obtain ⟨hf1,hf2⟩:=hf
     obtain ⟨hs1,hs2⟩:=hs2
     rw [← hf1] at hfg
     rw [← hs1] at hsg
     generalize σN f a b=u at *
     generalize τN s b a=v at *
     have hus:u<s.length:=by omega
     have hfu:=fr' u hf2
     have hsu:=sr' u hus
     have hfg2:(f[u])[v]'(by omega)=v2 f u v:=get_v2 _ _
     have hsg2:(s[u])[v]'(by omega)=v2 s u v:=get_v2 _ _
     by_cases hx:v2 f u v=a
     · by_cases hy:v2 s u v=b
       · simp [ha,hb,has,hfr,hsr,hfg,hsg,hf2,hs2,hus,hfu,hsu,hfg2,hsg2,hx,hy]
         refine ⟨by omega,fun y hyb=>?_⟩
         rcases Nat.lt_or_ge y b with h3 | h3
         · exact h2 y h3
         · have:y=b:=by omega
           subst this
           exact hiv.2 ⟨hx,hy⟩
       · have hn:¬isInv f s:=fun hh=>hy (hiv.1 (hh a ha b hb)).2
         simp [ha,hb,has,hfr,hsr,hfg,hsg,hf2,hs2,hus,hfu,hsu,hfg2,hsg2,hx,hy,dec_false hn]
     · have hn:¬isInv f s:=fun hh=>hx (hiv.1 (hh a ha b hb)).1
       simp [ha,hb,has,hfr,hsr,hfg,hsg,hf2,hs2,hfu,hfg2,hx,dec_false hn,undefV]
   · rintro e ⟨h2,rfl⟩
     simp
     refine ⟨by omega,fun x hx y hy=>?_⟩
     rcases Nat.lt_or_ge x a with h3 | h3
     · exact h1 x h3 y hy
     · have:x=a:=by omega
       subst this
       exact h2 y hy
 · rintro e ⟨h1,rfl⟩
   have hn:isInv f s:=fun x hx y hy=>h1 x hx y hy
   simp [dec_true hn]


end Go.Mch
namespace Go.Mch

def RowIn (n:Nat) (r:List Int):Prop:=r.length=n∧∀ v∈r,0≤v∧v<n
def TabN (n:Nat) (t:List (List Int)):Prop:=t.length=n∧∀ r∈t,RowIn n r
abbrev ownL (p:List Int):T:=.mem .own (some 1) (p.map I)
abbrev ownTb (t:List (List Int)):T:=.mem .own (some 1) (rows t)
theorem RowIn.set {n i:Nat} {r:List Int} {v:Int} (h:RowIn n r) (hv:0≤v∧v<n):RowIn n (r.set i v):=by
 refine ⟨by simpa using h.1,fun x hx=>?_⟩
 rcases List.mem_or_eq_of_mem_set hx with h1 | h1
 · exact h.2 x h1
 · rw [h1];exact hv
theorem RowIn.swap {n i j:Nat} {r:List Int} (h:RowIn n r) (hd:r.Nodup) (hi:i<r.length) (hj:j<r.length):RowIn n ((r.set i r[j]).set j r[i])∧((r.set i r[j]).set j r[i]).Nodup :=
 ⟨(h.set (h.2 _ (List.getElem_mem hj))).set (h.2 _ (List.getElem_mem hi)),(List.set_set_perm hi hj).nodup_iff.2 hd⟩
theorem idL_rowIn (n:Nat):RowIn n (idL n)∧(idL n).Nodup:=by
 refine ⟨⟨by simp [idL],fun v hv=>?_⟩,?_⟩
 · simp only [idL,List.mem_map,List.mem_range] at hv
   obtain ⟨i,hi,rfl⟩:=hv
   omega
 · unfold idL
   exact List.Pairwise.map _ (fun a b h=>by omega) List.nodup_range
theorem S_nxt.at {pg:Pg} (h:S_nxt pg) {c:Rw Int} {s:Int×Int} (hs:Sr c s) {n:Nat} (hn:0<n):∃ (s':Int×Int) (r:Nat),(Sr c s'∧r<n)∧Call pg 336 [src c s,I n] [src c s',I n] (I r):=by
 obtain ⟨s',r,⟨g1,g2,g3,_⟩,hc⟩:=h c s n hs
 have g3:=g3 (by omega)
 obtain ⟨i,rfl⟩:∃ i:Nat,r=i:=⟨r.toNat,by omega⟩
 exact ⟨s',i,⟨g1,by omega⟩,hc⟩
def S_drw (pg:Pg):Prop:=∀ (c:Rw Int) (s:Int×Int) (n:Nat),Sr c s→n≤64→∃ (s':Int×Int) (p:List Int),(Sr c s'∧RowIn n p∧p.Nodup)∧Call pg 368 [src c s,I n] [src c s',I n] (ownL p)
set_option maxRecDepth 10000 in
theorem t_drw {pg:Pg} (hp:pg.fn 368=some c_spec_l01Draw) (h336:S_nxt pg) (h334:S_unit pg):S_drw pg:=by
 intro c s n hs hn
 have hfind:=Call.findA (α:=(Int×Int)×List Int) (Q:=fun Y=>Sr c Y.1∧RowIn n Y.2∧Y.2.Nodup) (args:=[src c s,I n]) (args':=fun Y=>[src c Y.1,I n]) (r:=fun Y=>ownL Y.2) hp rfl (by simp [F.lets,c_spec_l01Draw,List.range,List.range.loop]) (by simp [kindOf]) ?_
 · obtain ⟨Y,h1,h2⟩:=hfind
   exact ⟨_,_,h1,h2⟩
 show wp _ _ c_spec_l01Draw.body (postX _ [.t 4] _ _ _) _
 generalize hR:postX (fun Y:(Int×Int)×List Int=>Sr c Y.1∧RowIn n Y.2∧Y.2.Nodup) [.t 4] [src c s,I n] (fun Y=>[src c Y.1,I n]) (fun Y=>ownL Y.2)=R
 simp [c_spec_l01Draw]
 refine callR (h334 n (by omega)) rfl rfl (fun _=>by simp) ?_
 simp
 refine ⟨by omega,?_⟩
 refine wpLoop_lower (α:=((Int×Int)×List Int)×Nat) (fun z=>z.2) (fun z e=>(Sr c z.1.1∧RowIn n z.1.2∧z.1.2.Nodup)∧z.2≤n∧e=fr [(0,some (.val (src c z.1.1))),(1,some (.val (I n))),(5,some (.val (ownL z.1.2))),(6,some (.val (I ((z.2:Int)-1))))]) ?_ ((s,idL n),n) _ ⟨⟨hs,(idL_rowIn n).1,(idL_rowIn n).2⟩,Nat.le_refl _,rfl⟩
 rintro ⟨⟨s1,p⟩,j⟩ e ⟨⟨g1,g2,g3⟩,g4,rfl⟩
 simp only at g1 g2 g3 g4
 by_cases hj:2≤j
 · obtain ⟨i,rfl⟩:∃ i,j=i+1:=⟨j-1,by omega⟩
   obtain ⟨s2,r,⟨k1,k2⟩,hc⟩:=h336.at g1 (n:=i+1) (by omega)
   have hi:0<i:=by omega
   have hil:i<p.length:=by rw [g2.1];omega
   have hrl:r<p.length:=by rw [g2.1];omega
   have hsw:=g2.swap g3 hil hrl
   simp [hi]
   refine ⟨by omega,?_⟩
   refine callS (ts':=[rawB c,I s2.1,H64 s2.2]) (r:=I r) (by simpa using hc) ?_
   simp [hil,hrl]
   exact ⟨by omega,by omega,by omega,s2.1,s2.2,(p.set i p[r]).set r p[i],i,by omega,⟨k1,hsw.1,hsw.2⟩,by omega,by simp only [ownL,List.map_set]⟩
 · have hj':¬(1:Int)<(j:Int):=by omega
   simp [hj']
   subst hR
   exact ⟨(s1,p),⟨g1,g2,g3⟩,by simp [post]⟩
theorem rows_snoc (t:List (List Int)) (q:List Int):rows (t++[q])=rows t++[ownL q]:=by simp [rows]
theorem TabN.snoc {n k:Nat} {t:List (List Int)} {r:List Int} (h:t.length=k∧∀ r∈t,RowIn n r) (hr:RowIn n r):(t++[r]).length=k+1∧∀ x∈t++[r],RowIn n x :=
 ⟨by simp [h.1],fun x hx=>by
  rcases List.mem_append.1 hx with h1 | h1
  · exact h.2 x h1
  · rw [List.mem_singleton.1 h1];exact hr⟩
def S_tbs (pg:Pg):Prop:=∀ (c:Rw Int) (s:Int×Int) (n:Nat),Sr c s→0<n→n≤64→∃ (s':Int×Int) (t:List (List Int)),(Sr c s'∧TabN n t)∧Call pg 428 [src c s,I n] [src c s',I n] (ownTb t)
set_option maxRecDepth 10000 in
theorem t_tbs {pg:Pg} (hp:pg.fn 428=some c_spec_l01Tables) (h336:S_nxt pg) (h368:S_drw pg):S_tbs pg:=by
 intro c s n hs h0 hn
 have hfind:=Call.findA (α:=(Int×Int)×List (List Int)) (Q:=fun Y=>Sr c Y.1∧TabN n Y.2) (args:=[src c s,I n]) (args':=fun Y=>[src c Y.1,I n]) (r:=fun Y=>ownTb Y.2) hp rfl (by simp [F.lets,c_spec_l01Tables,List.range,List.range.loop]) (by simp [kindOf]) ?_
 · obtain ⟨Y,h1,h2⟩:=hfind
   exact ⟨_,_,h1,h2⟩
 show wp _ _ c_spec_l01Tables.body (postX _ [.t 4] _ _ _) _
 generalize hR:postX (fun Y:(Int×Int)×List (List Int)=>Sr c Y.1∧TabN n Y.2) [.t 4] [src c s,I n] (fun Y=>[src c Y.1,I n]) (fun Y=>ownTb Y.2)=R
 obtain ⟨s1,kd,⟨k1,_⟩,hc1⟩:=h336.at hs (n:=3) (by omega)
 obtain ⟨s2,p,⟨k2,k3,_⟩,hc2⟩:=h368 c s1 n k1 hn
 simp [c_spec_l01Tables]
 refine callS (ts':=[rawB c,I s1.1,H64 s1.2]) (r:=I kd) (by simpa using hc1) ?_
 simp
 refine callS (ts':=[rawB c,I s2.1,H64 s2.2]) (r:=ownL p) (by simpa using hc2) ?_
 simp
 refine wpLoop_count (fun k e=>∃ (s3:Int×Int) (t:List (List Int)),(Sr c s3∧t.length=k∧∀ r∈t,RowIn n r)∧e=fr [(0,some (.val (src c s3))),(1,some (.val (I n))),(5,some (.val (ownTb t))),(6,some (.val (I kd))),(7,some (.val (ownL p))),(8,some (.val (I k)))]) n ?_ ?_ 0 _ (by omega) ⟨s2,[],⟨k2,rfl,by simp⟩,rfl⟩
 · rintro k e hk ⟨s3,t,⟨g1,g2,g3⟩,rfl⟩
   obtain ⟨s4,q,⟨j1,j2,_⟩,hc3⟩:=h368 c s3 n g1 hn
   simp [hk]
   refine callS (ts':=[rawB c,I s4.1,H64 s4.2]) (r:=ownL q) (by simpa using hc3) ?_
   simp
   by_cases hk0:kd=0
   · simp [hk0]
     refine wpLoop_count (fun j e=>∃ (s5:Int×Int) (q:List Int),(Sr c s5∧RowIn n q)∧e=fr [(0,some (.val (src c s5))),(1,some (.val (I n))),(5,some (.val (ownTb t))),(6,some (.val (I 0))),(7,some (.val (ownL p))),(8,some (.val (I k))),(9,some (.val (ownL q))),(10,some (.val (I j)))]) n ?_ ?_ 0 _ (by omega) ⟨s4,q,⟨j1,j2⟩,by simp⟩
     · rintro j e hj ⟨s5,q,⟨i1,i2⟩,rfl⟩
       obtain ⟨s6,r,⟨m1,m2⟩,hc4⟩:=h336.at i1 (n:=n) h0
       have hl:j<q.length:=by rw [i2.1];exact hj
       simp [hj]
       refine callS (ts':=[rawB c,I s6.1,H64 s6.2]) (r:=I r) (by simpa using hc4) ?_
       simp [hl]
       exact ⟨by omega,by omega,s6.1,s6.2,q.set j r,⟨m1,i2.set ⟨by omega,by omega⟩⟩,by simp only [ownL,List.map_set]⟩
     · rintro e ⟨s5,q,⟨i1,i2⟩,rfl⟩
       simp
       exact ⟨by unfold roomy;omega,by omega,s5.1,s5.2,t++[q],⟨i1,(TabN.snoc ⟨g2,g3⟩ i2).1,(TabN.snoc ⟨g2,g3⟩ i2).2⟩,by simp only [ownTb,rows_snoc]⟩
   · by_cases hk1:kd=1
     · simp [hk1]
       refine wpLoop_count (fun j e=>∃ (q:List Int),RowIn n q∧e=fr [(0,some (.val (src c s4))),(1,some (.val (I n))),(5,some (.val (ownTb t))),(6,some (.val (I 1))),(7,some (.val (ownL p))),(8,some (.val (I k))),(9,some (.val (ownL q))),(11,some (.val (I j)))]) n ?_ ?_ 0 _ (by omega) ⟨q,j2,by simp⟩
       · rintro j e hj ⟨q,i2,rfl⟩
         have hl:j<q.length:=by rw [i2.1];exact hj
         obtain ⟨m,hm,hm2⟩:∃ m:Nat,((k:Int)+j).tmod n=m∧m<p.length:=⟨(k+j) % n,by rw [Int.tmod_eq_emod_of_nonneg (by omega),Int.natCast_emod,Int.natCast_add],by rw [k3.1];exact Nat.mod_lt _ h0⟩
         have hn0:¬n=0:=by omega
         have hv:=k3.2 _ (List.getElem_mem hm2)
         simp [hj,hl,hm,hm2,hn0]
         exact ⟨by omega,by omega,by omega,q.set j p[m],i2.set hv,by simp only [ownL,List.map_set]⟩
       · rintro e ⟨q,i2,rfl⟩
         simp
         exact ⟨by unfold roomy;omega,by omega,s4.1,s4.2,t++[q],⟨j1,(TabN.snoc ⟨g2,g3⟩ i2).1,(TabN.snoc ⟨g2,g3⟩ i2).2⟩,by simp only [ownTb,rows_snoc]⟩
     · have hk1':¬(kd:Int)=1:=by omega
       simp [hk0,hk1']
       exact ⟨by unfold roomy;omega,by omega,s4.1,s4.2,t++[q],⟨j1,(TabN.snoc ⟨g2,g3⟩ j2).1,(TabN.snoc ⟨g2,g3⟩ j2).2⟩,by simp only [ownTb,rows_snoc]⟩
 · rintro e ⟨s3,t,⟨g1,g2,g3⟩,rfl⟩
   simp
   subst hR
   exact ⟨(s3,t),⟨g1,g2,g3⟩,by simp [post]⟩
end Go.Mch
namespace Go.Mch
def imZ (t:List (List Int)) (p:List Int) (a b:Nat):List (List Int):=tabL t.length fun x y=>if invQ p x<a∨(invQ p x=a∧invQ p y<b) then imG t p x y else 0
@[simp] theorem imZ_length (t:List (List Int)) (p:List Int) (a b:Nat):(imZ t p a b).length=t.length:=by simp [imZ]
theorem imZ_row (t:List (List Int)) (p:List Int) (a b:Nat) {i:Nat} (h:i<(imZ t p a b).length):(imZ t p a b)[i].length=t.length:=tabL_row (by rw [← imZ];exact List.getElem_mem h)
theorem imZ_next {t:List (List Int)} {p:List Int} (h:Pm p) (hl:p.length=t.length) (a:Nat):imZ t p a t.length=imZ t p (a+1) 0:=by
 apply tabL_congr
 intro x y hx hy
 have:=h.lt (x:=y) (by omega)
 have e:(invQ p x<a∨(invQ p x=a∧invQ p y<t.length))↔(invQ p x<a+1∨(invQ p x=a+1∧invQ p y<0)):=by omega
 simp only [e]
theorem imZ_last {t:List (List Int)} {p:List Int} (h:Pm p) (hl:p.length=t.length):imZ t p t.length 0=imT t p:=by
 apply tabL_congr
 intro x y hx hy
 have:=h.lt (x:=x) (by omega)
 rw [if_pos (by omega)]
theorem imZ_set {t:List (List Int)} {p:List Int} (h:Pm p) (hl:p.length=t.length) {a b:Nat} (ha:a<p.length) (hb:b<p.length) {P Q:Nat} (hP:(p[a]).toNat=P) (hQ:(p[b]).toNat=Q) (hPl:P<(imZ t p a b).length) :
 (imZ t p a b).set P ((imZ t p a b)[P].set Q (p.getD (v2 t a b).toNat 0))=imZ t p a (b+1):=by
 have qP:invQ p P=a:=hP▸h.back ha
 have qQ:invQ p Q=b:=hQ▸h.back hb
 have hinj:∀ x,x<p.length→invQ p x=a→x=P:=fun x hx he=>by
  have:=h.at hx
  rw [he] at this
  simp [ha] at this
  omega
 have hinj2:∀ x,x<p.length→invQ p x=b→x=Q:=fun x hx he=>by
  have:=h.at hx
  rw [he] at this
  simp [hb] at this
  omega
 apply List.ext_getElem
 · simp
 · intro i h1 h2
   have hi:i<t.length:=by simpa using h2
   rw [List.getElem_set]
   by_cases hiP:P=i
   · subst hiP
     rw [if_pos rfl]
     apply List.ext_getElem
     · simp [imZ_row]
     · intro j h3 h4
       have hj:j<t.length:=by simpa [imZ_row] using h4
       rw [List.getElem_set]
       simp only [imZ,tabL,List.getElem_map,List.getElem_range]
       by_cases hjQ:Q=j
       · subst hjQ
         rw [if_pos rfl,if_pos (by omega),imG,qP,qQ]
       · rw [if_neg hjQ]
         have:invQ p j≠b:=fun he=>hjQ (hinj2 j (by omega) he).symm
         have e:(invQ p P<a∨(invQ p P=a∧invQ p j<b))↔(invQ p P<a∨(invQ p P=a∧invQ p j<b+1)):=by omega
         simp only [e]
   · rw [if_neg hiP]
     have hne:invQ p i≠a:=fun he=>hiP (hinj i (by omega) he).symm
     simp only [imZ,tabL,List.getElem_map,List.getElem_range]
     refine List.map_congr_left fun j _=>?_
     have e:(invQ p i<a∨(invQ p i=a∧invQ p j<b))↔(invQ p i<a∨(invQ p i=a∧invQ p j<b+1)):=by omega
     simp only [e]
def zTab (n k:Nat):List (List Int):=(List.range k).map fun _=>List.replicate n 0
theorem imZ_zero (t:List (List Int)) (p:List Int):imZ t p 0 0=zTab t.length t.length:=by
 unfold imZ zTab tabL
 refine List.map_congr_left fun x _=>?_
 apply List.ext_getElem
 · simp
 · intro i h1 h2;simp
theorem imZ_setD {t:List (List Int)} {p:List Int} (h:Pm p) (hl:p.length=t.length) {a b:Nat} (ha:a<p.length) (hb:b<p.length) {P Q:Nat} (hP:(p[a]).toNat=P) (hQ:(p[b]).toNat=Q) :
 (imZ t p a b).set P (((imZ t p a b).getD P []).set Q (p.getD (v2 t a b).toNat 0))=imZ t p a (b+1):=by
 have ra:=h.inL _ (List.getElem_mem ha)
 have hPl:P<(imZ t p a b).length:=by rw [imZ_length];omega
 have:=imZ_set h hl ha hb hP hQ hPl
 rw [← this,List.getD_eq_getElem?_getD,List.getElem?_eq_getElem hPl]
 rfl
set_option maxRecDepth 10000 in
theorem t_rename {pg:Pg} (hp:pg.fn 367=some c_spec_l01Rename):S_image pg 367:=by
 intro t p ht h hl
 have h12:=h.sm
 have h0:=h.pos
 refine Call.intro hp rfl (by simp) ?_
 show wp _ _ c_spec_l01Rename.body (post [.t 4] _ _ _) _
 simp [c_spec_l01Rename]
 refine wpLoop_count (fun k e=>e=fr [(0,some (.val (tb t))),(1,some (.val (ix p))),(5,some (.val (ownTb (zTab t.length k)))),(6,some (.val (I k)))]) t.length ?_ ?_ 0 _ (by omega) ?_
 · rintro k e hk rfl
   have hz:(zTab t.length (k+1))=zTab t.length k++[List.replicate t.length 0]:=by simp [zTab,List.range_succ]
   have hzl:(zTab t.length k).length=k:=by simp [zTab]
   rw [hz]
   generalize zTab t.length k=Z at *
   simp [hk]
   exact ⟨by unfold roomy;omega,by unfold roomy;omega,by omega,by simp only [ownTb,ownL,rows_snoc,List.map_replicate]⟩
 · rintro e rfl
   rw [← imZ_zero t p]
   simp
   refine wpLoop_count (fun a e=>e=fr [(0,some (.val (tb t))),(1,some (.val (ix p))),(5,some (.val (ownTb (imZ t p a 0)))),(7,some (.val (I a)))]) t.length ?_ ?_ 0 _ (by omega) ?_
   · rintro a e ha rfl
     rw [← imZ_next h hl a]
     have hap:a<p.length:=by omega
     have ra:=h.inL _ (List.getElem_mem hap)
     have hXl:=imZ_length t p a 0
     have hXr:=fun {i:Nat} hi=>imZ_row t p a 0 (i:=i) hi
     obtain ⟨P,hP⟩:∃ P,p[a]=P:=⟨_,rfl⟩
     rw [hP] at ra
     obtain ⟨P,rfl⟩:∃ P':Nat,P=P':=⟨P.toNat,by omega⟩
     have hPX:P<(imZ t p a 0).length:=by omega
     have hr:=hXr hPX
     have hPt:P<t.length:=by omega
     have hgr:(rows (imZ t p a 0))[P]?=some (ownL (imZ t p a 0)[P]):=by rw [rows_get,List.getElem?_eq_getElem hPX];rfl
     simp [ha,hap,hP,hPt,hr]
     refine wpLoop_count (fun b e=>e=fr [(0,some (.val (tb t))),(1,some (.val (ix p))),(5,some (.val (ownTb (imZ t p a b)))),(7,some (.val (I a))),(8,some (.sref 5 [P] 1 0 t.length)),(9,some (.val (I b)))]) t.length ?_ ?_ 0 _ (by omega) rfl
     · rintro b e hb rfl
       have hbp:b<p.length:=by omega
       have rb:=h.inL _ (List.getElem_mem hbp)
       have hXl:=imZ_length t p a b
       have hXr:=fun {i:Nat} hi=>imZ_row t p a b (i:=i) hi
       obtain ⟨Q,hQ⟩:∃ Q,p[b]=Q:=⟨_,rfl⟩
       rw [hQ] at rb
       obtain ⟨Q,rfl⟩:∃ Q':Nat,Q=Q':=⟨Q.toNat,by omega⟩
       have hset:=imZ_setD h hl hap hbp (P:=P) (Q:=Q) (by rw [hP];simp) (by rw [hQ];simp)
       have hrow:=ht.row ha
       have hbr:b<(t[a]).length:=by rw [hrow];exact hb
       have hv:=get_v2 ha hbr
       have hv1:=ht.nonneg a b
       have hv2:=ht.lt (by omega) a b
       rw [← hset]
       clear hset
       generalize v2 t a b=v at *
       have hvl:v.toNat<p.length:=by omega
       have hvl2:v<p.length:=by omega
       have hg:p[v.toNat]=p.getD v.toNat 0:=by simp [hvl]
       generalize p.getD v.toNat 0=w at *
       clear hgr hr
       generalize imZ t p a b=X at *
       have hPX':P<X.length:=by omega
       have hr:=hXr hPX'
       have hXg:X.getD P []=X[P]:=by simp [hPX']
       rw [hXg]
       have hQX:Q<(X[P]).length:=by omega
       have hQt:(Q:Int)<t.length:=by omega
       have hQt2:Q<t.length:=by omega
       have hgr:(rows X)[P]?=some (ownL X[P]):=by rw [rows_get,List.getElem?_eq_getElem hPX'];rfl
       simp [ha,hb,hbp,hQ,hrow,hv,hvl,hvl2,hv1,hg,hPX',hQX,hQt]
       exact ⟨by omega,by omega,by simp only [ownTb,← rows_set2 hPX']⟩
     · rintro e rfl
       simp
       omega
   · rintro e rfl
     rw [imZ_last h hl]
     simp
   · simp
 · simp only [zTab,ownTb,rows,List.range_zero,List.map_nil];rfl
def S_renS (pg:Pg):Prop:=∀ (f s:List (List Int)) (p:List Int),Tab f→Tab s→Pm p→p.length=f.length→p.length=s.length→Call pg 422 [sol f s,ix p] [sol f s,ix p] (.agg [ownTb (imT f p),ownTb (imT s p)])
set_option maxRecDepth 10000 in
theorem t_renS {pg:Pg} (hp:pg.fn 422=some c_spec_l02Rename) (h367:S_image pg 367):S_renS pg:=by
 intro f s p hf hs h hl hl2
 refine Call.intro hp rfl (by simp) ?_
 show wp _ _ c_spec_l02Rename.body (post [.cell 4 (some 2)] _ _ _) _
 simp [c_spec_l02Rename]
 refine callR (h367 f p hf h hl) rfl rfl (fun _=>by simp) ?_
 simp
 refine callR (h367 s p hs h hl2) rfl rfl (fun _=>by simp) ?_
 simp
theorem imT_tabN {n:Nat} {t:List (List Int)} {p:List Int} (ht:TabN n t) (hp:Pm p) (hl:p.length=n):TabN n (imT t p):=by
 have h1:Tab t:=fun r hr=>⟨by rw [(ht.2 r hr).1,ht.1],fun v hv=>by rw [ht.1];exact (ht.2 r hr).2 v hv⟩
 refine ⟨by rw [imT,tabL_length];exact ht.1,fun r hr=>⟨by rw [tabL_row hr];exact ht.1,fun v hv=>?_⟩⟩
 obtain ⟨x,hx,rfl⟩:=List.mem_map.1 hr
 obtain ⟨y,hy,rfl⟩:=List.mem_map.1 hv
 simp only [List.mem_range] at hx hy
 have hpos:=hp.pos
 have a1:=h1.nonneg (invQ p x) (invQ p y)
 have a2:=h1.lt (by rw [ht.1];omega) (invQ p x) (invQ p y)
 have a3:(v2 t (invQ p x) (invQ p y)).toNat<p.length:=by rw [ht.1] at a2;omega
 have a4:=hp.inL _ (List.getElem_mem a3)
 simp only [imG,List.getD_eq_getElem?_getD,List.getElem?_eq_getElem a3,Option.getD_some]
 omega

def PMN (n:Nat) (f s:List (List Int)):Prop:=TabN n f∧TabN n s
abbrev ownS (X:List (List Int)×List (List Int)):T:=.agg [ownTb X.1,ownTb X.2]
def ownN2 (X:List (List Int)):T:=if X=[] then nil else ownTb X
@[simp] theorem ownN2_nil:ownN2 []=nil:=rfl
theorem one_row {n:Nat} {a:List Int} (h:RowIn n a):∀ x∈[a],RowIn n x:=fun x hx=>by rw [List.mem_singleton.1 hx];exact h
theorem snoc_in {n:Nat} {a:List Int} {x:Int} (h:∀ v∈a,0≤v∧v<n) (hx:0≤x∧x<n):∀ v∈a++[x],0≤v∧v<n:=fun v hv=>by
 rcases List.mem_append.1 hv with h1 | h1
 · exact h v h1
 · rw [List.mem_singleton.1 h1];exact hx
theorem ownN2_ne {X:List (List Int)} {k:Nat} (h:X.length=k) (hk:0<k):ownN2 X=ownTb X:=if_neg fun h0=>by rw [h0] at h;simp at h;omega
theorem ownN2_snoc (X:List (List Int)) (r:List Int):ownN2 (X++[r])=.mem .own (some 1) (rows X++[ownL r]):=by
 rw [ownN2,if_neg (by simp),ownTb,rows_snoc]
def S_poly (pg:Pg):Prop:=∀ n:Nat,0<n→n≤64→∃ X:List (List Int)×List (List Int),PMN n X.1 X.2∧Call pg 423 [I n] [I n] (ownS X)
set_option maxRecDepth 10000 in
theorem t_poly {pg:Pg} (hp:pg.fn 423=some c_spec_l02Polygon):S_poly pg:=by
 intro n h0 hn
 refine Call.find hp rfl (by simp) ?_
 show wp _ _ c_spec_l02Polygon.body _ _
 generalize hR:(fun (x:X) (e:Env)=>∃ l:List (List Int)×List (List Int),PMN n l.1 l.2∧post c_spec_l02Polygon.rs [I n] [I n] (ownS l) x e)=R
 simp [c_spec_l02Polygon]
 refine wpLoop_count (fun k e=>∃ f s:List (List Int),((f.length=k∧∀ r∈f,RowIn n r)∧s.length=k∧∀ r∈s,RowIn n r)∧e=fr [(0,some (.val (I n))),(2,some (.val (.mem .own none [nil,nil]))),(3,some (.val (.mem .own none [ownN2 f,ownN2 s]))),(4,some (.val (I k)))]) n ?_ ?_ 0 _ (by omega) ⟨[],[],⟨⟨rfl,by simp⟩,rfl,by simp⟩,rfl⟩
 · rintro k e hk ⟨f,s,⟨⟨g1,g2⟩,g3,g4⟩,rfl⟩
   simp [hk]
   refine wpLoop_count (fun j e=>∃ a b:List Int,((a.length=j∧∀ v∈a,0≤v∧v<n)∧b.length=j∧∀ v∈b,0≤v∧v<n)∧e=fr [(0,some (.val (I n))),(2,some (.val (.mem .own none [nil,nil]))),(3,some (.val (.mem .own none [ownN2 f,ownN2 s]))),(4,some (.val (I k))),(5,some (.val (ownL a))),(6,some (.val (ownL b))),(7,some (.val (I j)))]) n ?_ ?_ 0 _ (by omega) ⟨[],[],⟨⟨rfl,by simp⟩,rfl,by simp⟩,rfl⟩
   · rintro j e hj ⟨a,b,⟨⟨i1,i2⟩,i3,i4⟩,rfl⟩
     obtain ⟨m,hm,hm2⟩:∃ m:Nat,((2:Int)*k-j+n).tmod n=m∧m<n:=by
      have h1:0≤(2:Int)*k-j+n:=by omega
      refine ⟨((2:Int)*k-j+n).toNat % n,?_,Nat.mod_lt _ h0⟩
      rw [Int.tmod_eq_emod_of_nonneg h1,Int.natCast_emod,Int.toNat_of_nonneg h1]
     have hn0:¬n=0:=by omega
     simp [hj,hm,hn0]
     exact ⟨by omega,by omega,by omega,by unfold roomy;omega,by unfold roomy;omega,by omega,a++[(m:Int)],b++[(k:Int)],⟨⟨by simp [i1],snoc_in i2 (by omega)⟩,by simp [i3],snoc_in i4 (by omega)⟩,by simp only [ownL,List.map_append,List.map_cons,List.map_nil]⟩
   · rintro e ⟨a,b,⟨⟨i1,i2⟩,i3,i4⟩,rfl⟩
     by_cases hk0:k=0
     · subst hk0
       obtain rfl:f=[]:=List.length_eq_zero_iff.1 g1
       obtain rfl:s=[]:=List.length_eq_zero_iff.1 g3
       simp
       exact ⟨by unfold roomy;omega,[a],[b],⟨⟨rfl,one_row ⟨i1,i2⟩⟩,rfl,one_row ⟨i3,i4⟩⟩,rfl⟩
     · rw [ownN2_ne g1 (by omega),ownN2_ne g3 (by omega)]
       simp
       exact ⟨by unfold roomy;omega,by unfold roomy;omega,by omega,f++[a],s++[b],⟨TabN.snoc ⟨g1,g2⟩ ⟨i1,i2⟩,TabN.snoc ⟨g3,g4⟩ ⟨i3,i4⟩⟩,by simp only [ownN2_snoc]⟩
 · rintro e ⟨f,s,⟨⟨g1,g2⟩,g3,g4⟩,rfl⟩
   have hf:ownN2 f=ownTb f:=if_neg fun h=>by rw [h] at g1;simp at g1;omega
   have hs:ownN2 s=ownTb s:=if_neg fun h=>by rw [h] at g3;simp at g3;omega
   rw [hf,hs]
   simp
   subst hR
   exact ⟨(f,s),⟨⟨g1,g2⟩,g3,g4⟩,by simp [post,c_spec_l02Polygon]⟩
end Go.Mch
namespace Go.Mch
def S_twst (pg:Pg):Prop:=∀ (n:Nat) (p q:List Int),0<n→n≤64→RowIn n p→RowIn n q→∃ X:List (List Int)×List (List Int),(PMN n X.1 X.2∧∀ r∈X.1,r=p)∧Call pg 425 [ix p,ix q] [ix p,ix q] (ownS X)
set_option maxRecDepth 10000 in
theorem t_twst {pg:Pg} (hp:pg.fn 425=some c_spec_l02Twist) (h31:S_own pg):S_twst pg:=by
 intro n p q h0 hn hP hQ
 have hpl:=hP.1
 have hql:=hQ.1
 refine Call.find hp rfl (by simp) ?_
 show wp _ _ c_spec_l02Twist.body _ _
 generalize hR:(fun (x:X) (e:Env)=>∃ l:List (List Int)×List (List Int),(PMN n l.1 l.2∧∀ r∈l.1,r=p)∧post c_spec_l02Twist.rs [ix p,ix q] [ix p,ix q] (ownS l) x e)=R
 simp [c_spec_l02Twist]
 refine wpLoop_count (fun k e=>∃ f s:List (List Int),((f.length=k∧∀ r∈f,r=p)∧s.length=k∧∀ r∈s,RowIn n r)∧e=fr [(0,some (.val (ix p))),(1,some (.val (ix q))),(4,some (.val (.mem .own none [nil,nil]))),(5,some (.val (.mem .own none [ownN2 f,ownN2 s]))),(6,some (.val (I k)))]) n ?_ ?_ 0 _ (by omega) ⟨[],[],⟨⟨rfl,by simp⟩,rfl,by simp⟩,rfl⟩
 · rintro k e hk ⟨f,s,⟨⟨g1,g2⟩,g3,g4⟩,rfl⟩
   have hkq:k<q.length:=by omega
   have hv:=hQ.2 _ (List.getElem_mem hkq)
   simp [hk,hpl]
   refine wpLoop_count (fun j e=>∃ b:List Int,(b.length=j∧∀ v∈b,0≤v∧v<n)∧e=fr [(0,some (.val (ix p))),(1,some (.val (ix q))),(4,some (.val (.mem .own none [nil,nil]))),(5,some (.val (.mem .own none [ownN2 f,ownN2 s]))),(6,some (.val (I k))),(7,some (.val (ownL b))),(8,some (.val (I j)))]) n ?_ ?_ 0 _ (by omega) ⟨[],⟨rfl,by simp⟩,rfl⟩
   · rintro j e hj ⟨b,⟨i3,i4⟩,rfl⟩
     simp [hj,hpl,hql,hk]
     exact ⟨by unfold roomy;omega,by omega,b++[q[k]],⟨by simp [i3],snoc_in i4 hv⟩,by simp only [ownL,List.map_append,List.map_cons,List.map_nil]⟩
   · rintro e ⟨b,⟨i3,i4⟩,rfl⟩
     by_cases hk0:k=0
     · subst hk0
       obtain rfl:f=[]:=List.length_eq_zero_iff.1 g1
       obtain rfl:s=[]:=List.length_eq_zero_iff.1 g3
       simp [hpl]
       refine callR (h31 p (by omega)) rfl rfl (fun _=>by simp) ?_
       simp
       exact ⟨by unfold roomy;omega,[p],[b],⟨⟨rfl,by simp⟩,rfl,one_row ⟨i3,i4⟩⟩,rfl⟩
     · rw [ownN2_ne g1 (by omega),ownN2_ne g3 (by omega)]
       simp [hpl]
       refine callR (h31 p (by omega)) rfl rfl (fun _=>by simp) ?_
       simp
       exact ⟨by unfold roomy;omega,by unfold roomy;omega,by omega,f++[p],s++[b],⟨⟨by simp [g1],fun r hr=>by
        rcases List.mem_append.1 hr with h1 | h1
        · exact g2 r h1
        · exact List.mem_singleton.1 h1⟩,TabN.snoc ⟨g3,g4⟩ ⟨i3,i4⟩⟩,by simp only [ownN2_snoc]⟩
 · rintro e ⟨f,s,⟨⟨g1,g2⟩,g3,g4⟩,rfl⟩
   rw [ownN2_ne g1 h0,ownN2_ne g3 h0]
   simp [hpl]
   subst hR
   exact ⟨(f,s),⟨⟨⟨g1,fun r hr=>by rw [g2 r hr];exact hP⟩,g3,g4⟩,g2⟩,by simp [post,c_spec_l02Twist]⟩
def S_flp (pg:Pg):Prop:=∀ n:Nat,0<n→n≤64→∃ X:List (List Int)×List (List Int),(PMN n X.1 X.2∧∀ r∈X.1,r=idL n)∧Call pg 449 [I n] [I n] (ownS X)
theorem t_flp {pg:Pg} (hp:pg.fn 449=some c_spec_l02Flip) (h334:S_unit pg) (h425:S_twst pg):S_flp pg:=by
 intro n h0 hn
 obtain ⟨X,hX,hc⟩:=h425 n (idL n) (idL n) h0 hn (idL_rowIn n).1 (idL_rowIn n).1
 refine ⟨X,hX,Call.intro hp rfl (by simp) ?_⟩
 show wp _ _ c_spec_l02Flip.body (post [.cell 2 (some 2)] _ _ _) _
 simp [c_spec_l02Flip]
 refine callR (h334 n (by omega)) rfl rfl (fun _=>by simp) ?_
 simp
 refine callR hc rfl rfl (fun _=>by simp) ?_
 simp
theorem tdivN (a m:Nat):((a:Int)).tdiv m=((a / m:Nat):Int):=by rw [Int.tdiv_eq_ediv_of_nonneg (by omega),Int.natCast_ediv]
theorem tmodN (a m:Nat):((a:Int)).tmod m=((a % m:Nat):Int):=by rw [Int.tmod_eq_emod_of_nonneg (by omega),Int.natCast_emod]
theorem TabN.at {n:Nat} {t:List (List Int)} (h:TabN n t) {i j:Nat} (hi:i<n) (hj:j<n):∃ (h1:i<t.length) (h2:j<(t[i]).length),(t[i]).length=n∧0≤(t[i])[j]∧(t[i])[j]<n:=by
 have h1:i<t.length:=by rw [h.1];exact hi
 have h2:=h.2 _ (List.getElem_mem h1)
 have h3:j<(t[i]).length:=by rw [h2.1];exact hj
 exact ⟨h1,h3,h2.1,h2.2 _ (List.getElem_mem h3)⟩
theorem mul_lt {n m:Nat} {x y:Int} (h0:0≤x) (h1:x<n) (h2:0≤y) (h3:y<m) (hn:n*m≤64):0≤x*m+y∧x*m+y<(n*m:Nat)∧0≤x*m∧x*m≤64:=by
 obtain ⟨x,rfl⟩:∃ x':Nat,x=x':=⟨x.toNat,by omega⟩
 obtain ⟨y,rfl⟩:∃ y':Nat,y=y':=⟨y.toNat,by omega⟩
 have h4:(x+1)*m≤n*m:=Nat.mul_le_mul_right m (by omega)
 have h5:(x+1)*m=x*m+m:=Nat.succ_mul x m
 have h6:((x*m:Nat):Int)=(x:Int)*m:=by simp
 omega
def S_prd (pg:Pg):Prop:=∀ (n m:Nat) (f s f' s':List (List Int)),0<n→0<m→n*m≤64→PMN n f s→PMN m f' s'→∃ X:List (List Int)×List (List Int),PMN (n*m) X.1 X.2∧Call pg 458 [sol f s,sol f' s'] [sol f s,sol f' s'] (ownS X)
set_option maxRecDepth 10000 in
theorem t_prd {pg:Pg} (hp:pg.fn 458=some c_spec_l02Product):S_prd pg:=by
 intro n m f s f' s' hn0 hm0 hnm hA hB
 have hfl:=hA.1.1
 have hsl:=hA.2.1
 have hfl':=hB.1.1
 have hsl':=hB.2.1
 have hN:0<n*m:=Nat.mul_pos hn0 hm0
 obtain ⟨N,hNe⟩:∃ N,N=n*m:=⟨_,rfl⟩
 have hNi:(n:Int)*m=N:=by rw [hNe];simp
 have hnl:n≤N:=by rw [hNe];exact Nat.le_mul_of_pos_right n hm0
 have hml:m≤N:=by rw [hNe];exact Nat.le_mul_of_pos_left m hn0
 rw [← hNe] at hN hnm ⊢
 have hdv:∀ a,a<N→a / m<n:=fun a ha=>by rw [hNe,Nat.mul_comm] at ha;exact Nat.div_lt_of_lt_mul ha
 have hmd:∀ a,a % m<m:=fun a=>Nat.mod_lt _ hm0
 have hm0':¬(m:Int)=0:=by omega
 have hm0'':¬m=0:=by omega
 refine Call.find hp rfl (by simp) ?_
 show wp _ _ c_spec_l02Product.body _ _
 generalize hR:(fun (x:X) (e:Env)=>∃ l:List (List Int)×List (List Int),PMN N l.1 l.2∧post c_spec_l02Product.rs [sol f s,sol f' s'] [sol f s,sol f' s'] (ownS l) x e)=R
 simp [c_spec_l02Product]
 refine wpLoop_count (fun k e=>∃ F S:List (List Int),((F.length=k∧∀ r∈F,RowIn N r)∧S.length=k∧∀ r∈S,RowIn N r)∧e=fr [(2,some (.val (.mem .own none [tb f,tb s]))),(3,some (.val (.mem .own none [tb f',tb s']))),(4,some (.val (.mem .own none [nil,nil]))),(5,some (.val (I n))),(6,some (.val (I m))),(7,some (.val (.mem .own none [ownN2 F,ownN2 S]))),(8,some (.val (I k)))]) N ?_ ?_ 0 _ (by omega) ⟨[],[],⟨⟨rfl,by simp⟩,rfl,by simp⟩,by simp [hfl,hfl']⟩
 · rintro k e hk ⟨F,S,⟨⟨g1,g2⟩,g3,g4⟩,rfl⟩
   simp [hk,hNi]
   refine ⟨by omega,?_⟩
   refine wpLoop_count (fun j e=>∃ a b:List Int,((a.length=j∧∀ v∈a,0≤v∧v<N)∧b.length=j∧∀ v∈b,0≤v∧v<N)∧e=fr [(2,some (.val (.mem .own none [tb f,tb s]))),(3,some (.val (.mem .own none [tb f',tb s']))),(4,some (.val (.mem .own none [nil,nil]))),(5,some (.val (I n))),(6,some (.val (I m))),(7,some (.val (.mem .own none [ownN2 F,ownN2 S]))),(8,some (.val (I k))),(9,some (.val (ownL a))),(10,some (.val (ownL b))),(11,some (.val (I j)))]) N ?_ ?_ 0 _ (by omega) ⟨[],[],⟨⟨rfl,by simp⟩,rfl,by simp⟩,rfl⟩
   · rintro j e hj ⟨a,b,⟨⟨i1,i2⟩,i3,i4⟩,rfl⟩
     have q1:=hdv k hk
     have q2:=hdv j hj
     have r1:=hmd k
     have r2:=hmd j
     have d1:=tdivN k m
     have d2:=tdivN j m
     have d3:=tmodN k m
     have d4:=tmodN j m
     generalize k / m=A at *
     generalize j / m=B at *
     generalize k % m=C at *
     generalize j % m=D at *
     obtain ⟨u1,u2,u3,u4,u5⟩:=hA.1.at q1 q2
     obtain ⟨v1,v2,v3,v4,v5⟩:=hA.2.at q1 q2
     obtain ⟨x1,x2,x3,x4,x5⟩:=hB.1.at r1 r2
     obtain ⟨y1,y2,y3,y4,y5⟩:=hB.2.at r1 r2
     have m1:=mul_lt u4 u5 x4 x5 (by omega)
     have m2:=mul_lt v4 v5 y4 y5 (by omega)
     rw [← hNe] at m1 m2
     simp [hj,hNi,d1,d2,d3,d4,hm0'',q1,q2,r1,r2,hfl,hsl,hfl',hsl',u3,v3,x3,y3]
     exact ⟨by omega,by omega,by omega,by omega,by omega,by unfold roomy;omega,by omega,by omega,by omega,by omega,by unfold roomy;omega,by omega,a++[f[A][B]*m+f'[C][D]],b++[s[A][B]*m+s'[C][D]],⟨⟨by simp [i1],snoc_in i2 (by omega)⟩,by simp [i3],snoc_in i4 (by omega)⟩,by simp only [ownL,List.map_append,List.map_cons,List.map_nil]⟩
   · rintro e ⟨a,b,⟨⟨i1,i2⟩,i3,i4⟩,rfl⟩
     by_cases hk0:k=0
     · subst hk0
       obtain rfl:F=[]:=List.length_eq_zero_iff.1 g1
       obtain rfl:S=[]:=List.length_eq_zero_iff.1 g3
       simp [hNi]
       exact ⟨by omega,by unfold roomy;omega,[a],[b],⟨⟨rfl,one_row ⟨i1,i2⟩⟩,rfl,one_row ⟨i3,i4⟩⟩,rfl⟩
     · rw [ownN2_ne g1 (by omega),ownN2_ne g3 (by omega)]
       simp [hNi]
       exact ⟨by omega,by unfold roomy;omega,by unfold roomy;omega,by omega,F++[a],S++[b],⟨TabN.snoc ⟨g1,g2⟩ ⟨i1,i2⟩,TabN.snoc ⟨g3,g4⟩ ⟨i3,i4⟩⟩,by simp only [ownN2_snoc]⟩
 · rintro e ⟨F,S,⟨⟨g1,g2⟩,g3,g4⟩,rfl⟩
   rw [ownN2_ne g1 hN,ownN2_ne g3 hN]
   simp [hNi]
   refine ⟨by omega,?_⟩
   subst hR
   exact ⟨(F,S),⟨⟨g1,g2⟩,g3,g4⟩,by simp [post,c_spec_l02Product]⟩
def S_uni (pg:Pg):Prop:=∀ (n m:Nat) (f s f' s':List (List Int)),0<n→0<m→n+m≤64→PMN n f s→PMN m f' s'→∃ X:List (List Int)×List (List Int),PMN (n+m) X.1 X.2∧Call pg 460 [sol f s,sol f' s'] [sol f s,sol f' s'] (ownS X)
set_option maxRecDepth 10000 in
theorem t_uni {pg:Pg} (hp:pg.fn 460=some c_spec_l02Union):S_uni pg:=by
 intro n m f s f' s' hn0 hm0 hnm hA hB
 have hfl:=hA.1.1
 have hsl:=hA.2.1
 have hfl':=hB.1.1
 have hsl':=hB.2.1
 obtain ⟨N,hNe⟩:∃ N,N=n+m:=⟨_,rfl⟩
 have hNi:(n:Int)+m=N:=by rw [hNe];simp
 rw [← hNe] at hnm ⊢
 have hN:0<N:=by omega
 refine Call.find hp rfl (by simp) ?_
 show wp _ _ c_spec_l02Union.body _ _
 generalize hR:(fun (x:X) (e:Env)=>∃ l:List (List Int)×List (List Int),PMN N l.1 l.2∧post c_spec_l02Union.rs [sol f s,sol f' s'] [sol f s,sol f' s'] (ownS l) x e)=R
 simp [c_spec_l02Union]
 refine wpLoop_count (fun k e=>∃ F S:List (List Int),((F.length=k∧∀ r∈F,RowIn N r)∧S.length=k∧∀ r∈S,RowIn N r)∧e=fr [(2,some (.val (.mem .own none [tb f,tb s]))),(3,some (.val (.mem .own none [tb f',tb s']))),(4,some (.val (.mem .own none [nil,nil]))),(5,some (.val (I n))),(6,some (.val (I m))),(7,some (.val (.mem .own none [ownN2 F,ownN2 S]))),(8,some (.val (I k)))]) N ?_ ?_ 0 _ (by omega) ⟨[],[],⟨⟨rfl,by simp⟩,rfl,by simp⟩,by simp [hfl,hfl']⟩
 · rintro k e hk ⟨F,S,⟨⟨g1,g2⟩,g3,g4⟩,rfl⟩
   simp [hk,hNi]
   refine ⟨by omega,?_⟩
   refine wpLoop_count (fun j e=>∃ a b:List Int,((a.length=j∧∀ v∈a,0≤v∧v<N)∧b.length=j∧∀ v∈b,0≤v∧v<N)∧e=fr [(2,some (.val (.mem .own none [tb f,tb s]))),(3,some (.val (.mem .own none [tb f',tb s']))),(4,some (.val (.mem .own none [nil,nil]))),(5,some (.val (I n))),(6,some (.val (I m))),(7,some (.val (.mem .own none [ownN2 F,ownN2 S]))),(8,some (.val (I k))),(9,some (.val (ownL a))),(10,some (.val (ownL b))),(11,some (.val (I j)))]) N ?_ ?_ 0 _ (by omega) ⟨[],[],⟨⟨rfl,by simp⟩,rfl,by simp⟩,rfl⟩
   · rintro j e hj ⟨a,b,⟨⟨i1,i2⟩,i3,i4⟩,rfl⟩
     by_cases ck:k<n
     · by_cases cj:j<n
       · obtain ⟨u1,u2,u3,u4,u5⟩:=hA.1.at ck cj
         obtain ⟨v1,v2,v3,v4,v5⟩:=hA.2.at ck cj
         simp [hj,hNi,ck,cj,hfl,hsl,u3,v3]
         exact ⟨by omega,by unfold roomy;omega,by unfold roomy;omega,by omega,a++[f[k][j]],b++[s[k][j]],⟨⟨by simp [i1],snoc_in i2 (by omega)⟩,by simp [i3],snoc_in i4 (by omega)⟩,by simp only [ownL,List.map_append,List.map_cons,List.map_nil]⟩
       · have ck':¬n≤k:=by omega
         simp [hj,hNi,ck,cj,ck',undefV]
         exact ⟨by omega,by unfold roomy;omega,by unfold roomy;omega,by omega,a++[(j:Int)],b++[(k:Int)],⟨⟨by simp [i1],snoc_in i2 (by omega)⟩,by simp [i3],snoc_in i4 (by omega)⟩,by simp only [ownL,List.map_append,List.map_cons,List.map_nil]⟩
     · have ck':n≤k:=by omega
       by_cases cj:n≤j
       · obtain ⟨A,hAk⟩:∃ A:Nat,(k:Int)-n=A:=⟨k-n,by omega⟩
         obtain ⟨B,hBj⟩:∃ B:Nat,(j:Int)-n=B:=⟨j-n,by omega⟩
         have cA:A<m:=by omega
         have cB:B<m:=by omega
         obtain ⟨u1,u2,u3,u4,u5⟩:=hB.1.at cA cB
         obtain ⟨v1,v2,v3,v4,v5⟩:=hB.2.at cA cB
         simp [hj,hNi,ck,ck',cj,cA,cB,hfl',hsl',u3,v3,hAk,hBj,undefV]
         exact ⟨by omega,by omega,by omega,by omega,by unfold roomy;omega,by omega,by omega,by omega,by unfold roomy;omega,by omega,a++[f'[A][B]+n],b++[s'[A][B]+n],⟨⟨by simp [i1],snoc_in i2 (by omega)⟩,by simp [i3],snoc_in i4 (by omega)⟩,by simp only [ownL,List.map_append,List.map_cons,List.map_nil]⟩
       · simp [hj,hNi,ck,cj,ck',undefV]
         exact ⟨by omega,by unfold roomy;omega,by unfold roomy;omega,by omega,a++[(j:Int)],b++[(k:Int)],⟨⟨by simp [i1],snoc_in i2 (by omega)⟩,by simp [i3],snoc_in i4 (by omega)⟩,by simp only [ownL,List.map_append,List.map_cons,List.map_nil]⟩
   · rintro e ⟨a,b,⟨⟨i1,i2⟩,i3,i4⟩,rfl⟩
     by_cases hk0:k=0
     · subst hk0
       obtain rfl:F=[]:=List.length_eq_zero_iff.1 g1
       obtain rfl:S=[]:=List.length_eq_zero_iff.1 g3
       simp [hNi]
       exact ⟨by omega,by unfold roomy;omega,[a],[b],⟨⟨rfl,one_row ⟨i1,i2⟩⟩,rfl,one_row ⟨i3,i4⟩⟩,rfl⟩
     · rw [ownN2_ne g1 (by omega),ownN2_ne g3 (by omega)]
       simp [hNi]
       exact ⟨by omega,by unfold roomy;omega,by unfold roomy;omega,by omega,F++[a],S++[b],⟨TabN.snoc ⟨g1,g2⟩ ⟨i1,i2⟩,TabN.snoc ⟨g3,g4⟩ ⟨i3,i4⟩⟩,by simp only [ownN2_snoc]⟩
 · rintro e ⟨F,S,⟨⟨g1,g2⟩,g3,g4⟩,rfl⟩
   rw [ownN2_ne g1 hN,ownN2_ne g3 hN]
   simp [hNi]
   refine ⟨by omega,?_⟩
   subst hR
   exact ⟨(F,S),⟨⟨g1,g2⟩,g3,g4⟩,by simp [post,c_spec_l02Union]⟩
end Go.Mch
namespace Go.Mch
theorem zeroT_tabN {n:Nat} (h:0<n):TabN n (zeroT n n):=by
 refine ⟨by simp [zeroT],fun r hr=>?_⟩
 simp only [zeroT,List.mem_replicate] at hr
 rw [hr.2]
 refine ⟨by simp,fun v hv=>?_⟩
 simp only [List.mem_replicate] at hv
 omega
theorem TabN.set2 {n i j:Nat} {t:List (List Int)} {v:Int} (h:TabN n t) (hi:i<t.length) (hv:0≤v∧v<n):TabN n (t.set i (t[i].set j v)):=by
 refine ⟨by simpa using h.1,fun x hx=>?_⟩
 rcases List.mem_or_eq_of_mem_set hx with h1 | h1
 · exact h.2 x h1
 · rw [h1];exact (h.2 _ (List.getElem_mem hi)).set hv
def S_invW (pg:Pg):Prop:=∀ (n:Nat) (f s:List (List Int)),0<n→n≤64→PMN n f s→∃ X:List (List Int)×List (List Int),PMN n X.1 X.2∧Call pg 406 [sol f s] [sol f s] (ownS X)
set_option maxRecDepth 10000 in
theorem t_invW {pg:Pg} (hp:pg.fn 406=some c_spec_l02Inverse) (h398:S_empty pg):S_invW pg:=by
 intro n f s h0 hn hA
 have hfl:=hA.1.1
 have hsl:=hA.2.1
 refine Call.find hp rfl (by simp) ?_
 show wp _ _ c_spec_l02Inverse.body _ _
 generalize hR:(fun (x:X) (e:Env)=>∃ l:List (List Int)×List (List Int),PMN n l.1 l.2∧post c_spec_l02Inverse.rs [sol f s] [sol f s] (ownS l) x e)=R
 simp [c_spec_l02Inverse]
 rw [hfl]
 refine callR (h398 n h0 (by omega)) rfl rfl (fun _=>by simp) ?_
 simp
 refine wpLoop_count (fun a e=>∃ F S:List (List Int),PMN n F S∧e=fr [(1,some (.val (.mem .own none [tb f,tb s]))),(2,some (.val (.mem .own none [nil,nil]))),(3,some (.val (I n))),(4,some (.val (.mem .own none [ownTb F,ownTb S]))),(5,some (.val (I a)))]) n ?_ ?_ 0 _ (by omega) ⟨zeroT n n,zeroT n n,⟨zeroT_tabN h0,zeroT_tabN h0⟩,rfl⟩
 · rintro a e ha ⟨F,S,hX,rfl⟩
   simp [ha]
   refine wpLoop_count (fun b e=>∃ F S:List (List Int),PMN n F S∧e=fr [(1,some (.val (.mem .own none [tb f,tb s]))),(2,some (.val (.mem .own none [nil,nil]))),(3,some (.val (I n))),(4,some (.val (.mem .own none [ownTb F,ownTb S]))),(5,some (.val (I a))),(6,some (.val (I b)))]) n ?_ ?_ 0 _ (by omega) ⟨F,S,hX,by simp⟩
   · rintro b e hb ⟨F,S,hX,rfl⟩
     obtain ⟨u1,u2,u3,u4,u5⟩:=hA.1.at ha hb
     obtain ⟨v1,v2,v3,v4,v5⟩:=hA.2.at ha hb
     obtain ⟨P,hP⟩:∃ P:Nat,(f[a])[b]=P:=⟨((f[a])[b]).toNat,by omega⟩
     obtain ⟨Q,hQ⟩:∃ Q:Nat,(s[a])[b]=Q:=⟨((s[a])[b]).toNat,by omega⟩
     rw [hP] at u4 u5
     rw [hQ] at v4 v5
     have hPn:P<n:=by omega
     have hQn:Q<n:=by omega
     obtain ⟨x1,x2,x3,_⟩:=hX.1.at hPn hQn
     obtain ⟨y1,y2,y3,_⟩:=hX.2.at hPn hQn
     have w1:=hX.1.1
     have w2:=hX.2.1
     have hg1:(rows F)[P]?=some (ownL F[P]):=by rw [rows_get,List.getElem?_eq_getElem x1];rfl
     have hg2:(rows S)[P]?=some (ownL S[P]):=by rw [rows_get,List.getElem?_eq_getElem y1];rfl
     simp [hb,ha,hfl,hsl,u3,v3,hP,hQ,hPn,hQn,x3,y3,w1,w2]
     exact ⟨by omega,by omega,F.set P (F[P].set Q a),S.set P (S[P].set Q b),⟨hX.1.set2 x1 ⟨by omega,by omega⟩,hX.2.set2 y1 ⟨by omega,by omega⟩⟩,by simp only [ownTb,← rows_set2 x1,← rows_set2 y1]⟩
   · rintro e ⟨F,S,hX,rfl⟩
     simp
     exact ⟨by omega,F,S,hX,rfl⟩
 · rintro e ⟨F,S,hX,rfl⟩
   simp
   subst hR
   exact ⟨(F,S),hX,by simp [post,c_spec_l02Inverse]⟩
def okR2 (n:Nat) (R:List (List Int)):Prop:=TabN n R∧∀ x y,x<n→y<n→0≤ixOf (R.getD (v2 R x y).toNat []) x
def S_ivl (pg:Pg):Prop:=∀ (n:Nat) (R:List (List Int)),0<n→n≤64→okR2 n R→∃ X:List (List Int)×List (List Int),PMN n X.1 X.2∧Call pg 461 [tb R] [tb R] (ownS X)
set_option maxRecDepth 10000 in
theorem t_ivl {pg:Pg} (hp:pg.fn 461=some c_spec_l02Involutive) (h280:S_copyT pg 280) (h69:S_index pg):S_ivl pg:=by
 intro n R h0 hn ⟨hA,hI⟩
 have hRl:=hA.1
 have hfit:fits R:=⟨by omega,fun r hr=>by have:=(hA.2 r hr).1;omega⟩
 refine Call.find hp rfl (by simp) ?_
 show wp _ _ c_spec_l02Involutive.body _ _
 generalize hR:(fun (x:X) (e:Env)=>∃ l:List (List Int)×List (List Int),PMN n l.1 l.2∧post c_spec_l02Involutive.rs [tb R] [tb R] (ownS l) x e)=Rr
 simp [c_spec_l02Involutive]
 refine callR (h280 R hfit) rfl rfl (fun _=>by simp) ?_
 simp
 refine wpLoop_count (fun k e=>∃ s:List (List Int),(s.length=k∧∀ r∈s,RowIn n r)∧e=fr [(0,some (.val (tb R))),(2,some (.val (.mem .own none [nil,nil]))),(3,some (.val (.mem .own none [ownTb R,ownN2 s]))),(4,some (.val (I k)))]) n ?_ ?_ 0 _ (by omega) ⟨[],⟨rfl,by simp⟩,rfl⟩
 · rintro k e hk ⟨s,⟨g3,g4⟩,rfl⟩
   simp [hk,hRl]
   refine wpLoop_count (fun j e=>∃ b:List Int,(b.length=j∧∀ v∈b,0≤v∧v<n)∧e=fr [(0,some (.val (tb R))),(2,some (.val (.mem .own none [nil,nil]))),(3,some (.val (.mem .own none [ownTb R,ownN2 s]))),(4,some (.val (I k))),(5,some (.val (ownL b))),(6,some (.val (I j)))]) n ?_ ?_ 0 _ (by omega) ⟨[],⟨rfl,by simp⟩,rfl⟩
   · rintro j e hj ⟨b,⟨i3,i4⟩,rfl⟩
     obtain ⟨u1,u2,u3,u4,u5⟩:=hA.at hk hj
     have hv:=get_v2 u1 u2
     have hii:=hI k j hk hj
     rw [hv] at u4 u5
     obtain ⟨P,hP⟩:∃ P:Nat,v2 R k j=P:=⟨(v2 R k j).toNat,by omega⟩
     rw [hP] at hv u4 u5 hii
     have hPn:P<n:=by omega
     have hPl:P<R.length:=by omega
     have hrow:=hA.2 _ (List.getElem_mem hPl)
     have hg:R.getD P []=R[P]:=by simp [hPl]
     rw [Int.toNat_natCast,hg] at hii
     have hle:=(ixOf_le R[P] k).2
     have hc:=h69 R[P] k (by have:=hrow.1;omega)
     generalize ixOf R[P] k=z at *
     simp [hj,hRl,hk,u3,hv,hPn]
     refine callR hc rfl rfl (fun _=>rfl) ?_
     have hz:=hrow.1
     simp
     exact ⟨by unfold roomy;omega,by omega,b++[z],⟨by simp [i3],snoc_in i4 (by omega)⟩,by simp only [ownL,List.map_append,List.map_cons,List.map_nil]⟩
   · rintro e ⟨b,⟨i3,i4⟩,rfl⟩
     by_cases hk0:k=0
     · subst hk0
       obtain rfl:s=[]:=List.length_eq_zero_iff.1 g3
       simp [hRl]
       exact ⟨by unfold roomy;omega,[b],⟨rfl,one_row ⟨i3,i4⟩⟩,rfl⟩
     · rw [ownN2_ne g3 (by omega)]
       simp [hRl]
       exact ⟨by unfold roomy;omega,by omega,s++[b],TabN.snoc ⟨g3,g4⟩ ⟨i3,i4⟩,by simp only [ownN2_snoc]⟩
 · rintro e ⟨s,⟨g3,g4⟩,rfl⟩
   rw [ownN2_ne g3 h0]
   simp [hRl]
   subst hR
   exact ⟨(R,s),⟨hA,g3,g4⟩,by simp [post,c_spec_l02Involutive]⟩
theorem thenL_rowIn {n:Nat} {p q:List Int} (hp:RowIn n p) (hq:RowIn n q):RowIn n (thenL p q):=by
 refine ⟨by simp [thenL,hp.1],fun v hv=>?_⟩
 obtain ⟨x,hx,rfl⟩:=List.mem_map.1 hv
 have h1:=hp.2 x hx
 have h2:x.toNat<q.length:=by rw [hq.1];omega
 rw [List.getD_eq_getElem?_getD,List.getElem?_eq_getElem h2]
 exact hq.2 _ (List.getElem_mem h2)
def S_twd (pg:Pg):Prop:=∀ (c:Rw Int) (s:Int×Int) (n:Nat),Sr c s→0<n→n≤64→∃ (s':Int×Int) (X:List (List Int)×List (List Int)),(Sr c s'∧PMN n X.1 X.2)∧Call pg 459 [src c s,I n] [src c s',I n] (ownS X)
set_option maxRecDepth 10000 in
theorem t_twd {pg:Pg} (hp:pg.fn 459=some c_spec_l02Twisted) (h336:S_nxt pg) (h368:S_drw pg) (h334:S_unit pg) (h279:S_then pg 279) (h425:S_twst pg):S_twd pg:=by
 intro c s n hs h0 hn
 have hfind:=Call.findA (α:=(Int×Int)×(List (List Int)×List (List Int))) (Q:=fun Y=>Sr c Y.1∧PMN n Y.2.1 Y.2.2) (args:=[src c s,I n]) (args':=fun Y=>[src c Y.1,I n]) (r:=fun Y=>ownS Y.2) hp rfl (by simp [F.lets,c_spec_l02Twisted,List.range,List.range.loop]) (by simp [kindOf]) ?_
 · obtain ⟨Y,h1,h2⟩:=hfind
   exact ⟨_,_,h1,h2⟩
 show wp _ _ c_spec_l02Twisted.body (postX _ _ _ _ _) _
 generalize hR:postX (fun Y:(Int×Int)×(List (List Int)×List (List Int))=>Sr c Y.1∧PMN n Y.2.1 Y.2.2) c_spec_l02Twisted.rs [src c s,I n] (fun Y=>[src c Y.1,I n]) (fun Y=>ownS Y.2)=R
 obtain ⟨s1,p,⟨k1,k2,_⟩,hc1⟩:=h368 c s n hs hn
 obtain ⟨s2,r,⟨k3,k3'⟩,hc2⟩:=h336.at k1 (n:=4) (by omega)
 simp [c_spec_l02Twisted]
 refine callS (ts':=[rawB c,I s1.1,H64 s1.2]) (r:=ownL p) (by simpa using hc1) ?_
 simp
 refine callR (h334 n (by omega)) rfl rfl (fun _=>by simp) ?_
 simp
 refine callS (ts':=[rawB c,I s2.1,H64 s2.2]) (r:=I r) (by simpa using hc2) ?_
 simp
 refine wpLoop_lower (α:=List Int×Nat) (fun z=>z.2) (fun z e=>(RowIn n z.1∧z.2≤4)∧e=fr [(0,some (.val (src c s2))),(1,some (.val (I n))),(4,some (.val (.mem .own none [nil,nil]))),(5,some (.val (ownL p))),(6,some (.val (ownL z.1))),(7,some (.val (I z.2)))]) ?_ (idL n,r) _ ⟨⟨(idL_rowIn n).1,by simp only;omega⟩,rfl⟩
 rintro ⟨q,j⟩ e ⟨⟨g1,g2⟩,rfl⟩
 simp only at g1 g2
 by_cases hj:0<j
 · have hql:=g1.1
   have hpl:=k2.1
   have hc3:=h279 q p (by omega) (by unfold inN;rw [hpl];exact g1.2)
   simp [hj]
   refine callR hc3 rfl rfl (fun _=>by simp) ?_
   simp
   exact ⟨by omega,thenL q p,j-1,by omega,⟨thenL_rowIn g1 k2,by omega⟩,by
    have:(j:Int)-1=((j-1:Nat):Int):=by omega
    rw [this]⟩
 · obtain rfl:j=0:=by omega
   obtain ⟨s3,b,⟨k4,_⟩,hc4⟩:=h336.at k3 (n:=2) (by omega)
   simp
   refine callS (ts':=[rawB c,I s3.1,H64 s3.2]) (r:=I b) (by simpa using hc4) ?_
   by_cases hb:b=0
   · obtain ⟨X,⟨hX,_⟩,hc5⟩:=h425 n p q h0 hn k2 g1
     simp [hb]
     refine callR hc5 rfl rfl (fun _=>by simp) ?_
     simp
     subst hR
     exact ⟨(s3,X),⟨k4,hX⟩,by simp [post,c_spec_l02Twisted]⟩
   · obtain ⟨X,⟨hX,_⟩,hc5⟩:=h425 n q p h0 hn g1 k2
     simp [hb]
     refine callR hc5 rfl rfl (fun _=>by simp) ?_
     simp
     subst hR
     exact ⟨(s3,X),⟨k4,hX⟩,by simp [post,c_spec_l02Twisted]⟩
end Go.Mch
namespace Go.Mch
abbrev S2:=List (List Int)×List (List Int)
def rw4:List (List Int):=[[0,1,3,2],[0,1,3,2],[1,0,2,3],[1,0,2,3]]
def rw3:List (List Int):=[[0,1,2],[0,1,2],[1,0,2]]
theorem rw4_ok:okR2 4 rw4:=by
 refine ⟨⟨rfl,fun r hr=>?_⟩,fun x y hx hy=>?_⟩
 · simp only [rw4,List.mem_cons,List.not_mem_nil,or_false] at hr
   rcases hr with rfl | rfl | rfl | rfl <;> exact ⟨rfl,by decide⟩
 · have:∀ x<4,∀ y<4,0≤ixOf (rw4.getD (v2 rw4 x y).toNat []) x:=by decide
   exact this x hx y hy
theorem rw3_ok:okR2 3 rw3:=by
 refine ⟨⟨rfl,fun r hr=>?_⟩,fun x y hx hy=>?_⟩
 · simp only [rw3,List.mem_cons,List.not_mem_nil,or_false] at hr
   rcases hr with rfl | rfl | rfl <;> exact ⟨rfl,by decide⟩
 · have:∀ x<3,∀ y<3,0≤ixOf (rw3.getD (v2 rw3 x y).toNat []) x:=by decide
   exact this x hx y hy
def S_anyM (pg:Pg) (most:Nat):Prop:=∀ (c:Rw Int) (s:Int×Int),Sr c s→∃ (s':Int×Int) (n:Nat) (X:S2),(Sr c s'∧0<n∧n≤most∧PMN n X.1 X.2)∧Call pg 445 [src c s,I most] [src c s',I most] (ownS X)
def S_any (pg:Pg):Prop:=∀ most:Nat,0<most→most≤12→S_anyM pg most
set_option maxRecDepth 10000 in
theorem t_any {pg:Pg} (hp:pg.fn 445=some c_spec_l02Any) (h336:S_nxt pg) (h449:S_flp pg) (h423:S_poly pg) (h458:S_prd pg) (h459:S_twd pg) (h460:S_uni pg) (h461:S_ivl pg) (h406:S_invW pg):S_any pg:=by
 intro most
 induction most using Nat.strongRecOn with
 | _ most ih =>
 intro m0 m12 c s hs
 have hfind:=Call.findA (α:=(Int×Int)×Nat×S2) (Q:=fun Y=>Sr c Y.1∧0<Y.2.1∧Y.2.1≤most∧PMN Y.2.1 Y.2.2.1 Y.2.2.2) (args:=[src c s,I most]) (args':=fun Y=>[src c Y.1,I most]) (r:=fun Y=>ownS Y.2.2) hp rfl (by simp [F.lets,c_spec_l02Any,List.range,List.range.loop]) (by simp [kindOf]) ?_
 · obtain ⟨Y,h1,h2⟩:=hfind
   exact ⟨_,_,_,h1,h2⟩
 show wp _ _ c_spec_l02Any.body (postX _ _ _ _ _) _
 generalize hR:postX (fun Y:(Int×Int)×Nat×S2=>Sr c Y.1∧0<Y.2.1∧Y.2.1≤most∧PMN Y.2.1 Y.2.2.1 Y.2.2.2) c_spec_l02Any.rs [src c s,I most] (fun Y=>[src c Y.1,I most]) (fun Y=>ownS Y.2.2)=R
 have hfin:∀ (s':Int×Int) (k:Nat) (X:S2),Sr c s'→0<k→k≤most→PMN k X.1 X.2→R .ret (fr [(0,some (.val (src c s'))),(1,some (.val (I most))),(4,some (.val (.mem .own none [ownTb X.1,ownTb X.2])))]):=by
  intro s' k X a1 a2 a3 a4
  subst hR
  exact ⟨(s',k,X),⟨a1,a2,a3,a4⟩,by simp [post,c_spec_l02Any]⟩
 obtain ⟨s1,r1,⟨k1,k2⟩,hc1⟩:=h336.at hs (n:=most) m0
 obtain ⟨s2,kd,⟨k3,k4⟩,hc2⟩:=h336.at k1 (n:=8) (by omega)
 obtain ⟨n,hn⟩:∃ n:Nat,(1:Int)+r1=n:=⟨1+r1,by omega⟩
 have hn0:0<n:=by omega
 have hnm:n≤most:=by omega
 simp [c_spec_l02Any]
 refine callS (ts':=[rawB c,I s1.1,H64 s1.2]) (r:=I r1) (by simpa using hc1) ?_
 simp [hn]
 refine ⟨by omega,?_⟩
 refine callS (ts':=[rawB c,I s2.1,H64 s2.2]) (r:=I kd) (by simpa using hc2) ?_
 obtain ⟨sL,XL,⟨jL1,jL2⟩,hcL⟩:=h459 c s2 n k3 hn0 (by omega)
 simp
 rcases (by omega:kd=0∨kd=1∨kd=2∨kd=3∨kd=4∨kd=5∨kd=6∨kd=7) with rfl | rfl | rfl | rfl | rfl | rfl | rfl | rfl
 · obtain ⟨X,⟨hX,_⟩,hc⟩:=h449 n hn0 (by omega)
   simp
   refine callR hc rfl rfl (fun _=>by simp) ?_
   simp
   exact hfin s2 n X k3 hn0 hnm hX
 · obtain ⟨X,hX,hc⟩:=h423 n hn0 (by omega)
   simp
   refine callR hc rfl rfl (fun _=>by simp) ?_
   simp
   exact hfin s2 n X k3 hn0 hnm hX
 · obtain ⟨q,hq,hq2⟩:∃ q:Nat,(n:Int) / 2=q∧q=n / 2:=⟨n / 2,by omega,rfl⟩
   have e1:(n:Int).tmod 2=(n:Int) % 2:=by rw [Int.tmod_eq_emod_of_nonneg (by omega)]
   by_cases h4:4≤n
   · have h4':(4:Int)≤n:=by omega
     by_cases hev:(n:Int) % 2=0
     · obtain ⟨s3,X,⟨j1,j2⟩,hc3⟩:=h459 c s2 q k3 (by omega) (by omega)
       obtain ⟨s4,Y,⟨j3,j4⟩,hc4⟩:=h459 c s3 2 j1 (by omega) (by omega)
       obtain ⟨Z,hZ,hc5⟩:=h458 q 2 X.1 X.2 Y.1 Y.2 (by omega) (by omega) (by omega) j2 j4
       rw [show q*2=n by omega] at hZ
       simp [h4',hev,e1,hq]
       refine ⟨by omega,?_⟩
       refine callS (ts':=[rawB c,I s3.1,H64 s3.2]) (r:=ownS X) (by simpa using hc3) ?_
       simp
       refine callS (ts':=[rawB c,I s4.1,H64 s4.2]) (r:=ownS Y) (by simpa using hc4) ?_
       simp
       refine callR hc5 rfl rfl (fun _=>by simp) ?_
       simp
       exact hfin s4 n Z j3 hn0 hnm hZ
     · simp [h4',hev,e1]
       refine callS (ts':=[rawB c,I sL.1,H64 sL.2]) (r:=ownS XL) (by simpa using hcL) ?_
       simp
       exact hfin sL n XL jL1 hn0 hnm jL2
   · have h4':¬(4:Int)≤n:=by omega
     simp [h4',undefV]
     refine callS (ts':=[rawB c,I sL.1,H64 sL.2]) (r:=ownS XL) (by simpa using hcL) ?_
     simp
     exact hfin sL n XL jL1 hn0 hnm jL2
 · by_cases h2:2≤n
   · have h2':(2:Int)≤n:=by omega
     obtain ⟨n1,hn1⟩:∃ n1:Nat,(n:Int)-1=n1:=⟨n-1,by omega⟩
     obtain ⟨s3,r3,⟨j1,j2⟩,hc3⟩:=h336.at k3 (n:=n1) (by omega)
     obtain ⟨m,hm⟩:∃ m:Nat,(1:Int)+r3=m:=⟨1+r3,by omega⟩
     obtain ⟨d,hd⟩:∃ d:Nat,(n:Int)-m=d:=⟨n-m,by omega⟩
     obtain ⟨s4,k,X,⟨j3,j4,j5,j6⟩,hc4⟩:=ih m (by omega) (by omega) (by omega) c s3 j1
     obtain ⟨s5,Y,⟨j7,j8⟩,hc5⟩:=h459 c s4 d j3 (by omega) (by omega)
     obtain ⟨Z,hZ,hc6⟩:=h460 k d X.1 X.2 Y.1 Y.2 j4 (by omega) (by omega) j6 j8
     simp [h2',hn1]
     refine ⟨by omega,?_⟩
     refine callS (ts':=[rawB c,I s3.1,H64 s3.2]) (r:=I r3) (by simpa using hc3) ?_
     simp [hm]
     refine ⟨by omega,?_⟩
     refine callS (ts':=[rawB c,I s4.1,H64 s4.2]) (r:=ownS X) (by simpa using hc4) ?_
     simp [hd]
     refine ⟨by omega,?_⟩
     refine callS (ts':=[rawB c,I s5.1,H64 s5.2]) (r:=ownS Y) (by simpa using hc5) ?_
     simp
     refine callR hc6 rfl rfl (fun _=>by simp) ?_
     simp
     exact hfin s5 (k+d) Z j7 (by omega) (by omega) hZ
   · have h2':¬(2:Int)≤n:=by omega
     simp [h2']
     refine callS (ts':=[rawB c,I sL.1,H64 sL.2]) (r:=ownS XL) (by simpa using hcL) ?_
     simp
     exact hfin sL n XL jL1 hn0 hnm jL2
 · by_cases h4:4≤most
   · have h4':(4:Int)≤most:=by omega
     obtain ⟨Z,hZ,hc6⟩:=h461 4 rw4 (by omega) (by omega) rw4_ok
     simp [h4']
     refine callR hc6 rfl rfl (fun _=>by simp) ?_
     simp
     exact hfin s2 4 Z k3 (by omega) (by omega) hZ
   · have h4':¬(4:Int)≤most:=by omega
     simp [h4']
     refine callS (ts':=[rawB c,I sL.1,H64 sL.2]) (r:=ownS XL) (by simpa using hcL) ?_
     simp
     exact hfin sL n XL jL1 hn0 hnm jL2
 · by_cases h2:2≤n
   · have h2':(2:Int)≤n:=by omega
     obtain ⟨X,hX,hc⟩:=h423 n hn0 (by omega)
     obtain ⟨Z,hZ,hc6⟩:=h406 n X.1 X.2 hn0 (by omega) hX
     simp [h2']
     refine callR hc rfl rfl (fun _=>by simp) ?_
     simp
     refine callR hc6 rfl rfl (fun _=>by simp) ?_
     simp
     exact hfin s2 n Z k3 hn0 hnm hZ
   · have h2':¬(2:Int)≤n:=by omega
     simp [h2']
     refine callS (ts':=[rawB c,I sL.1,H64 sL.2]) (r:=ownS XL) (by simpa using hcL) ?_
     simp
     exact hfin sL n XL jL1 hn0 hnm jL2
 · by_cases h4:3≤most
   · have h4':(3:Int)≤most:=by omega
     obtain ⟨Z,hZ,hc6⟩:=h461 3 rw3 (by omega) (by omega) rw3_ok
     simp [h4']
     refine callR hc6 rfl rfl (fun _=>by simp) ?_
     simp
     exact hfin s2 3 Z k3 (by omega) (by omega) hZ
   · have h4':¬(3:Int)≤most:=by omega
     simp [h4']
     refine callS (ts':=[rawB c,I sL.1,H64 sL.2]) (r:=ownS XL) (by simpa using hcL) ?_
     simp
     exact hfin sL n XL jL1 hn0 hnm jL2
 · simp
   refine callS (ts':=[rawB c,I sL.1,H64 sL.2]) (r:=ownS XL) (by simpa using hcL) ?_
   simp
   exact hfin sL n XL jL1 hn0 hnm jL2
end Go.Mch
namespace Go.Mch
theorem TabN.tab {n:Nat} {t:List (List Int)} (h:TabN n t):Tab t:=fun r hr=>⟨by rw [(h.2 r hr).1,h.1],fun v hv=>by rw [h.1];exact (h.2 r hr).2 v hv⟩
theorem pm_of {n:Nat} {p:List Int} (h:RowIn n p) (hd:p.Nodup) (h0:0<n) (h12:n≤12):Pm p:=by
 have hl:=h.1
 exact ⟨⟨fun x hx=>by rw [hl];exact h.2 x hx,hd⟩,by omega,by omega⟩
def S_dr2 (pg:Pg):Prop:=∀ (c:Rw Int) (s:Int×Int) (most:Nat),Sr c s→0<most→most≤12→∃ (s':Int×Int) (n:Nat) (X:S2),(Sr c s'∧0<n∧n≤most∧PMN n X.1 X.2)∧Call pg 412 [src c s,I most] [src c s',I most] (ownS X)
set_option maxRecDepth 10000 in
theorem t_dr2 {pg:Pg} (hp:pg.fn 412=some c_spec_l02Draw) (h336:S_nxt pg) (h445:S_any pg) (h368:S_drw pg) (h422:S_renS pg):S_dr2 pg:=by
 intro c s most hs m0 m12
 have hfind:=Call.findA (α:=(Int×Int)×Nat×S2) (Q:=fun Y=>Sr c Y.1∧0<Y.2.1∧Y.2.1≤most∧PMN Y.2.1 Y.2.2.1 Y.2.2.2) (args:=[src c s,I most]) (args':=fun Y=>[src c Y.1,I most]) (r:=fun Y=>ownS Y.2.2) hp rfl (by simp [F.lets,c_spec_l02Draw,List.range,List.range.loop]) (by simp [kindOf]) ?_
 · obtain ⟨Y,h1,h2⟩:=hfind
   exact ⟨_,_,_,h1,h2⟩
 show wp _ _ c_spec_l02Draw.body (postX _ _ _ _ _) _
 generalize hR:postX (fun Y:(Int×Int)×Nat×S2=>Sr c Y.1∧0<Y.2.1∧Y.2.1≤most∧PMN Y.2.1 Y.2.2.1 Y.2.2.2) c_spec_l02Draw.rs [src c s,I most] (fun Y=>[src c Y.1,I most]) (fun Y=>ownS Y.2.2)=R
 have hfin:∀ (s':Int×Int) (k:Nat) (X:S2),Sr c s'→0<k→k≤most→PMN k X.1 X.2→R .ret (fr [(0,some (.val (src c s'))),(1,some (.val (I most))),(4,some (.val (.mem .own none [ownTb X.1,ownTb X.2])))]):=by
  intro s' k X a1 a2 a3 a4
  subst hR
  exact ⟨(s',k,X),⟨a1,a2,a3,a4⟩,by simp [post,c_spec_l02Draw]⟩
 obtain ⟨s1,n,X,⟨k1,k2,k3,k4⟩,hc1⟩:=h445 most m0 m12 c s hs
 obtain ⟨s2,r,⟨k5,_⟩,hc2⟩:=h336.at k1 (n:=4) (by omega)
 obtain ⟨s3,p,⟨k6,k7,k8⟩,hc3⟩:=h368 c s2 n k5 (by omega)
 have hpm:=pm_of k7 k8 k2 (by omega)
 have hl1:=k4.1.1
 have hc4:=h422 X.1 X.2 p k4.1.tab k4.2.tab hpm (by rw [k7.1,k4.1.1]) (by rw [k7.1,k4.2.1])
 simp [c_spec_l02Draw]
 refine callS (ts':=[rawB c,I s1.1,H64 s1.2]) (r:=ownS X) (by simpa using hc1) ?_
 simp
 refine callS (ts':=[rawB c,I s2.1,H64 s2.2]) (r:=I r) (by simpa using hc2) ?_
 by_cases hr:0<r
 · have hl2:=k4.2.1
   simp [hr,hl1,hl2]
   refine callS (ts':=[rawB c,I s3.1,H64 s3.2]) (r:=ownL p) (by simpa using hc3) ?_
   simp [hl1,hl2]
   refine callR hc4 rfl rfl (fun _=>by simp) ?_
   simp
   exact hfin s3 n (imT X.1 p,imT X.2 p) k6 k2 k3 ⟨imT_tabN k4.1 hpm k7.1,imT_tabN k4.2 hpm k7.1⟩
 · simp [hr]
   exact hfin s2 n X k5 k2 k3 k4
theorem rows_set1 (t:List (List Int)) (i:Nat) (r:List Int):(rows t).set i (ownL r)=rows (t.set i r):=by simp [rows,List.map_set]
def Bd (t:List (List Int)):Prop:=t.length≤20∧∀ r∈t,r.length≤20
theorem TabN.bd {n:Nat} {t:List (List Int)} (h:TabN n t) (hn:n≤20):Bd t:=⟨by rw [h.1];exact hn,fun r hr=>by rw [(h.2 r hr).1];exact hn⟩
theorem Bd.set {t:List (List Int)} (h:Bd t) {i:Nat} {r:List Int} (hr:r.length≤20):Bd (t.set i r):=⟨by simpa using h.1,fun x hx=>by
 rcases List.mem_or_eq_of_mem_set hx with h1 | h1
 · exact h.2 x h1
 · rw [h1];exact hr⟩
def S_bad (pg:Pg):Prop:=∀ (c:Rw Int) (s:Int×Int) (n:Nat),Sr c s→0<n→n≤12→∃ (s':Int×Int) (t:List (List Int)),(Sr c s'∧Bd t)∧Call pg 413 [src c s,I n] [src c s',I n] (ownTb t)
set_option maxRecDepth 10000 in
theorem t_bad {pg:Pg} (hp:pg.fn 413=some c_spec_l01Bad) (h336:S_nxt pg) (h428:S_tbs pg) (h334:S_unit pg) (h292:S_pick pg):S_bad pg:=by
 intro c s n hs n0 n12
 have hfind:=Call.findA (α:=(Int×Int)×List (List Int)) (Q:=fun Y=>Sr c Y.1∧Bd Y.2) (args:=[src c s,I n]) (args':=fun Y=>[src c Y.1,I n]) (r:=fun Y=>ownTb Y.2) hp rfl (by simp [F.lets,c_spec_l01Bad,List.range,List.range.loop]) (by simp [kindOf]) ?_
 · obtain ⟨Y,h1,h2⟩:=hfind
   exact ⟨_,_,h1,h2⟩
 show wp _ _ c_spec_l01Bad.body (postX _ _ _ _ _) _
 generalize hR:postX (fun Y:(Int×Int)×List (List Int)=>Sr c Y.1∧Bd Y.2) c_spec_l01Bad.rs [src c s,I n] (fun Y=>[src c Y.1,I n]) (fun Y=>ownTb Y.2)=R
 have hfin:∀ (s':Int×Int) (t:List (List Int)),Sr c s'→Bd t→R .ret (fr [(0,some (.val (src c s'))),(1,some (.val (I n))),(4,some (.val (ownTb t)))]):=by
  intro s' X a1 a2
  subst hR
  exact ⟨(s',X),⟨a1,a2⟩,by simp [post,c_spec_l01Bad]⟩
 obtain ⟨s1,t,⟨k1,k2⟩,hc1⟩:=h428 c s n hs n0 (by omega)
 obtain ⟨s2,kd,⟨k3,k3'⟩,hc2⟩:=h336.at k1 (n:=30) (by omega)
 have hbd:=k2.bd (by omega)
 have htl:=k2.1
 have ht0:0<t.length:=by omega
 have hrow0:=(k2.2 _ (List.getElem_mem ht0)).1
 have hg:(rows t)[0]?=some (ownL t[0]):=by rw [rows_get,List.getElem?_eq_getElem ht0];rfl
 simp [c_spec_l01Bad]
 refine callS (ts':=[rawB c,I s1.1,H64 s1.2]) (r:=ownTb t) (by simpa using hc1) ?_
 simp
 refine callS (ts':=[rawB c,I s2.1,H64 s2.2]) (r:=I kd) (by simpa using hc2) ?_
 simp
 rcases (by omega:kd=0∨kd=1∨kd=2∨kd=3∨kd=4∨5≤kd) with rfl | rfl | rfl | rfl | rfl | hk
 · simp
   refine callR (h334 n (by omega)) rfl rfl (fun _=>by simp) ?_
   simp
   have:=hfin s2 (t++[idL n]) k3 ⟨by simp;omega,fun r hr=>by
    rcases List.mem_append.1 hr with h1 | h1
    · exact hbd.2 r h1
    · rw [List.mem_singleton.1 h1];simp [idL];omega⟩
   exact ⟨by unfold roomy;omega,by simpa only [ownTb,rows_snoc] using this⟩
 · simp [ht0]
   have:=hfin s2 (t.set 0 (t[0]++[0])) k3 (hbd.set (by simp;omega))
   exact ⟨by unfold roomy;omega,by omega,by simpa only [ownTb,← rows_set1,ownL,List.map_append,List.map_cons,List.map_nil] using this⟩
 · obtain ⟨s3,z,⟨j1,_⟩,hc3⟩:=h292 c s2 [-1,n,1099511627776] k3 (by simp) (by simp)
   simp [ht0]
   simp only [ix,List.map_cons,List.map_nil] at hc3
   refine callS (ts':=[rawB c,I s3.1,H64 s3.2]) (r:=I z) (by simpa using hc3) ?_
   have ht00:0<t[0].length:=by omega
   simp [ht0,ht00]
   have:=hfin s3 (t.set 0 (t[0].set 0 z)) j1 (hbd.set (by simp;omega))
   exact ⟨by omega,by simpa only [ownTb,← rows_set1,ownL,List.map_set] using this⟩
 · simp
   exact hfin s2 [] k3 ⟨by simp,by simp⟩
 · obtain ⟨s3,t',⟨j1,j2⟩,hc3⟩:=h428 c s2 13 k3 (by omega) (by omega)
   simp
   refine callS (ts':=[rawB c,I s3.1,H64 s3.2]) (r:=ownTb t') (by simpa using hc3) ?_
   simp
   exact hfin s3 t' j1 (j2.bd (by omega))
 · have h1:¬kd=0:=by omega
   have h2:¬(kd:Int)=1:=by omega
   have h3:¬(kd:Int)=2:=by omega
   have h4:¬(kd:Int)=3:=by omega
   have h5:¬(kd:Int)=4:=by omega
   simp [h1,h2,h3,h4,h5]
   exact hfin s2 t k3 hbd
def S_spl (pg:Pg) (f:Nat):Prop:=∀ (c:Rw Int) (s:Int×Int) (most:Nat),Sr c s→0<most→most≤12→∃ (s':Int×Int) (X:S2),(Sr c s'∧Bd X.1∧Bd X.2)∧Call pg f [src c s,I most] [src c s',I most] (ownS X)
set_option maxRecDepth 10000 in
theorem t_spl {pg:Pg} (hp:pg.fn 379=some c_spec_l02Spoil) (h336:S_nxt pg) (h412:S_dr2 pg) (h368:S_drw pg) (h428:S_tbs pg) (h413:S_bad pg):S_spl pg 379:=by
 intro c s most hs m0 m12
 have hfind:=Call.findA (α:=(Int×Int)×S2) (Q:=fun Y=>Sr c Y.1∧Bd Y.2.1∧Bd Y.2.2) (args:=[src c s,I most]) (args':=fun Y=>[src c Y.1,I most]) (r:=fun Y=>ownS Y.2) hp rfl (by simp [F.lets,c_spec_l02Spoil,List.range,List.range.loop]) (by simp [kindOf]) ?_
 · obtain ⟨Y,h1,h2⟩:=hfind
   exact ⟨_,_,h1,h2⟩
 show wp _ _ c_spec_l02Spoil.body (postX _ _ _ _ _) _
 generalize hR:postX (fun Y:(Int×Int)×S2=>Sr c Y.1∧Bd Y.2.1∧Bd Y.2.2) c_spec_l02Spoil.rs [src c s,I most] (fun Y=>[src c Y.1,I most]) (fun Y=>ownS Y.2)=R
 have hfin:∀ (s':Int×Int) (X:S2),Sr c s'→Bd X.1→Bd X.2→R .ret (fr [(0,some (.val (src c s'))),(1,some (.val (I most))),(4,some (.val (.mem .own none [ownTb X.1,ownTb X.2])))]):=by
  intro s' X a1 a2 a3
  subst hR
  exact ⟨(s',X),⟨a1,a2,a3⟩,by simp [post,c_spec_l02Spoil]⟩
 obtain ⟨s1,n,X,⟨k1,n0,nm,hX⟩,hc1⟩:=h412 c s most hs m0 m12
 obtain ⟨s2,kd,⟨k3,k3'⟩,hc2⟩:=h336.at k1 (n:=24) (by omega)
 have hb1:=hX.1.bd (by omega)
 have hb2:=hX.2.bd (by omega)
 have hl1:=hX.1.1
 have hl2:=hX.2.1
 simp [c_spec_l02Spoil]
 refine callS (ts':=[rawB c,I s1.1,H64 s1.2]) (r:=ownS X) (by simpa using hc1) ?_
 simp [hl1]
 refine callS (ts':=[rawB c,I s2.1,H64 s2.2]) (r:=I kd) (by simpa using hc2) ?_
 simp
 rcases (by omega:kd=0∨kd=1∨kd=2∨kd=3∨kd=4∨5≤kd) with rfl | rfl | rfl | rfl | rfl | hk
 · obtain ⟨s3,a,⟨j1,j2⟩,hc3⟩:=h336.at k3 (n:=n) n0
   obtain ⟨s4,p,⟨j3,j4,_⟩,hc4⟩:=h368 c s3 n j1 (by omega)
   simp [hl1]
   refine callS (ts':=[rawB c,I s3.1,H64 s3.2]) (r:=I a) (by simpa using hc3) ?_
   simp
   refine callS (ts':=[rawB c,I s4.1,H64 s4.2]) (r:=ownL p) (by simpa using hc4) ?_
   simp [hl1,j2]
   have:=hfin s4 (X.1.set a p,X.2) j3 (hb1.set (by rw [j4.1];omega)) hb2
   exact ⟨by omega,by simpa only [ownTb,← rows_set1,ownL] using this⟩
 · obtain ⟨s3,a,⟨j1,j2⟩,hc3⟩:=h336.at k3 (n:=n) n0
   obtain ⟨s4,b,⟨j3,j4⟩,hc4⟩:=h336.at j1 (n:=n) n0
   obtain ⟨s5,z,⟨j5,j6⟩,hc5⟩:=h336.at j3 (n:=n) n0
   have ha:a<X.2.length:=by omega
   have hrow:=(hX.2.2 _ (List.getElem_mem ha)).1
   have hg:(rows X.2)[a]?=some (ownL X.2[a]):=by rw [rows_get,List.getElem?_eq_getElem ha];rfl
   simp [hl2]
   refine callS (ts':=[rawB c,I s3.1,H64 s3.2]) (r:=I a) (by simpa using hc3) ?_
   simp [hl2,j2,hrow]
   refine callS (ts':=[rawB c,I s4.1,H64 s4.2]) (r:=I b) (by simpa using hc4) ?_
   simp
   refine callS (ts':=[rawB c,I s5.1,H64 s5.2]) (r:=I z) (by simpa using hc5) ?_
   simp [hl2,j2,j4,hrow]
   have:=hfin s5 (X.1,X.2.set a (X.2[a].set b z)) j5 hb1 (hb2.set (by rw [List.length_set,hrow];omega))
   exact ⟨by omega,by simpa only [ownTb,← rows_set1,ownL,List.map_set] using this⟩
 · obtain ⟨s3,f,⟨j1,j2⟩,hc3⟩:=h428 c s2 n k3 n0 (by omega)
   obtain ⟨s4,g,⟨j3,j4⟩,hc4⟩:=h428 c s3 n j1 n0 (by omega)
   simp
   refine callS (ts':=[rawB c,I s3.1,H64 s3.2]) (r:=ownTb f) (by simpa using hc3) ?_
   simp
   refine callS (ts':=[rawB c,I s4.1,H64 s4.2]) (r:=ownTb g) (by simpa using hc4) ?_
   simp
   exact hfin s4 (f,g) j3 (j2.bd (by omega)) (j4.bd (by omega))
 · obtain ⟨s3,t',⟨j1,j2⟩,hc3⟩:=h413 c s2 n k3 n0 (by omega)
   simp
   refine callS (ts':=[rawB c,I s3.1,H64 s3.2]) (r:=ownTb t') (by simpa using hc3) ?_
   simp
   exact hfin s3 (X.1,t') j1 hb1 j2
 · obtain ⟨s3,t',⟨j1,j2⟩,hc3⟩:=h413 c s2 n k3 n0 (by omega)
   simp
   refine callS (ts':=[rawB c,I s3.1,H64 s3.2]) (r:=ownTb t') (by simpa using hc3) ?_
   simp
   exact hfin s3 (t',X.2) j1 j2 hb2
 · have h1:¬kd=0:=by omega
   have h2:¬(kd:Int)=1:=by omega
   have h3:¬(kd:Int)=2:=by omega
   have h4:¬(kd:Int)=3:=by omega
   have h5:¬(kd:Int)=4:=by omega
   simp [h1,h2,h3,h4,h5]
   exact hfin s2 X k3 hb1 hb2
end Go.Mch
namespace Go.Mch
def CY (n:Nat) (t:List (List Int)):Prop:=TabN n t∧∀ r∈t,r.Nodup
abbrev cyT (t:List (List Int)):T:=.agg [tb t]
abbrev ownC (t:List (List Int)):T:=.agg [ownTb t]
theorem CY.has {n:Nat} {t:List (List Int)} (h:CY n t) (h0:0<n) (h12:n≤12) {x y:Nat} (hx:x<n) (hy:y<n):∃ (h1:x<t.length),0≤ixOf t[x] y∧ixOf t[x] y<n:=by
 have h1:x<t.length:=by rw [h.1.1];exact hx
 have h2:=h.1.2 _ (List.getElem_mem h1)
 have hp:=pm_of h2 (h.2 _ (List.getElem_mem h1)) h0 h12
 have:=hp.mem (x:=y) (by rw [h2.1];exact hy)
 have h3:=ixOf_le t[x] y
 rw [h2.1] at h3
 exact ⟨h1,(ixOf_mem _ _).2 this,h3.2⟩
theorem invL_ok {p:List Int} (h:Pm p):RowIn p.length (invL p)∧(invL p).Nodup:=by
 refine ⟨⟨invL_length p,fun v hv=>?_⟩,?_⟩
 · obtain ⟨i,hi,rfl⟩:=List.getElem_of_mem hv
   have hil:i<p.length:=by simpa using hi
   have:=h.lt hil
   rw [invL_get hi]
   omega
 · rw [List.nodup_iff_pairwise_ne,List.pairwise_iff_getElem]
   intro i j hi hj hij he
   have hil:i<p.length:=by simpa using hi
   have hjl:j<p.length:=by simpa using hj
   rw [invL_get hi,invL_get hj] at he
   have h1:=h.at hil
   have h2:=h.at hjl
   have he':invQ p i=invQ p j:=by omega
   rw [he'] at h1
   rw [h1] at h2
   omega
def S_aff (pg:Pg):Prop:=∀ n a b c:Nat,0<n→n≤64→a≤64→b≤64→c≤64→∃ t:List (List Int),TabN n t∧Call pg 424 [I n,I a,I b,I c] [I n,I a,I b,I c] (ownC t)
set_option maxRecDepth 10000 in
theorem t_aff {pg:Pg} (hp:pg.fn 424=some c_spec_l05Affine):S_aff pg:=by
 intro n a b c h0 hn ha hb hc
 refine Call.find hp rfl (by simp) ?_
 show wp _ _ c_spec_l05Affine.body _ _
 generalize hR:(fun (x:X) (e:Env)=>∃ l:List (List Int),TabN n l∧post c_spec_l05Affine.rs [I n,I a,I b,I c] [I n,I a,I b,I c] (ownC l) x e)=R
 simp [c_spec_l05Affine]
 refine wpLoop_count (fun k e=>∃ s:List (List Int),(s.length=k∧∀ r∈s,RowIn n r)∧e=fr [(0,some (.val (I n))),(1,some (.val (I a))),(2,some (.val (I b))),(3,some (.val (I c))),(8,some (.val (.mem .own none [nil]))),(9,some (.val (.mem .own none [ownN2 s]))),(10,some (.val (I k)))]) n ?_ ?_ 0 _ (by omega) ⟨[],⟨rfl,by simp⟩,rfl⟩
 · rintro k e hk ⟨s,⟨g3,g4⟩,rfl⟩
   simp [hk]
   refine wpLoop_count (fun j e=>∃ q:List Int,(q.length=j∧∀ v∈q,0≤v∧v<n)∧e=fr [(0,some (.val (I n))),(1,some (.val (I a))),(2,some (.val (I b))),(3,some (.val (I c))),(8,some (.val (.mem .own none [nil]))),(9,some (.val (.mem .own none [ownN2 s]))),(10,some (.val (I k))),(11,some (.val (ownL q))),(12,some (.val (I j)))]) n ?_ ?_ 0 _ (by omega) ⟨[],⟨rfl,by simp⟩,rfl⟩
   · rintro j e hj ⟨q,⟨i3,i4⟩,rfl⟩
     obtain ⟨u,hu,hu2⟩:∃ u:Nat,(a:Int)*k=u∧u≤4096:=⟨a*k,by simp,Nat.mul_le_mul ha (by omega:k≤64)⟩
     obtain ⟨v,hv,hv2⟩:∃ v:Nat,(b:Int)*j=v∧v≤4096:=⟨b*j,by simp,Nat.mul_le_mul hb (by omega:j≤64)⟩
     obtain ⟨m,hm,hm2⟩:∃ m:Nat,((u:Int)+v+c).tmod n=m∧m<n:=⟨(u+v+c) % n,by rw [Int.tmod_eq_emod_of_nonneg (by omega),Int.natCast_emod];simp,Nat.mod_lt _ h0⟩
     have hn0:¬n=0:=by omega
     simp [hj,hu,hv,hm,hn0]
     exact ⟨by omega,by omega,by omega,by omega,by unfold roomy;omega,by omega,q++[(m:Int)],⟨by simp [i3],snoc_in i4 (by omega)⟩,by simp only [ownL,List.map_append,List.map_cons,List.map_nil]⟩
   · rintro e ⟨q,⟨i3,i4⟩,rfl⟩
     by_cases hk0:k=0
     · subst hk0
       obtain rfl:s=[]:=List.length_eq_zero_iff.1 g3
       simp
       exact ⟨by unfold roomy;omega,[q],⟨rfl,one_row ⟨i3,i4⟩⟩,rfl⟩
     · rw [ownN2_ne g3 (by omega)]
       simp
       exact ⟨by unfold roomy;omega,by omega,s++[q],TabN.snoc ⟨g3,g4⟩ ⟨i3,i4⟩,by simp only [ownN2_snoc]⟩
 · rintro e ⟨s,⟨g3,g4⟩,rfl⟩
   rw [ownN2_ne g3 h0]
   simp
   subst hR
   exact ⟨s,⟨g3,g4⟩,by simp [post,c_spec_l05Affine]⟩
def S_sqs (pg:Pg):Prop:=∀ (n:Nat) (t:List (List Int)),n≤64→TabN n t→∃ q:List Int,q.length=n∧Call pg 417 [tb t] [tb t] (ownL q)
set_option maxRecDepth 10000 in
theorem t_sqs {pg:Pg} (hp:pg.fn 417=some c_spec_l05Squares):S_sqs pg:=by
 intro n t hn ht
 have htl:=ht.1
 refine Call.find hp rfl (by simp) ?_
 show wp _ _ c_spec_l05Squares.body _ _
 generalize hR:(fun (x:X) (e:Env)=>∃ l:List Int,l.length=n∧post c_spec_l05Squares.rs [tb t] [tb t] (ownL l) x e)=R
 simp [c_spec_l05Squares]
 refine wpLoop_count (fun k e=>∃ q:List Int,q.length=k∧e=fr [(0,some (.val (tb t))),(3,some (.val (ownL q))),(4,some (.val (I k)))]) n ?_ ?_ 0 _ (by omega) ⟨[],rfl,rfl⟩
 · rintro k e hk ⟨q,g1,rfl⟩
   obtain ⟨u1,u2,u3,u4,u5⟩:=ht.at hk hk
   simp [hk,htl,u3]
   exact ⟨by unfold roomy;omega,by omega,q++[t[k][k]],by simp [g1],by simp only [ownL,List.map_append,List.map_cons,List.map_nil]⟩
 · rintro e ⟨q,g1,rfl⟩
   simp [htl]
   subst hR
   exact ⟨q,g1,by simp [post,c_spec_l05Squares]⟩
def S_flt (pg:Pg):Prop:=∀ (n:Nat) (t:List (List Int)),n≤64→TabN n t→∃ q:List Int,q.length≤3∧Call pg 418 [tb t] [tb t] (ownL q)
set_option maxRecDepth 10000 in
theorem t_flt {pg:Pg} (hp:pg.fn 418=some c_spec_l05Fault):S_flt pg:=by
 intro n t hn ht
 have htl:=ht.1
 refine Call.find hp rfl (by simp) ?_
 show wp _ _ c_spec_l05Fault.body _ _
 generalize hR:(fun (x:X) (e:Env)=>∃ l:List Int,l.length≤3∧post c_spec_l05Fault.rs [tb t] [tb t] (ownL l) x e)=R
 simp [c_spec_l05Fault,htl]
 refine wpLoop_count (fun x e=>e=fr [(0,some (.val (tb t))),(3,some (.val (I n))),(4,some (.val (I x)))]) n ?_ ?_ 0 _ (by omega) rfl
 · rintro x e hx rfl
   simp [hx]
   refine wpLoop_count (fun y e=>e=fr [(0,some (.val (tb t))),(3,some (.val (I n))),(4,some (.val (I x))),(5,some (.val (I y)))]) n ?_ ?_ 0 _ (by omega) rfl
   · rintro y e hy rfl
     simp [hy]
     refine wpLoop_count (fun z e=>e=fr [(0,some (.val (tb t))),(3,some (.val (I n))),(4,some (.val (I x))),(5,some (.val (I y))),(6,some (.val (I z)))]) n ?_ ?_ 0 _ (by omega) rfl
     · rintro z e hz rfl
       obtain ⟨a1,a2,a3,a4,a5⟩:=ht.at hx hy
       obtain ⟨b1,b2,b3,b4,b5⟩:=ht.at hx hz
       obtain ⟨c1,c2,c3,c4,c5⟩:=ht.at hy hx
       obtain ⟨d1,d2,d3,d4,d5⟩:=ht.at hy hz
       obtain ⟨A,hA⟩:∃ A:Nat,t[x][y]=A:=⟨(t[x][y]).toNat,by omega⟩
       obtain ⟨B,hB⟩:∃ A:Nat,t[x][z]=A:=⟨(t[x][z]).toNat,by omega⟩
       obtain ⟨C,hC⟩:∃ A:Nat,t[y][x]=A:=⟨(t[y][x]).toNat,by omega⟩
       obtain ⟨D,hD⟩:∃ A:Nat,t[y][z]=A:=⟨(t[y][z]).toNat,by omega⟩
       rw [hA] at a4 a5
       rw [hB] at b4 b5
       rw [hC] at c4 c5
       rw [hD] at d4 d5
       have hAn:A<n:=by omega
       have hBn:B<n:=by omega
       have hCn:C<n:=by omega
       have hDn:D<n:=by omega
       obtain ⟨m1,m2,m3,m4,m5⟩:=ht.at hAn hBn
       obtain ⟨n1,n2,n3,n4,n5⟩:=ht.at hCn hDn
       by_cases he:t[A][B]=t[C][D]
       · simp [hz,hx,hy,htl,a3,c3,hA,hB,hC,hD,hAn,hBn,hCn,hDn,m3,n3,he]
         omega
       · simp [hz,hx,hy,htl,a3,c3,hA,hB,hC,hD,hAn,hBn,hCn,hDn,m3,n3,he]
         subst hR
         exact ⟨[(x:Int),y,z],by simp,by simp [post,c_spec_l05Fault]⟩
     · rintro e rfl
       simp
       omega
   · rintro e rfl
     simp
     omega
 · rintro e rfl
   simp
   subst hR
   exact ⟨[],by simp,by simp [post,c_spec_l05Fault]⟩
end Go.Mch
namespace Go.Mch
def S_cyI (pg:Pg):Prop:=∀ (n:Nat) (t:List (List Int)),0<n→n≤12→TabN n t→∃ b:Bool,(b=true→∀ r∈t,r.Nodup)∧Call pg 363 [cyT t] [cyT t] (B b)
set_option maxRecDepth 10000 in
theorem t_cyI {pg:Pg} (hp:pg.fn 363=some c_spec_l05Is) (h46:S_table pg 46) (h410:S_l01Rows pg) (h417:S_sqs pg) (h47:S_perm pg 47) (h418:S_flt pg):S_cyI pg:=by
 intro n t h0 hn ht
 have htl:=ht.1
 have hT:=ht.tab
 have hc1:=h46 t (by omega) (fun r hr=>by have:=(ht.2 r hr).1;omega)
 have hist:isTable t:=⟨by omega,by omega,hT⟩
 have hc2:=h410 t hT (by omega) (by omega)
 obtain ⟨q,q1,hc3⟩:=h417 n t (by omega) ht
 have hc4:=h47 q (by omega)
 obtain ⟨w,w1,hc5⟩:=h418 n t (by omega) ht
 have hw1:w.length≤1048576:=by omega
 simp only [hist,decide_true] at hc1
 by_cases hr:permRows t
 · simp only [hr,decide_true] at hc2
   by_cases hq:isPerm q
   · simp only [hq,decide_true] at hc4
     refine ⟨decide (w.length=0),fun _ r hr'=>(hr r hr').2,Call.intro hp rfl (by simp) ?_⟩
     show wp _ _ c_spec_l05Is.body (post _ _ _ _) _
     simp [c_spec_l05Is]
     refine callR hc1 rfl rfl (fun _=>rfl) ?_
     simp
     refine callR hc2 rfl rfl (fun _=>rfl) ?_
     simp
     refine callR hc3 rfl rfl (fun _=>by simp) ?_
     simp
     refine callR hc4 rfl rfl (fun _=>rfl) ?_
     simp
     refine callR hc5 rfl rfl (fun _=>by simp) ?_
     simp
   · simp only [hq,decide_false] at hc4
     refine ⟨false,by simp,Call.intro hp rfl (by simp) ?_⟩
     show wp _ _ c_spec_l05Is.body (post _ _ _ _) _
     simp [c_spec_l05Is]
     refine callR hc1 rfl rfl (fun _=>rfl) ?_
     simp
     refine callR hc2 rfl rfl (fun _=>rfl) ?_
     simp
     refine callR hc3 rfl rfl (fun _=>by simp) ?_
     simp
     refine callR hc4 rfl rfl (fun _=>rfl) ?_
     simp [undefV]
 · simp only [hr,decide_false] at hc2
   refine ⟨false,by simp,Call.intro hp rfl (by simp) ?_⟩
   show wp _ _ c_spec_l05Is.body (post _ _ _ _) _
   simp [c_spec_l05Is]
   refine callR hc1 rfl rfl (fun _=>rfl) ?_
   simp
   refine callR hc2 rfl rfl (fun _=>rfl) ?_
   simp [undefV]
def S_cyc (pg:Pg):Prop:=∀ (n:Nat) (f s:List (List Int)),0<n→n≤12→CY n f→fits s→∃ t:List (List Int),CY n t∧Call pg 364 [sol f s] [sol f s] (ownC t)
set_option maxRecDepth 10000 in
theorem t_cyc {pg:Pg} (hp:pg.fn 364=some c_spec_l05Cycle) (h304:S_inv pg 304):S_cyc pg:=by
 intro n f s h0 hn hf hs
 have hfl:=hf.1.1
 refine Call.find hp rfl (by simp) ?_
 show wp _ _ c_spec_l05Cycle.body _ _
 generalize hR:(fun (x:X) (e:Env)=>∃ l:List (List Int),CY n l∧post c_spec_l05Cycle.rs [sol f s] [sol f s] (ownC l) x e)=R
 simp [c_spec_l05Cycle]
 refine wpLoop_count (fun k e=>∃ t:List (List Int),((t.length=k∧∀ r∈t,RowIn n r)∧∀ r∈t,r.Nodup)∧e=fr [(1,some (.val (.mem .own none [tb f,tb s]))),(2,some (.val (.mem .own none [nil]))),(3,some (.val (.mem .own none [ownN2 t]))),(4,some (.val (I k)))]) n ?_ ?_ 0 _ (by omega) ⟨[],⟨⟨rfl,by simp⟩,by simp⟩,rfl⟩
 · rintro k e hk ⟨t,⟨⟨g1,g2⟩,g3⟩,rfl⟩
   have hkl:k<f.length:=by omega
   have hr:=hf.1.2 _ (List.getElem_mem hkl)
   have hpm:=pm_of hr (hf.2 _ (List.getElem_mem hkl)) h0 hn
   have hc:=h304 f[k] hpm
   obtain ⟨j1,j2⟩:=invL_ok hpm
   rw [hr.1] at j1
   by_cases hk0:k=0
   · subst hk0
     obtain rfl:t=[]:=List.length_eq_zero_iff.1 g1
     simp [hk,hfl]
     refine callR hc rfl rfl (fun _=>by simp) ?_
     simp
     exact ⟨by unfold roomy;omega,[invL f[0]],⟨⟨rfl,one_row j1⟩,fun r hr=>by rw [List.mem_singleton.1 hr];exact j2⟩,rfl⟩
   · rw [ownN2_ne g1 (by omega)]
     simp [hk,hfl]
     refine callR hc rfl rfl (fun _=>by simp) ?_
     simp
     refine ⟨by unfold roomy;omega,by omega,t++[invL f[k]],⟨TabN.snoc ⟨g1,g2⟩ j1,fun r hr=>?_⟩,by simp only [ownN2_snoc]⟩
     rcases List.mem_append.1 hr with h1 | h1
     · exact g3 r h1
     · rw [List.mem_singleton.1 h1];exact j2
 · rintro e ⟨t,⟨⟨g1,g2⟩,g3⟩,rfl⟩
   rw [ownN2_ne g1 h0]
   simp [hfl]
   subst hR
   exact ⟨t,⟨⟨g1,g2⟩,g3⟩,by simp [post,c_spec_l05Cycle]⟩
def S_cys (pg:Pg):Prop:=∀ (n:Nat) (t:List (List Int)),0<n→n≤12→CY n t→∃ X:S2,PMN n X.1 X.2∧Call pg 366 [cyT t] [cyT t] (ownS X)
set_option maxRecDepth 10000 in
theorem t_cys {pg:Pg} (hp:pg.fn 366=some c_spec_l05Solution) (h398:S_empty pg) (h69:S_index pg):S_cys pg:=by
 intro n t h0 hn ht
 have htl:=ht.1.1
 refine Call.find hp rfl (by simp) ?_
 show wp _ _ c_spec_l05Solution.body _ _
 generalize hR:(fun (x:X) (e:Env)=>∃ l:S2,PMN n l.1 l.2∧post c_spec_l05Solution.rs [cyT t] [cyT t] (ownS l) x e)=R
 simp [c_spec_l05Solution]
 rw [htl]
 refine callR (h398 n h0 (by omega)) rfl rfl (fun _=>by simp) ?_
 simp
 refine wpLoop_count (fun a e=>∃ F S:List (List Int),PMN n F S∧e=fr [(1,some (.val (.mem .own none [tb t]))),(2,some (.val (.mem .own none [nil,nil]))),(3,some (.val (I n))),(4,some (.val (.mem .own none [ownTb F,ownTb S]))),(5,some (.val (I a)))]) n ?_ ?_ 0 _ (by omega) ⟨zeroT n n,zeroT n n,⟨zeroT_tabN h0,zeroT_tabN h0⟩,rfl⟩
 · rintro a e ha ⟨F,S,hX,rfl⟩
   have hal:a<t.length:=by omega
   have w1:=hX.1.1
   have w2:=hX.2.1
   have xF:a<F.length:=by omega
   have xS:a<S.length:=by omega
   have rF:=(hX.1.2 _ (List.getElem_mem xF)).1
   have rS:=(hX.2.2 _ (List.getElem_mem xS)).1
   have hg1:(rows F)[a]?=some (ownL F[a]):=by rw [rows_get,List.getElem?_eq_getElem xF];rfl
   have hg2:(rows S)[a]?=some (ownL S[a]):=by rw [rows_get,List.getElem?_eq_getElem xS];rfl
   simp [ha,w1,w2,rF,rS]
   refine wpLoop_count (fun b e=>∃ F S:List (List Int),PMN n F S∧e=fr [(1,some (.val (.mem .own none [tb t]))),(2,some (.val (.mem .own none [nil,nil]))),(3,some (.val (I n))),(4,some (.val (.mem .own none [ownTb F,ownTb S]))),(5,some (.val (I a))),(6,some (.sref 4 [0,a] 1 0 n)),(7,some (.sref 4 [1,a] 1 0 n)),(8,some (.val (I b)))]) n ?_ ?_ 0 _ (by omega) ⟨F,S,hX,by simp⟩
   · clear hg1 hg2 rF rS xF xS w1 w2 hX
     rintro b e hb ⟨F,S,hX,rfl⟩
     have w1:=hX.1.1
     have w2:=hX.2.1
     have xF:a<F.length:=by omega
     have xS:a<S.length:=by omega
     have rF:=(hX.1.2 _ (List.getElem_mem xF)).1
     have rS:=(hX.2.2 _ (List.getElem_mem xS)).1
     have hg1:(rows F)[a]?=some (ownL F[a]):=by rw [rows_get,List.getElem?_eq_getElem xF];rfl
     have hg2:(rows S)[a]?=some (ownL S[a]):=by rw [rows_get,List.getElem?_eq_getElem xS];rfl
     obtain ⟨_,z1,z2⟩:=ht.has h0 hn ha hb
     have hrow:=(ht.1.2 _ (List.getElem_mem hal)).1
     have hc:=h69 t[a] b (by omega)
     obtain ⟨u,hu⟩:∃ u:Nat,ixOf t[a] b=u:=⟨(ixOf t[a] b).toNat,by omega⟩
     rw [hu] at z1 z2 hc
     have hun:u<n:=by omega
     obtain ⟨m1,m2,m3,m4,m5⟩:=ht.1.at hun ha
     simp [hb,ha,htl]
     refine callR hc rfl rfl (fun _=>rfl) ?_
     simp [hb,ha,htl,w1,w2,rF,rS,hun,m3]
     exact ⟨by omega,by omega,F.set a (F[a].set b u),S.set a (S[a].set b t[u][a]),⟨hX.1.set2 xF ⟨by omega,by omega⟩,hX.2.set2 xS ⟨by omega,by omega⟩⟩,by simp only [ownTb,← rows_set2 xF,← rows_set2 xS]⟩
   · rintro e ⟨F,S,hX,rfl⟩
     simp
     exact ⟨by omega,F,S,hX,rfl⟩
 · rintro e ⟨F,S,hX,rfl⟩
   simp
   subst hR
   exact ⟨(F,S),hX,by simp [post,c_spec_l05Solution]⟩
theorem PMN.pm {n:Nat} {f s:List (List Int)} (h:PMN n f s) (h0:0<n) (h12:n≤12):PM f s:=⟨h.1.tab,h.2.tab,by rw [h.1.1,h.2.1],by rw [h.1.1];exact h0,by rw [h.1.1];exact h12⟩
theorem PMN.fits {n:Nat} {f s:List (List Int)} (h:PMN n f s) (h12:n≤12):fits f∧fits s:=⟨⟨by rw [h.1.1];omega,fun r hr=>by rw [(h.1.2 r hr).1];omega⟩,by rw [h.2.1];omega,fun r hr=>by rw [(h.2.2 r hr).1];omega⟩
def S_cyD (pg:Pg) (f:Nat):Prop:=∀ (c:Rw Int) (s:Int×Int) (most:Nat),Sr c s→0<most→most≤12→∃ (s':Int×Int) (n:Nat) (t:List (List Int)),(Sr c s'∧0<n∧n≤most∧CY n t)∧Call pg f [src c s,I most] [src c s',I most] (ownC t)
set_option maxRecDepth 10000 in
theorem t_cyA {pg:Pg} (hp:pg.fn 427=some c_spec_l05Any) (h336:S_nxt pg) (h424:S_aff pg) (h363:S_cyI pg) (h412:S_dr2 pg) (h350:S_nonDeg pg 350) (h351:S_twice pg 351) (h364:S_cyc pg) (h449:S_flp pg):S_cyD pg 427:=by
 intro c s most hs m0 m12
 have hfind:=Call.findA (α:=(Int×Int)×Nat×List (List Int)) (Q:=fun Y=>Sr c Y.1∧0<Y.2.1∧Y.2.1≤most∧CY Y.2.1 Y.2.2) (args:=[src c s,I most]) (args':=fun Y=>[src c Y.1,I most]) (r:=fun Y=>ownC Y.2.2) hp rfl (by simp [F.lets,c_spec_l05Any,List.range,List.range.loop]) (by simp [kindOf]) ?_
 · obtain ⟨Y,h1,h2⟩:=hfind
   exact ⟨_,_,_,h1,h2⟩
 show wp _ _ c_spec_l05Any.body (postX _ _ _ _ _) _
 generalize hR:postX (fun Y:(Int×Int)×Nat×List (List Int)=>Sr c Y.1∧0<Y.2.1∧Y.2.1≤most∧CY Y.2.1 Y.2.2) c_spec_l05Any.rs [src c s,I most] (fun Y=>[src c Y.1,I most]) (fun Y=>ownC Y.2.2)=R
 have hfin:∀ (s':Int×Int) (k:Nat) (t:List (List Int)),Sr c s'→0<k→k≤most→CY k t→R .ret (fr [(0,some (.val (src c s'))),(1,some (.val (I most))),(4,some (.val (.mem .own none [ownTb t])))]):=by
  intro s' k X a1 a2 a3 a4
  subst hR
  exact ⟨(s',k,X),⟨a1,a2,a3,a4⟩,by simp [post,c_spec_l05Any]⟩
 obtain ⟨s1,r1,⟨k1,k2⟩,hc1⟩:=h336.at hs (n:=most) m0
 obtain ⟨s2,kd,⟨k3,k4⟩,hc2⟩:=h336.at k1 (n:=3) (by omega)
 obtain ⟨n,hn⟩:∃ n:Nat,(1:Int)+r1=n:=⟨1+r1,by omega⟩
 have hn0:0<n:=by omega
 have hnm:n≤most:=by omega
 simp [c_spec_l05Any]
 refine callS (ts':=[rawB c,I s1.1,H64 s1.2]) (r:=I r1) (by simpa using hc1) ?_
 simp [hn]
 refine ⟨by omega,?_⟩
 refine callS (ts':=[rawB c,I s2.1,H64 s2.2]) (r:=I kd) (by simpa using hc2) ?_
 by_cases hk0:kd=0
 · simp [hk0]
   refine wpLoop_count (fun k e=>∃ s':Int×Int,Sr c s'∧e=fr [(0,some (.val (src c s'))),(1,some (.val (I most))),(4,some (.val (.mem .own none [nil]))),(5,some (.val (I n))),(6,some (.val (I k)))]) 30 ?_ ?_ 0 _ (by omega) ⟨s2,k3,rfl⟩
   · rintro k e hk ⟨s3,g1,rfl⟩
     obtain ⟨s4,a1,⟨j1,j2⟩,hd1⟩:=h336.at g1 (n:=n) hn0
     obtain ⟨s5,a2,⟨j3,j4⟩,hd2⟩:=h336.at j1 (n:=n) hn0
     obtain ⟨s6,a3,⟨j5,j6⟩,hd3⟩:=h336.at j3 (n:=n) hn0
     obtain ⟨t,ht,hd4⟩:=h424 n a1 a2 a3 hn0 (by omega) (by omega) (by omega) (by omega)
     obtain ⟨b,hb,hd5⟩:=h363 n t hn0 (by omega) ht
     have hk':(k:Int)<30:=by omega
     simp [hk']
     refine callS (ts':=[rawB c,I s4.1,H64 s4.2]) (r:=I a1) (by simpa using hd1) ?_
     simp
     refine callS (ts':=[rawB c,I s5.1,H64 s5.2]) (r:=I a2) (by simpa using hd2) ?_
     simp
     refine callS (ts':=[rawB c,I s6.1,H64 s6.2]) (r:=I a3) (by simpa using hd3) ?_
     simp
     refine callR hd4 rfl rfl (fun _=>by simp) ?_
     simp
     refine callR hd5 rfl rfl (fun _=>rfl) ?_
     cases b with
     | true =>
      simp
      exact hfin s6 n t j5 hn0 hnm ⟨ht,hb rfl⟩
     | false =>
      simp
      exact ⟨by omega,s6.1,s6.2,j5,rfl⟩
   · rintro e ⟨s3,g1,rfl⟩
     simp
     refine wpLoop_count (fun k e=>∃ s':Int×Int,Sr c s'∧e=fr [(0,some (.val (src c s'))),(1,some (.val (I most))),(4,some (.val (.mem .own none [nil]))),(5,some (.val (I n))),(8,some (.val (I k)))]) 8 ?_ ?_ 0 _ (by omega) ⟨s3,g1,rfl⟩
     · rintro k e hk ⟨s3,g1,rfl⟩
       obtain ⟨s4,m,X,⟨j1,j2,j3,j4⟩,hd1⟩:=h412 c s3 n g1 hn0 (by omega)
       have hpm:=j4.pm j2 (by omega)
       have hfit:=j4.fits (by omega)
       have hk':(k:Int)<8:=by omega
       have hd2:=h350 X.1 X.2 hpm
       have hd3:=h351 X.1 X.2 hpm
       simp [hk']
       refine callS (ts':=[rawB c,I s4.1,H64 s4.2]) (r:=ownS X) (by simpa using hd1) ?_
       simp
       refine callR hd2 rfl rfl (fun _=>rfl) ?_
       by_cases hg:nonDeg X.1 X.2
       · simp [hg]
         refine callR hd3 rfl rfl (fun _=>rfl) ?_
         generalize dec (isInv X.1 X.2)=b at *
         cases b with
         | true =>
          obtain ⟨t,ht,hd4⟩:=h364 m X.1 X.2 j2 (by omega) ⟨j4.1,fun r hr=>(hg.1 r hr).2⟩ hfit.2
          simp
          refine callR hd4 rfl rfl (fun _=>by simp) ?_
          simp
          exact hfin s4 m t j1 j2 (by omega) ht
         | false =>
          simp
          exact ⟨by omega,s4.1,s4.2,j1,rfl⟩
       · simp [hg,undefV]
         exact ⟨by omega,s4.1,s4.2,j1,rfl⟩
     · rintro e ⟨s3,g1,rfl⟩
       obtain ⟨X,⟨j1,j2⟩,hd1⟩:=h449 n hn0 (by omega)
       have hfit:=j1.fits (by omega)
       obtain ⟨t,ht,hd2⟩:=h364 n X.1 X.2 hn0 (by omega) ⟨j1.1,fun r hr=>by rw [j2 r hr];exact (idL_rowIn n).2⟩ hfit.2
       simp
       refine callR hd1 rfl rfl (fun _=>by simp) ?_
       simp
       refine callR hd2 rfl rfl (fun _=>by simp) ?_
       simp
       exact hfin s3 n t g1 hn0 hnm ht
 · simp [hk0]
   refine wpLoop_count (fun k e=>∃ s':Int×Int,Sr c s'∧e=fr [(0,some (.val (src c s'))),(1,some (.val (I most))),(4,some (.val (.mem .own none [nil]))),(5,some (.val (I n))),(8,some (.val (I k)))]) 8 ?_ ?_ 0 _ (by omega) ⟨s2,k3,rfl⟩
   · rintro k e hk ⟨s3,g1,rfl⟩
     obtain ⟨s4,m,X,⟨j1,j2,j3,j4⟩,hd1⟩:=h412 c s3 n g1 hn0 (by omega)
     have hpm:=j4.pm j2 (by omega)
     have hfit:=j4.fits (by omega)
     have hk':(k:Int)<8:=by omega
     have hd2:=h350 X.1 X.2 hpm
     have hd3:=h351 X.1 X.2 hpm
     simp [hk']
     refine callS (ts':=[rawB c,I s4.1,H64 s4.2]) (r:=ownS X) (by simpa using hd1) ?_
     simp
     refine callR hd2 rfl rfl (fun _=>rfl) ?_
     by_cases hg:nonDeg X.1 X.2
     · simp [hg]
       refine callR hd3 rfl rfl (fun _=>rfl) ?_
       generalize dec (isInv X.1 X.2)=b at *
       cases b with
       | true =>
        obtain ⟨t,ht,hd4⟩:=h364 m X.1 X.2 j2 (by omega) ⟨j4.1,fun r hr=>(hg.1 r hr).2⟩ hfit.2
        simp
        refine callR hd4 rfl rfl (fun _=>by simp) ?_
        simp
        exact hfin s4 m t j1 j2 (by omega) ht
       | false =>
        simp
        exact ⟨by omega,s4.1,s4.2,j1,rfl⟩
     · simp [hg,undefV]
       exact ⟨by omega,s4.1,s4.2,j1,rfl⟩
   · rintro e ⟨s3,g1,rfl⟩
     obtain ⟨X,⟨j1,j2⟩,hd1⟩:=h449 n hn0 (by omega)
     have hfit:=j1.fits (by omega)
     obtain ⟨t,ht,hd2⟩:=h364 n X.1 X.2 hn0 (by omega) ⟨j1.1,fun r hr=>by rw [j2 r hr];exact (idL_rowIn n).2⟩ hfit.2
     simp
     refine callR hd1 rfl rfl (fun _=>by simp) ?_
     simp
     refine callR hd2 rfl rfl (fun _=>by simp) ?_
     simp
     exact hfin s3 n t g1 hn0 hnm ht
theorem nodup_inj {p:List Int} (h:p.Nodup) {i j:Nat} (hi:i<p.length) (hj:j<p.length) (he:p.getD i 0=p.getD j 0):i=j:=by
 simp only [List.getD_eq_getElem?_getD,List.getElem?_eq_getElem hi,List.getElem?_eq_getElem hj,Option.getD_some] at he
 exact (List.getElem_inj h).1 he
theorem imT_nodup {n:Nat} {t:List (List Int)} {p:List Int} (ht:CY n t) (hp:Pm p) (hl:p.length=n):∀ r∈imT t p,r.Nodup:=by
 intro r hr
 obtain ⟨a,ha,rfl⟩:=List.mem_map.1 hr
 simp only [List.mem_range] at ha
 have htl:=ht.1.1
 have hA:=hp.lt (x:=a) (by omega)
 have hAt:invQ p a<t.length:=by omega
 have hrow:=ht.1.2 _ (List.getElem_mem hAt)
 have hnd:=ht.2 _ (List.getElem_mem hAt)
 rw [List.nodup_iff_pairwise_ne,List.pairwise_iff_getElem]
 intro i j hi hj hij he
 have hil:i<n:=by simp at hi;omega
 have hjl:j<n:=by simp at hj;omega
 simp only [List.getElem_map,List.getElem_range] at he
 unfold imG at he
 have hI:=hp.lt (x:=i) (by omega)
 have hJ:=hp.lt (x:=j) (by omega)
 obtain ⟨u1,u2,u3,u4,u5⟩:=ht.1.at (i:=invQ p a) (j:=invQ p i) (by omega) (by omega)
 obtain ⟨v1,v2',v3,v4,v5⟩:=ht.1.at (i:=invQ p a) (j:=invQ p j) (by omega) (by omega)
 have e1:=get_v2 u1 u2
 have e2:=get_v2 v1 v2'
 rw [e1] at u4 u5
 rw [e2] at v4 v5
 have h1:=nodup_inj hp.pm.2 (by omega) (by omega) he
 have h2:v2 t (invQ p a) (invQ p i)=v2 t (invQ p a) (invQ p j):=by omega
 rw [← e1,← e2] at h2
 have h3:=(List.getElem_inj hnd).1 h2
 have h4:=hp.at (x:=i) (by omega)
 have h5:=hp.at (x:=j) (by omega)
 rw [h3] at h4
 omega
set_option maxRecDepth 10000 in
theorem t_cyDr {pg:Pg} (hp:pg.fn 378=some c_spec_l05Draw) (h336:S_nxt pg) (h427:S_cyD pg 427) (h368:S_drw pg) (h367:S_image pg 367):S_cyD pg 378:=by
 intro c s most hs m0 m12
 have hfind:=Call.findA (α:=(Int×Int)×Nat×List (List Int)) (Q:=fun Y=>Sr c Y.1∧0<Y.2.1∧Y.2.1≤most∧CY Y.2.1 Y.2.2) (args:=[src c s,I most]) (args':=fun Y=>[src c Y.1,I most]) (r:=fun Y=>ownC Y.2.2) hp rfl (by simp [F.lets,c_spec_l05Draw,List.range,List.range.loop]) (by simp [kindOf]) ?_
 · obtain ⟨Y,h1,h2⟩:=hfind
   exact ⟨_,_,_,h1,h2⟩
 show wp _ _ c_spec_l05Draw.body (postX _ _ _ _ _) _
 generalize hR:postX (fun Y:(Int×Int)×Nat×List (List Int)=>Sr c Y.1∧0<Y.2.1∧Y.2.1≤most∧CY Y.2.1 Y.2.2) c_spec_l05Draw.rs [src c s,I most] (fun Y=>[src c Y.1,I most]) (fun Y=>ownC Y.2.2)=R
 have hfin:∀ (s':Int×Int) (k:Nat) (t:List (List Int)),Sr c s'→0<k→k≤most→CY k t→R .ret (fr [(0,some (.val (src c s'))),(1,some (.val (I most))),(4,some (.val (.mem .own none [ownTb t])))]):=by
  intro s' k X a1 a2 a3 a4
  subst hR
  exact ⟨(s',k,X),⟨a1,a2,a3,a4⟩,by simp [post,c_spec_l05Draw]⟩
 obtain ⟨s1,n,t,⟨k1,k2,k3,k4⟩,hc1⟩:=h427 c s most hs m0 m12
 obtain ⟨s2,r,⟨k5,_⟩,hc2⟩:=h336.at k1 (n:=3) (by omega)
 obtain ⟨s3,p,⟨k6,k7,k8⟩,hc3⟩:=h368 c s2 n k5 (by omega)
 have hpm:=pm_of k7 k8 k2 (by omega)
 have hl1:=k4.1.1
 have hc4:=h367 t p k4.1.tab hpm (by rw [k7.1,hl1])
 simp [c_spec_l05Draw]
 refine callS (ts':=[rawB c,I s1.1,H64 s1.2]) (r:=ownC t) (by simpa using hc1) ?_
 simp
 refine callS (ts':=[rawB c,I s2.1,H64 s2.2]) (r:=I r) (by simpa using hc2) ?_
 by_cases hr:0<r
 · simp [hr,hl1]
   refine callS (ts':=[rawB c,I s3.1,H64 s3.2]) (r:=ownL p) (by simpa using hc3) ?_
   simp [hl1]
   refine callR hc4 rfl rfl (fun _=>by simp) ?_
   simp
   refine hfin s3 n (imT t p) k6 k2 k3 ⟨imT_tabN k4.1 hpm k7.1,?_⟩
   exact imT_nodup k4 hpm k7.1
 · simp [hr]
   exact hfin s2 n t k5 k2 k3 k4
set_option maxRecDepth 10000 in
theorem t_spl7 {pg:Pg} (hp:pg.fn 268=some c_spec_l07Spoil) (h336:S_nxt pg) (h378:S_cyD pg 378) (h366:S_cys pg) (h379:S_spl pg 379):S_spl pg 268:=by
 intro c s most hs m0 m12
 have hfind:=Call.findA (α:=(Int×Int)×S2) (Q:=fun Y=>Sr c Y.1∧Bd Y.2.1∧Bd Y.2.2) (args:=[src c s,I most]) (args':=fun Y=>[src c Y.1,I most]) (r:=fun Y=>ownS Y.2) hp rfl (by simp [F.lets,c_spec_l07Spoil,List.range,List.range.loop]) (by simp [kindOf]) ?_
 · obtain ⟨Y,h1,h2⟩:=hfind
   exact ⟨_,_,h1,h2⟩
 show wp _ _ c_spec_l07Spoil.body (postX _ _ _ _ _) _
 generalize hR:postX (fun Y:(Int×Int)×S2=>Sr c Y.1∧Bd Y.2.1∧Bd Y.2.2) c_spec_l07Spoil.rs [src c s,I most] (fun Y=>[src c Y.1,I most]) (fun Y=>ownS Y.2)=R
 have hfin:∀ (s':Int×Int) (X:S2),Sr c s'→Bd X.1→Bd X.2→R .ret (fr [(0,some (.val (src c s'))),(1,some (.val (I most))),(4,some (.val (.mem .own none [ownTb X.1,ownTb X.2])))]):=by
  intro s' X a1 a2 a3
  subst hR
  exact ⟨(s',X),⟨a1,a2,a3⟩,by simp [post,c_spec_l07Spoil]⟩
 obtain ⟨s1,r,⟨k1,_⟩,hc1⟩:=h336.at hs (n:=3) (by omega)
 simp [c_spec_l07Spoil]
 refine callS (ts':=[rawB c,I s1.1,H64 s1.2]) (r:=I r) (by simpa using hc1) ?_
 by_cases hr:r=0
 · obtain ⟨s2,n,t,⟨k2,k3,k4,k5⟩,hc2⟩:=h378 c s1 most k1 m0 m12
   obtain ⟨X,hX,hc3⟩:=h366 n t k3 (by omega) k5
   simp [hr]
   refine callS (ts':=[rawB c,I s2.1,H64 s2.2]) (r:=ownC t) (by simpa using hc2) ?_
   simp
   refine callR hc3 rfl rfl (fun _=>by simp) ?_
   simp
   exact hfin s2 X k2 (hX.1.bd (by omega)) (hX.2.bd (by omega))
 · obtain ⟨s2,X,⟨k2,k3,k4⟩,hc2⟩:=h379 c s1 most k1 m0 m12
   simp [hr]
   refine callS (ts':=[rawB c,I s2.1,H64 s2.2]) (r:=ownS X) (by simpa using hc2) ?_
   simp
   exact hfin s2 X k2 k3 k4
def S_drS (pg:Pg) (f:Nat):Prop:=∀ c:Rw Int,okB c→∃ X:S2,(Bd X.1∧Bd X.2)∧Call pg f [rawB c] [rawB c] (ownS X)
end Go.Mch
namespace Go.Mch
def S_big (pg:Pg):Prop:=∀ c:Rw Int,Call pg 128 [rawB c] [rawB c] (B (decide ((4096:Int)<(lst c).length)))
theorem t_big {pg:Pg} (hp:pg.fn 128=some c_laws_big):S_big pg:=by
 intro c
 refine Call.intro hp rfl (by simp) ?_
 show wp _ _ c_laws_big.body (post [.t 2] _ _ _) _
 simp [c_laws_big]
def S_likeI (pg:Pg):Prop:=∀ a b:Rw Int,(lst a).length≤1048576→Call pg 141 [rawI a,rawI b] [rawI a,rawI b] (B (decide (lst a=lst b)))
theorem t_likeI {pg:Pg} (hp:pg.fn 141=some c_laws_likeInts):S_likeI pg:=by
 intro a b ha
 refine Call.intro hp rfl (by simp) ?_
 show wp _ _ c_laws_likeInts.body (post [.t 4] _ _ _) _
 by_cases hl:(lst a).length=(lst b).length
 · simp [c_laws_likeInts,hl]
   refine wpLoop_count (fun k e=>(∀ i,i<k→(lst a)[i]?=(lst b)[i]?)∧e=fr [(0,some (.val (rawI a))),(1,some (.val (rawI b))),(5,some (.val (I k)))]) (lst a).length ?_ ?_ 0 _ (by omega) ?_
   · rintro k e hk ⟨h1,rfl⟩
     have hk2:k<(lst b).length:=by omega
     by_cases hne:(lst a)[k]=(lst b)[k]
     · simp [hk,hk2,hne]
       refine ⟨by omega,fun i hi=>?_⟩
       rcases Nat.lt_or_ge i k with h2 | h2
       · exact h1 i h2
       · have:i=k:=by omega
         subst this
         rw [List.getElem?_eq_getElem hk,List.getElem?_eq_getElem hk2,hne]
     · simp [hk,hk2,hne]
       intro h2
       exact hne (by simp [h2])
   · rintro e ⟨h1,rfl⟩
     simp [hl]
     apply List.ext_getElem?
     intro i
     rcases Nat.lt_or_ge i (lst a).length with h2 | h2
     · exact h1 i h2
     · rw [List.getElem?_eq_none h2,List.getElem?_eq_none (by omega)]
   · exact ⟨fun i hi=>by omega,by simp⟩
 · have:lst a≠lst b:=fun h=>hl (by rw [h])
   have h2:((lst a).length:Int)≠(lst b).length:=by omega
   simp [c_laws_likeInts,h2,this]

def S_likeT (pg:Pg):Prop:=∀ a b:Rw (Rw Int),small a→Call pg 137 [rawT a,rawT b] [rawT a,rawT b] (B (decide ((lst a).map lst=(lst b).map lst)))
theorem t_likeT {pg:Pg} (hp:pg.fn 137=some c_laws_likeRows5) (h141:S_likeI pg):S_likeT pg:=by
 intro a b ⟨ha,hr⟩
 refine Call.intro hp rfl (by simp) ?_
 show wp _ _ c_laws_likeRows5.body (post [.t 4] _ _ _) _
 by_cases hl:(lst a).length=(lst b).length
 · simp [c_laws_likeRows5,hl]
   refine wpLoop_count (fun k e=>(∀ i,i<k→((lst a).map lst)[i]?=((lst b).map lst)[i]?)∧e=fr [(0,some (.val (rawT a))),(1,some (.val (rawT b))),(5,some (.val (I k)))]) (lst a).length ?_ ?_ 0 _ (by omega) ?_
   · rintro k e hk ⟨h1,rfl⟩
     have hk2:k<(lst b).length:=by omega
     simp [hk,hk2]
     refine callR (h141 _ _ (hr _ (List.getElem_mem hk))) rfl rfl (fun _=>rfl) ?_
     by_cases hne:lst (lst a)[k]=lst (lst b)[k]
     · simp [hne]
       refine ⟨by omega,fun i hi=>?_⟩
       rcases Nat.lt_or_ge i k with h2 | h2
       · have:=h1 i h2
         simpa using this
       · have:i=k:=by omega
         subst this
         simp [hk,hk2,hne]
     · simp [hne]
       intro h2
       have h3:=congrArg (fun l=>l[k]?) h2
       simp [hk,hk2] at h3
       exact hne h3
   · rintro e ⟨h1,rfl⟩
     simp [hl]
     apply List.ext_getElem?
     intro i
     rcases Nat.lt_or_ge i (lst a).length with h2 | h2
     · exact h1 i h2
     · rw [List.getElem?_eq_none (by simpa using h2),List.getElem?_eq_none (by simp;omega)]
   · exact ⟨fun i hi=>by omega,by simp⟩
 · have:(lst a).map lst≠(lst b).map lst:=fun h=>hl (by have:=congrArg List.length h;simpa using this)
   have h2:((lst a).length:Int)≠(lst b).length:=by omega
   simp [c_laws_likeRows5,h2,this]

def S_same9 (pg:Pg):Prop:=∀ a b:Rw (Rw Int),small a→Call pg 178 [rawT a,rawT b] [rawT a,rawT b] (B (decide ((lst a).map lst=(lst b).map lst)))
theorem S_likeT.tb {pg:Pg} (h:S_likeT pg) (X Y:List (List Int)) (hs:smallT X):Call pg 137 [tb X,tb Y] [tb X,tb Y] (B (decide (X=Y))):=by
 have:=h (ryT (some X)) (ryT (some Y)) (small_ry hs)
 simp only [rawT_ry,lst_ry] at this
 exact this
end Go.Mch
namespace Go.Mch

structure Rck (n:Nat) (T:Nat→Nat→Nat):Prop where
 r:∀ x y,x<n→y<n→T x y<n
 i:∀ x y y',x<n→y<n→y'<n→T x y=T x y'→y=y'
 sd:∀ x y z,x<n→y<n→z<n→T x (T y z)=T (T x y) (T x z)
structure Aut (n:Nat) (T:Nat→Nat→Nat) (P Q:Nat→Nat):Prop where
 p:∀ x,x<n→P x<n
 q:∀ x,x<n→Q x<n
 pq:∀ x,x<n→P (Q x)=x
 qp:∀ x,x<n→Q (P x)=x
 a:∀ x y,x<n→y<n→P (T x y)=T (P x) (P y)
end Go.Mch
namespace Go.Mch
structure Cnj (L:List (List Int)):Prop where
 pos:0<L.length
 six:L.length≤6
 pm:∀ p∈L,Pm p∧p.length=3
 cl:∀ i j (hi:i<L.length) (hj:j<L.length),∃ m,∃ h:m<L.length,L[m]=thenL (thenL (invL L[i]) L[j]) L[i]
end Go.Mch
namespace Go.Mch
theorem S_likeI.ix {pg:Pg} (h:S_likeI pg) (X Y:List Int) (hs:X.length≤1048576):Call pg 141 [ix X,ix Y] [ix X,ix Y] (B (decide (X=Y))):=h (.of X) (.of Y) hs
end Go.Mch
namespace Go.Mch
def SqS (X:S2):Prop:=∃ m,0<m∧m≤12∧(X.1.length=m∧∀ r∈X.1,r.length=m)∧(X.2.length=m∧∀ r∈X.2,r.length=m)
end Go.Mch
namespace Go.Mch
theorem tab_sm {f s:List (List Int)} (h:PM f s):smallT f∧smallT s:=by
 have h12:=h.small
 have hl:=h.len
 exact ⟨⟨by omega,fun r hr=>by have:=(h.tf r hr).1;omega⟩,⟨by omega,fun r hr=>by have:=(h.ts r hr).1;omega⟩⟩
theorem Bd.fits {t:List (List Int)} (h:Bd t):fits t:=⟨by have:=h.1;omega,fun r hr=>by have:=h.2 r hr;omega⟩
end Go.Mch
namespace Go.Mch

theorem sm_of {Q:List (List Int)} (hl:Q.length≤1000000) (h:∀ x∈Q,x.length≤1048576):Sm Q:=⟨hl,fun k=>by
 by_cases hk:k<Q.length
 · rw [← gt_at hk]
   exact h _ (List.getElem_mem hk)
 · simp [gt,hk]⟩
def S_equalTo (pg:Pg) (n:Nat):Prop:=∀ (w x:List Int),w.length≤1048576→x.length≤1048576→Call pg n [ix x,.mem .old none [ix w]] [ix x,.mem .old none [ix w]] (B (decide (x=w)))
theorem t_group1 {pg:Pg} (hp:pg.fn 382=some c_impl_groupElements_1) (h276:S_equal pg):S_equalTo pg 382:=by
 intro w x hw hx
 refine Call.intro hp rfl (by simp) ?_
 show wp _ _ c_impl_groupElements_1.body (post [.t 3] _ _ _) _
 simp [c_impl_groupElements_1]
 refine callR (h276 x w hx) rfl rfl (fun _=>rfl) ?_
 simp
def S_group274 (pg:Pg):Prop:=∀ (ms:List (List Int)) (n:Nat),Prms n ms→ms.length≤1000→0<n→n≤12→Call pg 274 [I n,tb ms] [I n,tb ms] (grpT (grpO ms n))
set_option maxRecDepth 10000 in
theorem t_groupElements {pg:Pg} (hp:pg.fn 274=some c_impl_groupElements) (h335:S_identity pg) (h277:S_then pg 277) (h63:S_containsFunc pg) (h382:S_equalTo pg 382) (h313:S_sort pg):S_group274 pg:=by
 intro ms n hm hml hn0 hn
 refine Call.intro hp rfl (by simp) ?_
 show wp _ _ c_impl_groupElements.body (post [.t 4,.t 5] _ _ _) _
 simp [c_impl_groupElements]
 refine callR (h335 n (by omega)) rfl rfl (fun _=>by simp) ?_
 simp
 refine wpLoop_lower (α:=List (List Int)×Nat) (fun z=>1001-z.2) (fun z e=>(BF ms n z.1 z.2 0∧z.2≤z.1.length)∧e=fr [(1,some (.val (tb ms))),(6,some (.val (.mem .own (some 1) (rows z.1)))),(7,some (.val (I z.2)))]) ?_ ([idL n],0) _ ⟨⟨BF.start ms n,by simp⟩,by simp [rows]⟩
 rintro ⟨Q,i⟩ e ⟨⟨g,gi⟩,rfl⟩
 simp only at g gi
 have hQl:=g.le
 by_cases hi:i<Q.length
 · simp [hi]
   refine wpLoop_count (fun k e=>ExT fun Q'=>(BF ms n Q' i k∧i<Q'.length)∧e=fr [(1,some (.val (tb ms))),(6,some (.val (.mem .own (some 1) (rows Q')))),(7,some (.val (I i))),(20,some (.val (tb ms))),(21,some (.val (I ms.length))),(22,some (.val (I k)))]) ms.length ?_ ?_ 0 _ (by omega) (ExT.mk Q ⟨⟨g,hi⟩,by simp⟩)
   · clear g gi hi hQl
     rintro k e hk ⟨Q,⟨g,hi⟩,rfl⟩
     have hQl:=g.le
     have hpm:ms[k]∈ms:=List.getElem_mem hk
     have hx:=(g.gr _ (List.getElem_mem hi)).perm hm
     have hpl:=(hm _ hpm).1
     have hth:=h277 Q[i] ms[k] (by omega) (by rw [hpl];exact hx.2)
     have hQr:∀ x∈Q,x.length≤1048576:=fun x hx=>by have:=((g.gr x hx).perm hm).1;omega
     have hWl:(thenL Q[i] ms[k]).length≤1048576:=by rw [thenL_length];omega
     have hold:=g.old hk hi
     have hnew:=g.new hk hi
     simp [hi,hk]
     refine callR hth rfl rfl (fun _=>by simp) ?_
     generalize hW:thenL Q[i] ms[k]=W at *
     have hct:=h63 Q (fun x=>decide (x=W)) 382 [.mem .old none [ix W]] (by omega) (by simp) (by simp) fun r hr=>h382 W r hWl (hQr r hr)
     have hany:Q.any (fun x=>decide (x=W))=decide (W∈Q):=by
      rw [Bool.eq_iff_iff,List.any_eq_true,decide_eq_true_iff]
      constructor
      · rintro ⟨y,hy,he⟩
        rw [decide_eq_true_iff] at he
        exact he▸hy
      · exact fun hh=>⟨W,hh,by simp⟩
     rw [hany] at hct
     simp
     refine callR hct rfl rfl (fun _=>rfl) ?_
     by_cases hin:W∈Q
     · simp [hin]
       refine ⟨by omega,ExT.mk Q ⟨⟨hold hin,hi⟩,by simp⟩⟩
     · obtain ⟨n1,n2,n3⟩:=hnew hin
       by_cases h1000:Q.length=1000
       · have hno:grpO ms n=none:=grpO_none n1 n2 (by simp;omega)
         simp [hin,h1000,hno,grpT]
       · have h1000':¬(Q.length:Int)=1000:=by omega
         simp [hin,h1000,h1000',roomy]
         exact ⟨by omega,by omega,ExT.mk (Q++[W]) ⟨⟨n3 (by omega),by simp;omega⟩,by simp [rows]⟩⟩
   · rintro e ⟨Q,⟨g,hi⟩,rfl⟩
     have hQl:=g.le
     simp
     exact ⟨by omega,Q,i+1,by omega,⟨g.up hi,by omega⟩,by simp⟩
 · have hQr:∀ x∈Q,x.length≤1048576:=fun x hx=>by have:=((g.gr x hx).perm hm).1;omega
   obtain ⟨Y,⟨y1,y2⟩,hy⟩:=h313 Q (sm_of (by omega) hQr) (dj_of g.nd)
   have hYl:=len_of_same y1.nodup g.nd y2
   have hres:grpO ms n=some Y:=grpO_some ⟨y1,fun x=>(y2 x).trans ⟨g.gr x,g.all hi x⟩⟩ (by omega)
   simp [hi]
   refine callM (ts':=[ownR Y,.fn 314 []]) (r:=.tup []) ?_ ?_ ?_ ?_
   · simp
   · simpa using hy
   · simp
   · simp [hres,grpT]

noncomputable def lgO (f:List (List Int)):Option (List (List Int)):=grpO f f.length
noncomputable def lgR (f s:List (List Int)):List (List Int):=onReg [] (fun f _=>lso (lgO f)) f s
noncomputable def lgC (f s:List (List Int)):Int:=onReg 1 (fun f _=>cd3 (lgO f)) f s
def S_lg (pg:Pg) (n:Nat):Prop:=∀ f s:List (List Int),fits f→fits s→∃ o,lso o=lgR f s∧Call pg n [sol f s] [sol f s] (.tup [ownT o,I (lgC f s)])
theorem t_lg_impl {pg:Pg} (hp:pg.fn 132=some c_impl_LeftGroup) (h266:S_reg pg 266) (h274:S_group274 pg):S_lg pg 132:=by
 intro f s hf hs
 by_cases h:isReg f s
 · have hpm:=PM.of h.1.1
   have h12:=hpm.small
   have hg:=h274 f f.length (prmsL hpm h.2).1 (by omega) hpm.pos h12
   refine ⟨lgO f,by simp [lgR,onReg_true h],Call.intro hp rfl (by simp) ?_⟩
   show wp _ _ c_impl_LeftGroup.body (post [.t 2,.t 3] _ _ _) _
   simp [c_impl_LeftGroup]
   refine callR (h266 f s hf hs) rfl rfl (fun _=>rfl) ?_
   simp [dec_true h,lgC,onReg_true h,lgO]
   cases hgr:grpO f f.length with
   | none =>
    rw [hgr] at hg
    refine callR hg rfl rfl (fun _=>by simp [grpT]) ?_
    simp [grpT,ownT,cd3]
   | some X =>
    rw [hgr] at hg
    refine callR hg rfl rfl (fun _=>by simp [grpT]) ?_
    simp [grpT,ownT,cd3]
 · refine ⟨none,by simp [lgR,onReg_false h],Call.intro hp rfl (by simp) ?_⟩
   show wp _ _ c_impl_LeftGroup.body (post [.t 2,.t 3] _ _ _) _
   simp [c_impl_LeftGroup]
   refine callR (h266 f s hf hs) rfl rfl (fun _=>rfl) ?_
   simp [dec_false h,lgC,onReg_false h,ownT]
end Go.Mch
namespace Go.Mch


structure Pn (n:Nat) (x:List Int):Prop where
 l:x.length=n
 r:inN n x
 d:x.Nodup
theorem thenL_at {p q:List Int} {i:Nat} (hi:i<(thenL p q).length):(thenL p q)[i]=q.getD (p[i]'(by simpa using hi)).toNat 0:=by simp [thenL]
theorem Pn.get {n:Nat} {x:List Int} (h:Pn n x) {v:Int} (hv:0≤v∧v<n):∃ hl:v.toNat<x.length,x.getD v.toNat 0=x[v.toNat]∧0≤x[v.toNat]∧x[v.toNat]<n:=by
 have hl:v.toNat<x.length:=by have:=h.l;omega
 have:=h.r _ (List.getElem_mem hl)
 exact ⟨hl,by simp [hl],this.1,this.2⟩
theorem Pn.then {n:Nat} {x y:List Int} (hx:Pn n x) (hy:Pn n y):Pn n (thenL x y):=by
 refine ⟨by simp [hx.l],fun v hv=>?_,?_⟩
 · simp only [thenL,List.mem_map] at hv
   obtain ⟨u,hu,rfl⟩:=hv
   obtain ⟨hl,e,h1,h2⟩:=hy.get (hx.r u hu)
   rw [e]
   exact ⟨h1,h2⟩
 · unfold thenL
   rw [List.Nodup,List.pairwise_map]
   refine hx.d.imp_of_mem ?_
   intro a b ha hb hab he
   obtain ⟨la,ea,_⟩:=hy.get (hx.r a ha)
   obtain ⟨lb,eb,_⟩:=hy.get (hx.r b hb)
   rw [ea,eb] at he
   have:=(List.getElem_inj hy.d).1 he
   have ra:=hx.r a ha
   have rb:=hx.r b hb
   omega
theorem then_assoc {n:Nat} {x y:List Int} (hx:Pn n x) (hy:Pn n y) (z:List Int):thenL (thenL x y) z=thenL x (thenL y z):=by
 unfold thenL
 rw [List.map_map]
 refine List.map_congr_left fun u hu=>?_
 obtain ⟨hl,e,_⟩:=hy.get (hx.r u hu)
 simp only [Function.comp]
 rw [List.getD_eq_getElem?_getD (l:=y.map _),List.getElem?_map,List.getElem?_eq_getElem hl,e]
 rfl
theorem idL_get {n:Nat} {v:Int} (hv:0≤v∧v<n):(idL n).getD v.toNat 0=v:=by
 have:v.toNat<n:=by omega
 simp [idL,this]
 omega
theorem id_pn (n:Nat):Pn n (idL n):=by
 refine ⟨by simp,fun v hv=>?_,?_⟩
 · simp only [idL,List.mem_map,List.mem_range] at hv
   obtain ⟨i,hi,rfl⟩:=hv
   omega
 · unfold idL
   rw [List.Nodup,List.pairwise_map]
   exact List.nodup_range.imp fun hab he=>hab (by omega)
theorem then_id {n:Nat} {x:List Int} (hx:Pn n x):thenL x (idL n)=x:=by
 unfold thenL
 conv=>rhs;rw [← List.map_id x]
 exact List.map_congr_left fun u hu=>idL_get (hx.r u hu)
theorem id_then {n:Nat} {x:List Int} (hx:Pn n x):thenL (idL n) x=x:=by
 apply List.ext_getElem
 · simp [hx.l]
 · intro i h1 h2
   rw [thenL_at]
   simp [idL,h2]
theorem then_inj {n:Nat} {x x' y:List Int} (hx:Pn n x) (hx':Pn n x') (hy:Pn n y) (he:thenL x y=thenL x' y):x=x':=by
 apply List.ext_getElem
 · rw [hx.l,hx'.l]
 · intro i h1 h2
   have e:=congrArg (fun l=>l.getD i 0) he
   have l1:i<(thenL x y).length:=by simpa using h1
   have l2:i<(thenL x' y).length:=by simpa using h2
   simp only [List.getD_eq_getElem?_getD,List.getElem?_eq_getElem l1,List.getElem?_eq_getElem l2,Option.getD_some,thenL_at] at e
   have ra:=hx.r _ (List.getElem_mem h1)
   have rb:=hx'.r _ (List.getElem_mem h2)
   obtain ⟨la,ea,_⟩:=hy.get ra
   obtain ⟨lb,eb,_⟩:=hy.get rb
   rw [← List.getD_eq_getElem?_getD,← List.getD_eq_getElem?_getD,ea,eb] at e
   have:=(List.getElem_inj hy.d).1 e
   omega
theorem pn_of {n:Nat} {ms:List (List Int)} (h:Prms n ms) {p:List Int} (hp:p∈ms):Pn n p:=by
 obtain ⟨h1,h2,h3⟩:=h p hp
 exact ⟨h1,fun v hv=>by have:=h2 v hv;omega,h3⟩
theorem GR.pn {ms:List (List Int)} {n:Nat} (hm:Prms n ms) {x:List Int} (h:GR ms n x):Pn n x:=h (Pn n) (id_pn n) fun _ hy _ hp=>hy.then (pn_of hm hp)
theorem GR.comp {ms:List (List Int)} {n:Nat} (hm:Prms n ms) {x y:List Int} (hx:GR ms n x) (hy:GR ms n y):GR ms n (thenL x y):=by
 have px:=hx.pn hm
 refine (hy (fun y=>Pn n y∧GR ms n (thenL x y)) ⟨id_pn n,by rw [then_id px];exact hx⟩ fun y hy p hp=>⟨hy.1.then (pn_of hm hp),?_⟩).2
 rw [← then_assoc px hy.1]
 exact hy.2.step hp
theorem GR.mono {ms ms':List (List Int)} {n:Nat} (hs:∀ p∈ms,p∈ms') {x:List Int} (h:GR ms n x):GR ms' n x:=h (GR ms' n) (GR.id ms' n) fun _ hy _ hp=>hy.step (hs _ hp)
theorem GR.comm {ms:List (List Int)} {n:Nat} (hm:Prms n ms) (hc:∀ p∈ms,∀ q∈ms,thenL p q=thenL q p) {x y:List Int} (hx:GR ms n x) (hy:GR ms n y):thenL x y=thenL y x:=by
 have one:∀ p∈ms,thenL x p=thenL p x:=fun p hp=>by
  have pp:=pn_of hm hp
  refine (hx (fun x=>Pn n x∧thenL x p=thenL p x) ⟨id_pn n,by rw [id_then pp,then_id pp]⟩ fun z hz q hq=>⟨hz.1.then (pn_of hm hq),?_⟩).2
  have pq:=pn_of hm hq
  rw [then_assoc hz.1 pq,hc q hq p hp,← then_assoc hz.1 pp,hz.2,then_assoc pp hz.1]
 have px:=hx.pn hm
 refine (hy (fun y=>Pn n y∧thenL x y=thenL y x) ⟨id_pn n,by rw [id_then px,then_id px]⟩ fun z hz q hq=>⟨hz.1.then (pn_of hm hq),?_⟩).2
 have pq:=pn_of hm hq
 rw [← then_assoc px hz.1,hz.2,then_assoc hz.1 px,one q hq,← then_assoc hz.1 pq]


theorem filt_len {C:List (List Int)}:∀ {Z:List (List Int)},Z.Nodup→C.Nodup→(∀ x∈C,x∈Z)→(Z.filter fun z=>decide (z ∉ C)).length+C.length=Z.length:=by
 intro Z hZ hC hs
 have h1:(Z.filter fun z=>decide (z∈C)).length=C.length:=by
  refine Nat.le_antisymm (len_le_of_sub _ _ (List.Pairwise.filter _ hZ) fun x hx=>?_) (len_le_of_sub _ _ hC fun x hx=>?_)
  · have:=(List.mem_filter.1 hx).2
    simpa using this
  · exact List.mem_filter.2 ⟨hs x hx,by simpa using hx⟩
 have h2:(Z.filter fun z=>decide (z ∉ C)).length+(Z.filter fun z=>decide (z∈C)).length=Z.length:=by
  clear hZ hs h1
  induction Z with
  | nil=>rfl
  | cons z Z ih=>by_cases hz:z∈C <;> simp [hz] at ih ⊢ <;> omega
 omega
theorem lagr {n:Nat} {X Y:List (List Int)} (hX:X.Nodup) (pX:∀ x∈X,Pn n x) (pY:∀ y∈Y,Pn n y) (hid:idL n∈X) (hc:∀ x∈X,∀ x'∈X,thenL x x'∈X):∀ (k:Nat) (Z:List (List Int)),Z.length=k→Z.Nodup→(∀ z∈Z,z∈Y)→(∀ x∈X,∀ z∈Z,thenL x z∈Z)→X.length ∣ Z.length:=by
 intro k
 induction k using Nat.strongRecOn with
 | ind k ih =>
  intro Z hk hZ hs hcl
  cases Z with
  | nil=>exact ⟨0,rfl⟩
  | cons y Z =>
   have hy:y∈y::Z:=by simp
   have py:=pY y (hs y hy)
   have hX0:0<X.length:=List.length_pos_of_mem hid
   have hCn:(X.map fun x=>thenL x y).Nodup:=by
    rw [List.Nodup,List.pairwise_map]
    refine hX.imp_of_mem ?_
    intro a b ha hb hab he
    exact hab (then_inj (pX a ha) (pX b hb) py he)
   have hCs:∀ x∈X.map (fun x=>thenL x y),x∈y::Z:=fun x hx=>by
    obtain ⟨a,ha,rfl⟩:=List.mem_map.1 hx
    exact hcl a ha y hy
   have hl:=filt_len hZ hCn hCs
   have back:∀ x∈X,∃ x'∈X,thenL x' x=idL n:=fun x hx=>by
    have hn:(X.map fun x'=>thenL x' x).Nodup:=by
     rw [List.Nodup,List.pairwise_map]
     refine hX.imp_of_mem ?_
     intro a b ha hb hab he
     exact hab (then_inj (pX a ha) (pX b hb) (pX x hx) he)
    apply Classical.byContradiction
    intro hno
    have:=len_le_of_sub (idL n::X.map fun x'=>thenL x' x) X ?_ ?_
    · simp at this
      omega
    · rw [List.nodup_cons]
      refine ⟨fun h=>?_,hn⟩
      obtain ⟨a,ha,he⟩:=List.mem_map.1 h
      exact hno ⟨a,ha,he⟩
    · intro v hv
      rcases List.mem_cons.1 hv with rfl | hv
      · exact hid
      · obtain ⟨a,ha,rfl⟩:=List.mem_map.1 hv
        exact hc a ha x hx
   have hd:=ih ((y::Z).filter fun z=>decide (z ∉ X.map fun x=>thenL x y)).length (by rw [List.length_map] at hl;omega) _ rfl (List.Pairwise.filter _ hZ) (fun z hz=>hs z (List.mem_filter.1 hz).1) (fun x hx z hz=>by
    obtain ⟨z1,z2⟩:=List.mem_filter.1 hz
    refine List.mem_filter.2 ⟨hcl x hx z z1,?_⟩
    have z2:z ∉ X.map fun x=>thenL x y:=by simpa using z2
    refine decide_eq_true fun hm=>z2 ?_
    obtain ⟨a,ha,he⟩:=List.mem_map.1 hm
    obtain ⟨x',hx',e'⟩:=back x hx
    have pz:=pY z (hs z z1)
    have:z=thenL (thenL x' a) y:=by
     rw [then_assoc (pX x' hx') (pX a ha),he,← then_assoc (pX x' hx') (pX x hx),e',id_then pz]
    rw [this]
    exact List.mem_map.2 ⟨_,hc x' hx' a ha,rfl⟩)
   rw [← hl]
   exact Nat.dvd_add hd (by simp)
theorem sub_grp {ms ms':List (List Int)} {n:Nat} {Y:List (List Int)} (hm:Prms n ms') (hs:∀ p∈ms,p∈ms') (hY:grpO ms' n=some Y):∃ X,grpO ms n=some X∧Grp ms n X∧0<X.length∧X.length≤1000∧X.length ∣ Y.length:=by
 obtain ⟨y1,y2⟩:Grp ms' n Y∧Y.length≤1000:=by
  unfold grpO at hY
  split at hY
  · rename_i h
    rw [← Option.some.inj hY]
    exact h.choose_spec
  · cases hY
 have hm':Prms n ms:=fun p hp=>hm p (hs p hp)
 let X:=Y.filter fun x=>dec (GR ms n x)
 have hX:Grp ms n X:=by
  refine ⟨List.Pairwise.filter _ y1.srt,fun x=>?_⟩
  rw [List.mem_filter,y1.mem]
  by_cases h:GR ms n x
  · simp [h,h.mono hs]
  · simp [h]
 have hl:X.length≤Y.length:=List.length_filter_le _ _
 have hid:idL n∈X:=(hX.mem _).2 (GR.id ms n)
 refine ⟨X,grpO_some hX (by omega),hX,List.length_pos_of_mem hid,by omega,?_⟩
 exact lagr (n:=n) (Y:=Y) hX.srt.nodup (fun x hx=>((hX.mem x).1 hx).pn hm') (fun y hy=>((y1.mem y).1 hy).pn hm) hid (fun x hx x' hx'=>(hX.mem _).2 (((hX.mem x).1 hx).comp hm' ((hX.mem x').1 hx'))) Y.length Y rfl y1.srt.nodup (fun z hz=>hz) fun x hx z hz=>(y1.mem _).2 ((((hX.mem x).1 hx).mono hs).comp hm ((y1.mem z).1 hz))


theorem t_dWG {pg:Pg} (hp:pg.fn 129=some c_spec_DrawWholeGroupOrder) (h269:S_from pg) (h268:S_spl pg 268):S_drS pg 129:=by
 intro c hc
 obtain ⟨s,hs,hc1⟩:=h269 c hc
 obtain ⟨s1,X,⟨k1,k2,k3⟩,hc2⟩:=h268 c s 8 hs (by omega) (by omega)
 refine ⟨X,⟨k2,k3⟩,Call.intro hp rfl (by simp) ?_⟩
 show wp _ _ c_spec_DrawWholeGroupOrder.body (post [.cell 2 (some 2)] _ _ _) _
 simp [c_spec_DrawWholeGroupOrder]
 refine callR hc1 rfl rfl (fun h=>by simp at h) ?_
 simp
 refine callM (ts':=[src c s1,I 8]) (r:=ownS X) ?_ ?_ ?_ ?_
 · simp
 · simpa using hc2
 · simp
 simp
def S_hr5 (pg:Pg):Prop:=∀ (X:List (List Int)) (v:List Int),smallT X→Call pg 138 [tb X,ix v] [tb X,ix v] (B (decide (v∈X)))
theorem t_hr5 {pg:Pg} (hp:pg.fn 138=some c_laws_hasRow5) (h141:S_likeI pg):S_hr5 pg:=by
 intro X v hX
 have hl:=hX.1
 refine Call.intro hp rfl (by simp) ?_
 show wp _ _ c_laws_hasRow5.body (post [.t 4] _ _ _) _
 simp [c_laws_hasRow5]
 refine wpLoop_lower (α:=Nat) (fun k=>X.length-k) (fun k e=>(k≤X.length∧v ∉ X.take k)∧e=fr [(0,some (.val (tb X))),(1,some (.val (ix v))),(5,some (.val (I k)))]) ?_ 0 _ ⟨⟨by omega,by simp⟩,by simp⟩
 rintro k e ⟨⟨hk,hno⟩,rfl⟩
 by_cases hkl:k<X.length
 · have hc:=h141.ix X[k] v (hX.2 _ (List.getElem_mem hkl))
   simp [hkl]
   refine callR hc rfl rfl (fun _=>rfl) ?_
   by_cases he:X[k]=v
   · have:v∈X:=he▸List.getElem_mem hkl
     simp [he,this]
   · simp [he]
     refine ⟨by omega,k+1,by omega,⟨by omega,?_⟩,by simp⟩
     rw [List.take_succ_eq_append_getElem hkl,List.mem_append]
     rintro (h | h)
     · exact hno h
     · exact he (List.mem_singleton.1 h).symm
 · obtain rfl:k=X.length:=by omega
   rw [List.take_length] at hno
   simp [hno]
def S_isPm (pg:Pg):Prop:=∀ (n:Nat) (p:List Int),Pn n p→0<n→n≤12→Call pg 346 [ix p] [ix p] (B true)
theorem t_isPm {pg:Pg} (hp:pg.fn 346=some c_impl_IsPermutation) (h35:S_in pg 35) (h66:S_isPermuted pg):S_isPm pg:=by
 intro n p h h0 h12
 have hl:=h.l
 refine Call.intro hp rfl (by simp) ?_
 show wp _ _ c_impl_IsPermutation.body (post [.t 2] _ _ _) _
 have h1:=h66 p (by omega)
 rw [decide_eq_true (show isPermuted p from ⟨fun x hx=>by have:=h.r x hx;omega,h.d⟩)] at h1
 have g1:(1:Int)≤n:=by omega
 have g2:(n:Int)≤12:=by omega
 simp [c_impl_IsPermutation,hl]
 refine callR (h35 n 1 12) rfl rfl (fun _=>rfl) ?_
 simp [g1,g2]
 refine callR h1 rfl rfl (fun _=>rfl) ?_
 simp
def S_thP (pg:Pg):Prop:=∀ (n:Nat) (p q:List Int),Pn n p→Pn n q→0<n→n≤12→Call pg 278 [ix p,ix q] [ix p,ix q] (.tup [ownL (thenL p q),I 0])
theorem t_thP {pg:Pg} (hp:pg.fn 278=some c_impl_ThenPermutation) (h346:S_isPm pg) (h277:S_then pg 277):S_thP pg:=by
 intro n p q hpp hq h0 h12
 have l1:=hpp.l
 have l2:=hq.l
 refine Call.intro hp rfl (by simp) ?_
 show wp _ _ c_impl_ThenPermutation.body (post [.t 4,.t 5] _ _ _) _
 have c1:=h346 n p hpp h0 h12
 have c2:=h346 n q hq h0 h12
 have c3:=h277 p q (by omega) (by rw [l2];exact hpp.r)
 simp [c_impl_ThenPermutation]
 refine callR c1 rfl rfl (fun _=>rfl) ?_
 simp
 refine callR c2 rfl rfl (fun _=>rfl) ?_
 simp [l1,l2]
 refine callR c3 rfl rfl (fun _=>by simp) ?_
 simp
def S_th5 (pg:Pg):Prop:=∀ (n:Nat) (p q:List Int),Pn n p→Pn n q→0<n→n≤12→Call pg 142 [ix p,ix q] [ix p,ix q] (ownL (thenL p q))
theorem t_th5 {pg:Pg} (hp:pg.fn 142=some c_laws_then5) (h278:S_thP pg):S_th5 pg:=by
 intro n p q hpp hq h0 h12
 refine Call.intro hp rfl (by simp) ?_
 show wp _ _ c_laws_then5.body (post [.t 4] _ _ _) _
 simp [c_laws_then5]
 refine callR (h278 n p q hpp hq h0 h12) rfl rfl (fun _=>by simp) ?_
 simp
end Go.Mch
namespace Go.Mch

def S_roll (pg:Pg):Prop:=∀ (c:Rw Int) (d:Int),okB c→0≤d→d≤1048576→∃ s:Int×Int,Sr c s∧Call pg 139 [rawB c,H64 d] [rawB c,H64 d] (src c s)
set_option maxRecDepth 10000 in
theorem t_roll {pg:Pg} (hp:pg.fn 139=some c_laws_roll):S_roll pg:=by
 intro c d hc _ _
 have hb:=hc.1
 have hfind:=Call.find (α:=Int×Int) (Q:=fun s=>Sr c s) (args:=[rawB c,H64 d]) (r:=fun s=>src c s) hp rfl (by simp) ?_
 · exact hfind
 show wp _ _ c_laws_roll.body (postX _ [.t 4] _ _ _) _
 generalize hR:postX (fun s:Int×Int=>Sr c s) [.t 4] [rawB c,H64 d] (fun _=>[rawB c,H64 d]) (fun s=>src c s)=R
 simp [c_laws_roll]
 refine wpLoop_count (fun k e=>∃ h:Int,e=fr [(0,some (.val (rawB c))),(5,some (.val (src c (0,h)))),(6,some (.val (I k)))]) (lst c).length ?_ ?_ 0 _ (by omega) ⟨_,rfl⟩
 · rintro k e hk ⟨h,rfl⟩
   simp [hk]
   exact ⟨by omega,_,rfl⟩
 · rintro e ⟨h,rfl⟩
   simp
   subst hR
   exact ⟨(0,h),⟨hc,by simp,by simp⟩,by simp [post]⟩
def S_below (pg:Pg):Prop:=∀ (c:Rw Int) (s:Int×Int) (n:Int),Sr c s→∃ (s':Int×Int) (r:Int),(Sr c s'∧0≤r∧(1≤n→r<n)∧(n<1→r=0))∧Call pg 140 [src c s,I n] [src c s',I n] (I r)
set_option maxRecDepth 10000 in
theorem t_below {pg:Pg} (hp:pg.fn 140=some c___laws_dice__below):S_below pg:=by
 intro c s n hs
 have hfind:=Call.findA (α:=(Int×Int)×Int) (Q:=fun Y=>Sr c Y.1∧0≤Y.2∧(1≤n→Y.2<n)∧(n<1→Y.2=0)) (args:=[src c s,I n]) (args':=fun Y=>[src c Y.1,I n]) (r:=fun Y=>I Y.2) hp rfl (by simp [F.lets,c___laws_dice__below,List.range,List.range.loop]) (by simp [kindOf]) ?_
 · obtain ⟨Y,h1,h2⟩:=hfind
   exact ⟨_,_,h1,h2⟩
 show wp _ _ c___laws_dice__below.body (postX _ [.t 4] _ _ _) _
 generalize hR:postX (fun Y:(Int×Int)×Int=>Sr c Y.1∧0≤Y.2∧(1≤n→Y.2<n)∧(n<1→Y.2=0)) [.t 4] [src c s,I n] (fun Y=>[src c Y.1,I n]) (fun Y=>I Y.2)=R
 obtain ⟨a,h⟩:=s
 obtain ⟨hc,ha,hl⟩:=hs
 have hb:=hc.1
 simp only at ha hl
 by_cases hn:n<1
 · simp [c___laws_dice__below,hn]
   subst hR
   exact ⟨((a,h),0),⟨⟨hc,ha,hl⟩,by simp;omega⟩,by simp [post]⟩
 · simp [c___laws_dice__below,hn]
   generalize IntKind.u64.wrap (IntKind.u64.wrap (h*6364136223846793005)+1442695040888963407)=h'
   generalize (h'.fdiv (2 ^ min 33 IntKind.u64.bits) % 2 ^ IntKind.u64.bits).toNat=z
   obtain ⟨y,hy,e⟩:=and24 z
   have hn0:¬n=0:=by omega
   have hmod:∀ x:Int,0≤x→0≤x.tmod n∧x.tmod n<n:=fun x hx=>by
    rw [Int.tmod_eq_emod_of_nonneg hx]
    exact ⟨Int.emod_nonneg _ hn0,Int.emod_lt_of_pos _ (by omega)⟩
   rw [e]
   by_cases hlt:a<(lst c).length
   · obtain ⟨i,rfl⟩:∃ i:Nat,a=i:=⟨a.toNat,by omega⟩
     have hi:i<(lst c).length:=by omega
     have hx:=hc.2 _ (List.getElem_mem hi)
     have hw:IntKind.i64.wrap ((lst c)[i])=(lst c)[i]:=by
      obtain ⟨x,hx'⟩:∃ x:Nat,(lst c)[i]=x:=⟨((lst c)[i]).toNat,by omega⟩
      rw [hx',wr64 (by omega)]
     simp [hlt,hi,hn0,hw]
     subst hR
     have:=hmod (y+(lst c)[i]) (by omega)
     refine ⟨by omega,by omega,((i+1,h'),((y:Int)+(lst c)[i]).tmod n),⟨⟨hc,by simp only;omega,by simp only;omega⟩,by simp only;omega⟩,by simp [post]⟩
   · simp [hlt,hn0]
     subst hR
     have:=hmod y (by omega)
     exact ⟨((a,h'),(y:Int).tmod n),⟨⟨hc,ha,hl⟩,by simp only;omega⟩,by simp [post]⟩
end Go.Mch
namespace Go.Mch

def cm2 (f:List (List Int)) (x y:Nat):Prop:=thenL (f.getD x []) (f.getD y [])=thenL (f.getD y []) (f.getD x [])
def cmA (f:List (List Int)) (a b:Nat):Prop:=(∀ x,x<a→∀ y,y<x→cm2 f x y)∧∀ y,y<b→cm2 f a y
theorem cmA_up (f:List (List Int)) (a:Nat):cmA f a a↔cmA f (a+1) 0:=by
 constructor
 · rintro ⟨h1,h2⟩
   refine ⟨fun x hx y hy=>?_,fun y hy=>by omega⟩
   by_cases hxa:x=a
   · subst hxa;exact h2 y hy
   · exact h1 x (by omega) y hy
 · rintro ⟨h1,_⟩
   exact ⟨fun x hx=>h1 x (by omega),fun y hy=>h1 a (by omega) y hy⟩
theorem cmA_next (f:List (List Int)) (a b:Nat):cmA f a (b+1)↔cmA f a b∧cm2 f a b:=by
 constructor
 · rintro ⟨h1,h2⟩
   exact ⟨⟨h1,fun y hy=>h2 y (by omega)⟩,h2 b (by omega)⟩
 · rintro ⟨⟨h1,h2⟩,h3⟩
   refine ⟨h1,fun y hy=>?_⟩
   by_cases hyb:y=b
   · subst hyb;exact h3
   · exact h2 y (by omega)
theorem cmA_all (f:List (List Int)):cmA f f.length 0↔abel f:=by
 constructor
 · rintro ⟨h,_⟩ x y hx hy
   rcases Nat.lt_trichotomy x y with g | g | g
   · exact (h y hy x g).symm
   · subst g;rfl
   · exact h x hx y g
 · intro h
   exact ⟨fun x hx y hy=>h x y hx (by omega),fun y hy=>by omega⟩
def ExQ (P:Int×Int→Prop):Prop:=∃ q,P q
theorem ExQ.mk {P:Int×Int→Prop} (q:Int×Int) (h:P q):ExQ P:=⟨q,h⟩
def S_law73 (pg:Pg):Prop:=∀ c:Rw Int,okB c→∃ args',Call pg 73 [rawB c] args' (B true)
set_option maxHeartbeats 4000000 in
set_option maxRecDepth 20000 in
theorem t_law73 {pg:Pg} (hp:pg.fn 73=some c_laws_FnSolutionGroups) (h128:S_big pg) (h129:S_drS pg 129) (h130:S_goB pg 130) (h131:S_goB pg 131) (h132:S_lg pg 132) (h133:S_goL pg 133) (h134:S_goR pg 134) (h135:S_lambda pg 135) (h127:S_rho pg 127) (h136:S_abel pg 136) (h137:S_likeT pg) (h138:S_hr5 pg) (h139:S_roll pg) (h140:S_below pg) (h142:S_th5 pg) (h141:S_likeI pg):S_law73 pg:=by
 intro c hc
 obtain ⟨⟨f,s⟩,⟨hX1,hX2⟩,hd⟩:=h129 c hc
 have hf:fits f:=hX1.fits
 have hs:fits s:=hX2.fits
 refine ⟨[rawB c],Call.intro hp rfl (by simp) ?_⟩
 show wp _ _ c_laws_FnSolutionGroups.body (post [.t 2] _ _ _) _
 simp [c_laws_FnSolutionGroups]
 refine callR (h128 c) rfl rfl (fun _=>rfl) ?_
 by_cases hbig:(4096:Int)<(lst c).length
 · simp [hbig]
 · simp [hbig]
   refine callR hd rfl rfl (fun _=>by simp) ?_
   have hc1:=h130 f s hf hs
   have hc2:=h131 f s hf hs
   by_cases hgo:isReg f s∧∃ Y,grpO (f++turnL s) f.length=some Y
   · obtain ⟨h,Y,hY⟩:=hgo
     have hrg:=rg_of h
     have hpm:=hrg.1
     have n0:=hpm.pos
     have n12:=hpm.small
     have hpr:=prms_of hpm h.2
     have hY1:=(grpO_le hY).1
     obtain ⟨X1,x1,x2,x3,x4,x5⟩:=sub_grp (ms:=f) hpr (fun p hp=>List.mem_append_left _ hp) hY
     obtain ⟨X2,z1,z2,z3,z4,z5⟩:=sub_grp (ms:=turnL s) hpr (fun p hp=>List.mem_append_right _ hp) hY
     have hY0:0<Y.length:=by
      obtain ⟨q,hq⟩:=x5
      rcases Nat.eq_zero_or_pos Y.length with g | g
      · have hG:Grp (f++turnL s) f.length Y:=by
         unfold grpO at hY
         split at hY
         · rename_i hh
           rw [← Option.some.inj hY]
           exact hh.choose_spec.1
         · cases hY
        exact List.length_pos_of_mem ((hG.mem _).2 (GR.id _ _))
      · exact g
     have v1:goR wB f s=(Y.length:Int):=by simp [goR,onReg_true h,wB,ordR,hY]
     have v2':goC wB f s=0:=by simp [goC,onReg_true h,wB,ordC,hY]
     rw [v1,v2'] at hc1 hc2
     have hc3:=h133 f s hf hs
     have u1:goR wL f s=(X1.length:Int):=by simp [goR,onReg_true h,wL,ordR,x1]
     have u2:goC wL f s=0:=by simp [goC,onReg_true h,wL,ordC,x1]
     rw [u1,u2] at hc3
     have hc4:=h134 f s hf hs
     have w1:goR wR f s=(X2.length:Int):=by simp [goR,onReg_true h,wR,ordR,z1]
     have w2:goC wR f s=0:=by simp [goC,onReg_true h,wR,ordC,z1]
     rw [w1,w2] at hc4
     obtain ⟨o1,e1,hc5⟩:=h132 f s hf hs
     have hlg:lgR f s=X1:=by simp [lgR,onReg_true h,lgO,x1]
     have hlc:lgC f s=0:=by simp [lgC,onReg_true h,lgO,x1,cd3]
     rw [hlg] at e1
     rw [hlc] at hc5
     obtain rfl:o1=some X1:=by
      cases o1 with
      | none=>simp only [lso_none] at e1;rw [← e1] at x3;simp at x3
      | some l=>simp only [lso_some] at e1;rw [e1]
     obtain ⟨oA,eA,hc6⟩:=h135 f s hf hs
     obtain ⟨oB,eB,hc7⟩:=h127 f s hf hs
     have hc8:=h136 f s hf hs
     simp only [onReg_true h] at hc6 hc7 hc8 eA eB
     obtain rfl:oA=some f:=by
      cases oA with
      | none=>simp only [lso_none] at eA;rw [← eA] at n0;simp at n0
      | some l=>simp only [lso_some] at eA;rw [eA]
     have htl:(turnL s).length=f.length:=by rw [turnL_length,hpm.len]
     obtain rfl:oB=some (turnL s):=by
      cases oB with
      | none=>simp only [lso_none] at eB;rw [← eB] at htl;simp at htl;omega
      | some l=>simp only [lso_some] at eB;rw [eB]
     have m1:(Y.length:Int) % (X1.length:Int)=0:=by
      have:=Nat.mod_eq_zero_of_dvd x5
      rw [← Int.natCast_emod,this];rfl
     have m2:(Y.length:Int) % (X2.length:Int)=0:=by
      have:=Nat.mod_eq_zero_of_dvd z5
      rw [← Int.natCast_emod,this];rfl
     have hpf:∀ x (hx:x<f.length),Pn f.length f[x]:=fun x hx=>pn_of (prmsL hpm h.2).1 (List.getElem_mem hx)
     have hsm:=(tab_sm hpm).1
     have hlk:=h137.tb f f hsm
     have hXs:smallT X1:=⟨by omega,fun r hr=>by have:=((x2.mem r).1 hr).pn (prmsL hpm h.2).1;rw [this.l];omega⟩
     have hrow:∀ x (hx:x<f.length),Call pg 138 [tb X1,ix f[x]] [tb X1,ix f[x]] (B true):=fun x hx=>by
      have:=h138 X1 f[x] hXs
      rwa [decide_eq_true ((x2.mem _).2 (by
       have:=(GR.id f f.length).step (List.getElem_mem hx)
       rwa [id_then (hpf x hx)] at this))] at this
     have hcom:abel f→∀ a∈X1,∀ b∈X1,thenL a b=thenL b a:=fun ha a hA b hB=>GR.comm (prmsL hpm h.2).1 (fun p hp q hq=>by
      obtain ⟨i,hi,rfl⟩:=List.getElem_of_mem hp
      obtain ⟨j,hj,rfl⟩:=List.getElem_of_mem hq
      have:=ha i j hi hj
      simpa [hi,hj] using this) ((x2.mem a).1 hA) ((x2.mem b).1 hB)
     have hpX:∀ a∈X1,Pn f.length a:=fun a ha=>((x2.mem a).1 ha).pn (prmsL hpm h.2).1
     have hth:∀ p q,Pn f.length p→Pn f.length q→Call pg 142 [ix p,ix q] [ix p,ix q] (ownL (thenL p q)):=fun p q hp hq=>h142 f.length p q hp hq n0 n12
     have hlI:∀ p q:List Int,p.length≤1048576→Call pg 141 [ix p,ix q] [ix p,ix q] (B (decide (p=q))):=fun p q hp=>h141.ix p q hp
     have hsl:=hpm.len
     have hat:∀ x y,x<f.length→y<f.length→(∃ (g1:x<(turnL s).length) (g2:y<((turnL s)[x]).length),((turnL s)[x])[y]=v2 s y x)∧∃ (g1:y<s.length) (g2:x<(s[y]).length),(s[y])[x]=v2 s y x:=fun x y hx hy=>by
      have g1:x<(turnL s).length:=by omega
      have g2:y<((turnL s)[x]).length:=by rw [tabL_row (List.getElem_mem g1)];omega
      have g3:y<s.length:=by omega
      have g4:x<(s[y]).length:=by have:=hpm.ts.row g3;omega
      exact ⟨⟨g1,g2,(get_v2 g1 g2).trans (v2_tabL (by omega) (by omega))⟩,g3,g4,get_v2 g3 g4⟩
     have htr:∀ x (hx:x<(turnL s).length),((turnL s)[x]).length=f.length:=fun x hx=>by rw [tabL_row (List.getElem_mem hx)];exact hsl
     clear h130 h131 h132 h133 h134 h135 h127 h136 h137 h138 h142 h129 h128 hX1 hX2 hd v1 v2' u1 u2 w1 w2 hlg hlc z1 z2 x1 hY eA eB e1 hpr
     have hq0:¬X1.length=0:=by omega
     have hq1:¬X2.length=0:=by omega
     have hq2:¬X1=[]:=fun hh=>hq0 (by rw [hh];rfl)
     simp only [ownT] at hc5 hc6 hc7
     generalize turnL s=R at *
     simp
     refine callR hc1 rfl rfl (fun _=>rfl) ?_
     simp
     refine callR hc2 rfl rfl (fun _=>rfl) ?_
     simp
     refine callR hc5 rfl rfl (fun _=>by simp) ?_
     simp [frz_tb]
     refine callR hc3 rfl rfl (fun _=>rfl) ?_
     simp
     refine callR hc4 rfl rfl (fun _=>rfl) ?_
     simp
     refine callR hc6 rfl rfl (fun _=>by simp) ?_
     simp
     refine callR hc7 rfl rfl (fun _=>by simp) ?_
     simp
     refine callR hc8 rfl rfl (fun _=>rfl) ?_
     have g1:¬(X1.length:Int)<1:=by omega
     have g2:¬(X2.length:Int)<1:=by omega
     simp [g1,g2,m1,m2,hq0,hq1]
     refine callR hlk rfl rfl (fun _=>by simp) ?_
     simp [htl]
     generalize hab:decide (abel f)=ba at *
     refine wpLoop_count (fun x e=>e=fr [(0,some (.val (rawB c))),(3,some (.val (.mem .own none [ownTb f,ownTb s]))),(8,some (.val (.mem .fresh (some 1) (rowsF X1)))),(10,some (.val (I X1.length))),(14,some (.val (ownTb f))),(16,some (.val (ownTb R))),(18,some (.val (B ba))),(20,some (.val (I x)))]) f.length ?_ ?_ 0 _ (by omega) rfl
     · rintro x e hx rfl
       have k1:=hrow x hx
       have hxR:x<R.length:=by omega
       have hRx:=htr x hxR
       simp [hx]
       refine callR k1 rfl rfl (fun _=>by simp) ?_
       simp [hRx,htl,hx]
       refine wpLoop_count (fun y e=>e=fr [(0,some (.val (rawB c))),(3,some (.val (.mem .own none [ownTb f,ownTb s]))),(8,some (.val (.mem .fresh (some 1) (rowsF X1)))),(10,some (.val (I X1.length))),(14,some (.val (ownTb f))),(16,some (.val (ownTb R))),(18,some (.val (B ba))),(20,some (.val (I x))),(21,some (.val (I y)))]) f.length ?_ ?_ 0 _ (by omega) rfl
       · rintro y e hy rfl
         obtain ⟨⟨a1,a2,a3⟩,b1,b2,b3⟩:=hat x y hx hy
         have hsy:=(hpm.ts.row b1).trans hsl
         simp [htl,hx,hy,a3,b3,hRx,hsy,hsl]
         omega
       · rintro e rfl
         simp [htl]
         omega
     · rintro e rfl
       obtain ⟨q,q1,hr⟩:=h139 c 816 hc (by omega) (by omega)
       simp
       refine callR hr rfl rfl (fun h=>by simp at h) ?_
       simp
       refine wpLoop_count (fun i e=>ExQ fun q=>Sr c q∧e=fr [(8,some (.val (.mem .fresh (some 1) (rowsF X1)))),(10,some (.val (I X1.length))),(14,some (.val (ownTb f))),(18,some (.val (B ba))),(22,some (.val (src c q))),(23,some (.val (I i)))]) 4 ?_ ?_ 0 _ (by omega) (ExQ.mk q ⟨q1,rfl⟩)
       · rintro i e hi ⟨q,q1,rfl⟩
         obtain ⟨q2,r,⟨r1,r2,r3,_⟩,c1⟩:=h140 c q X1.length q1
         obtain ⟨q3,r',⟨r4,r5,r6,_⟩,c2⟩:=h140 c q2 X1.length r1
         have r3:=r3 (by omega)
         have r6:=r6 (by omega)
         obtain ⟨i1,rfl⟩:∃ i1:Nat,r=i1:=⟨r.toNat,by omega⟩
         obtain ⟨i2,rfl⟩:∃ i2:Nat,r'=i2:=⟨r'.toNat,by omega⟩
         have l1:i1<X1.length:=by omega
         have l2:i2<X1.length:=by omega
         have pa:=hpX _ (List.getElem_mem l1)
         have pb:=hpX _ (List.getElem_mem l2)
         have ha:=hth _ _ pa pb
         have hb:=hth _ _ pb pa
         have hi4:(i:Int)<4:=by omega
         simp [hi4]
         refine callS (ts':=[rawB c,I q2.1,H64 q2.2]) (r:=I i1) (by simpa using c1) ?_
         simp [l1]
         refine callS (ts':=[rawB c,I q3.1,H64 q3.2]) (r:=I i2) (by simpa using c2) ?_
         simp [l2]
         cases ba with
         | true =>
          have he:=hcom (of_decide_eq_true hab) _ (List.getElem_mem l1) _ (List.getElem_mem l2)
          have hl:=hlI (thenL X1[i1] X1[i2]) (thenL X1[i2] X1[i1]) (by simp [pa.l];omega)
          rw [decide_eq_true he] at hl
          simp
          refine callR ha rfl rfl (fun _=>by simp) ?_
          simp
          refine callR hb rfl rfl (fun _=>by simp) ?_
          simp
          refine callR hl rfl rfl (fun _=>by simp) ?_
          simp
          exact ⟨by omega,ExQ.mk q3 ⟨r4,rfl⟩⟩
         | false =>
          simp [undefV]
          exact ⟨by omega,ExQ.mk q3 ⟨r4,rfl⟩⟩
       · rintro e ⟨q,q1,rfl⟩
         simp
         refine wpLoop_count (fun a e=>e=fr [(14,some (.val (ownTb f))),(18,some (.val (B ba))),(26,some (.val (B (dec (cmA f a 0))))),(27,some (.val (I a)))]) f.length ?_ ?_ 0 _ (by omega) (by rw [dec_true ⟨fun x hx=>by omega,fun y hy=>by omega⟩];rfl)
         · rintro a e ha rfl
           simp [ha]
           refine wpLoop_count (fun b e=>e=fr [(14,some (.val (ownTb f))),(18,some (.val (B ba))),(26,some (.val (B (dec (cmA f a b))))),(27,some (.val (I a))),(28,some (.val (I b)))]) a ?_ ?_ 0 _ (by omega) rfl
           · rintro b e hb rfl
             have hbl:b<f.length:=by omega
             have pa:=hpf a ha
             have pb:=hpf b hbl
             have c1:=hth _ _ pa pb
             have c2:=hth _ _ pb pa
             have c3:=hlI (thenL f[a] f[b]) (thenL f[b] f[a]) (by simp [pa.l];omega)
             have hcm:cm2 f a b↔thenL f[a] f[b]=thenL f[b] f[a]:=by unfold cm2;simp [ha,hbl]
             by_cases hm:cmA f a b
             · have hd:dec (cmA f a (b+1))=decide (thenL f[a] f[b]=thenL f[b] f[a]):=by
                by_cases hh:thenL f[a] f[b]=thenL f[b] f[a]
                · rw [decide_eq_true hh];exact dec_true ((cmA_next f a b).2 ⟨hm,hcm.2 hh⟩)
                · rw [decide_eq_false hh];exact dec_false fun g=>hh (hcm.1 ((cmA_next f a b).1 g).2)
               rw [dec_true hm,hd]
               simp [hb,ha,hbl]
               refine callR c1 rfl rfl (fun _=>by simp) ?_
               simp [ha,hbl]
               refine callR c2 rfl rfl (fun _=>by simp) ?_
               simp
               refine callR c3 rfl rfl (fun _=>by simp) ?_
               simp
               omega
             · have hd:dec (cmA f a (b+1))=false:=dec_false fun g=>hm ((cmA_next f a b).1 g).1
               rw [dec_false hm,hd]
               simp [hb,undefV]
               omega
           · rintro e rfl
             have hd:dec (cmA f a a)=dec (cmA f (a+1) 0):=by
              by_cases hh:cmA f a a
              · rw [dec_true hh,dec_true ((cmA_up f a).1 hh)]
              · rw [dec_false hh,dec_false fun g=>hh ((cmA_up f a).2 g)]
             rw [hd]
             simp
             omega
         · rintro e rfl
           have hd:dec (cmA f f.length 0)=ba:=by
            rw [← hab]
            by_cases hh:abel f
            · rw [decide_eq_true hh];exact dec_true ((cmA_all f).2 hh)
            · rw [decide_eq_false hh];exact dec_false fun g=>hh ((cmA_all f).1 g)
           rw [hd]
           simp
   · have hne:goC wB f s≠0:=fun h0=>by
      by_cases h:isReg f s
      · simp only [goC,onReg_true h,wB,ordC] at h0
        cases hY:grpO (f++turnL s) f.length with
        | none=>rw [hY] at h0;exact absurd h0 (by decide)
        | some Y=>exact hgo ⟨h,Y,hY⟩
      · simp only [goC,onReg_false h] at h0
        exact absurd h0 (by decide)
     generalize goC wB f s=cd at *
     generalize goR wB f s=v at *
     simp
     refine callR hc1 rfl rfl (fun _=>rfl) ?_
     simp
     refine callR hc2 rfl rfl (fun _=>rfl) ?_
     simp [hne]
end Go.Mch
