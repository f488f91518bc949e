/- Our texts YjR YjS YjD YjE YjU YjF YjG YjW YjX YkA YkB YkD YkE YkF YkG YkM YlB YlC YlD YlE YlF YlG YlH YlI YlK YlM YnA YnC YgD YnG YnH YkJ YoD,end to end. -/
import Derived.Test.YtkcgdmjdkbgmkaaGreatP1
import Derived.Test.YtkcgdmjdkbgmkaaGreatYeD
import Derived.Test.YtkcgdmjdkbgmkaaGreatYeB
namespace Go.Mch

set_option maxRecDepth 10000 in
theorem t_pdq {pg:Pg} (hp:pg.fn 393=some j08) (h433:S_insSort pg) (h434:S_heap pg) (h435:S_brk pg) (h436:S_piv pg) (h437:S_revR pg) (h438:S_pins pg) (h440:S_part pg) (h314:S_cmpL pg):S_pdq pg:=by
 have main:∀ (n:Nat) (X:List (List Int)) (a b lim:Nat),b-a=n→Sm X→Dj X→a≤b→b≤X.length→Lb X a b→lim≤64 →
  ∃ Y,(PI X Y a b∧SI Y a b)∧Call pg 393 [ownR X,I a,I b,I lim,.fn 314 []] [ownR Y,I a,I b,I lim,.fn 314 []] (.tup []):=by
  intro n
  induction n using Nat.strongRecOn with
  | ind n ih =>
  intro X a b lim hn hS hD hab hb hLb hlim
  have hX1:=hS.1
  refine Call.findA (α:=List (List Int)) (Q:=fun Y=>PI X Y a b∧SI Y a b) (args':=fun Y=>[ownR Y,I a,I b,I lim,.fn 314 []]) (r:=fun _=>.tup []) hp rfl (by simp [F.lets,j08,List.range,List.range.loop]) (kind_own _ _) ?_
  show wp _ _ j08.body (postX _ [] _ _ _) _
  generalize hR:postX (fun Y=>PI X Y a b∧SI Y a b) [] [ownR X,I a,I b,I lim,.fn 314 []] (fun Y=>[ownR Y,I a,I b,I lim,.fn 314 []]) (fun _=>T.tup [])=R
  simp [j08]
  refine j0t (α:=List (List Int)×Nat×Nat×Nat) (fun z=>z.2.2.1-z.2.1) (fun z e=>(PI X z.1 a b∧Fr z.1 a z.2.1 z.2.2.1 b∧z.2.2.2≤64)∧ExWB fun wb wq=>e=fr [(0,some (.val (ownR z.1))),(1,some (.val (I z.2.1))),(2,some (.val (I z.2.2.1))),(3,some (.val (I z.2.2.2))),(4,some (.val (.fn 314 []))),(10,some (.val (.sc (.bool wb)))),(11,some (.val (.sc (.bool wq))))]) ?_ (X,a,b,lim) _ ⟨⟨PI.refl hD a b,Fr.start hab,hlim⟩,true,true,by simp⟩
  rintro ⟨Y,c,d,l⟩ e ⟨⟨g1,g2,g3⟩,wb,wq,rfl⟩
  simp only at g1 g2 g3
  have hY:=g1.len
  have f1:=g2.h1
  have f2:=g2.h2
  have f3:=g2.h3
  have hSY:=hS.pi g1
  have hLY:=g2.lb (hLb.pi g1)
  obtain ⟨k0,hk0⟩:∃ k0:Nat,(d:Int)-c=k0:=⟨d-c,by omega⟩
  refine wp_block ?_
  refine wp_cut' (fun e=>e=fr [(0,some (.val (ownR Y))),(1,some (.val (I c))),(2,some (.val (I d))),(3,some (.val (I l))),(4,some (.val (.fn 314 []))),(10,some (.val (.sc (.bool wb)))),(11,some (.val (.sc (.bool wq)))),(12,some (.val (I k0)))]) (fun J hJ hJr=>?_) ?_
  · simp [hk0]
    repeat (refine And.intro (by omega) ?_)
    exact hJ _ (by simp)
  rintro e rfl
  refine wp_cut' (fun e=>12<k0∧e=fr [(0,some (.val (ownR Y))),(1,some (.val (I c))),(2,some (.val (I d))),(3,some (.val (I l))),(4,some (.val (.fn 314 []))),(10,some (.val (.sc (.bool wb)))),(11,some (.val (.sc (.bool wq)))),(12,some (.val (I k0))),(25,some (.val (.sc (.bool false))))]) (fun J hJ hJr=>?_) ?_
  · by_cases h12:(k0:Int)≤12
    · obtain ⟨Z,_,z1,rfl,z2,z3⟩:=h433 Y c d hSY g1.dj (by omega) (by omega) trivial
      have h12':k0≤12:=by omega
      simp [h12]
      refine callM (ts':=[ownR Z,I c,I d,.fn 314 []]) (r:=.tup []) ?_ ?_ ?_ ?_
      · simp
      · simpa using z3
      · simp
      · simp
        refine hJr _ ?_
        simp
        rw [← hR]
        exact ⟨Z,⟨g1.trans (z1.wide f1 f3),(g2.pi z1).fin z2⟩,by simp [post]⟩
    · have h12':¬k0≤12:=by omega
      simp [h12]
      exact hJ _ ⟨by omega,by simp⟩
  rintro e ⟨hk12,rfl⟩
  refine wp_cut' (fun e=>0<l∧e=fr [(0,some (.val (ownR Y))),(1,some (.val (I c))),(2,some (.val (I d))),(3,some (.val (I l))),(4,some (.val (.fn 314 []))),(10,some (.val (.sc (.bool wb)))),(11,some (.val (.sc (.bool wq)))),(12,some (.val (I k0))),(32,some (.val (.sc (.bool false))))]) (fun J hJ hJr=>?_) ?_
  · by_cases hl0:l=0
    · obtain ⟨Z,_,z1,rfl,z2,z3⟩:=h434 Y c d hSY g1.dj (by omega) (by omega) trivial
      subst hl0
      simp
      refine callM (ts':=[ownR Z,I c,I d,.fn 314 []]) (r:=.tup []) ?_ ?_ ?_ ?_
      · simp
      · simpa using z3
      · simp
      · simp
        refine hJr _ ?_
        simp
        rw [← hR]
        exact ⟨Z,⟨g1.trans (z1.wide f1 f3),(g2.pi z1).fin z2⟩,by simp [post]⟩
    · simp [hl0]
      exact hJ _ ⟨by omega,by simp⟩
  rintro e ⟨hl0,rfl⟩
  refine wp_cut' (fun e=>∃ (Y1:List (List Int)) (l1:Nat),(PI Y Y1 c d∧l1≤64)∧(e=fr [(0,some (.val (ownR Y1))),(1,some (.val (I c))),(2,some (.val (I d))),(3,some (.val (I l1))),(4,some (.val (.fn 314 []))),(10,some (.val (.sc (.bool wb)))),(11,some (.val (.sc (.bool wq)))),(12,some (.val (I k0)))]∨e=fr [(0,some (.val (ownR Y1))),(1,some (.val (I c))),(2,some (.val (I d))),(3,some (.val (I l1))),(4,some (.val (.fn 314 []))),(10,some (.val (.sc (.bool wb)))),(11,some (.val (.sc (.bool wq)))),(12,some (.val (I k0))),(39,some (.val (.sc (.bool false))))])) (fun J hJ hJr=>?_) ?_
  · cases wb with
    | true =>
     simp
     exact hJ _ ⟨Y,l,⟨PI.refl g1.dj c d,g3⟩,.inr (by simp)⟩
    | false =>
     obtain ⟨Z,_,z1,rfl,z2,z3⟩:=h435 Y c d hSY g1.dj (by omega) (by omega) trivial
     have hl1:(l:Int)-1=((l-1:Nat):Int):=by omega
     simp
     refine callM (ts':=[ownR Z,I c,I d,.fn 314 []]) (r:=.tup []) ?_ ?_ ?_ ?_
     · simp
     · simpa using z3
     · simp
     · simp
       repeat (refine And.intro (by omega) ?_)
       exact hJ _ ⟨Z,l-1,⟨z1,by omega⟩,.inl (by simp [hl1])⟩
  rintro e ⟨Y1,l1,⟨p1,p3⟩,hee⟩
  have g1:=g1.trans (p1.wide f1 f3)
  have g2:=g2.pi p1
  have hY1:=g1.len
  have hSY1:=hS.pi g1
  have hLY1:=hLY.pi p1
  clear hY hSY hLY p1
  obtain ⟨p,h,⟨q1,q2⟩,q3⟩:=h436 Y1 c d hSY1 (by omega) (by omega)
  refine wp_cut' (fun e=>e=fr [(0,some (.val (ownR Y1))),(1,some (.val (I c))),(2,some (.val (I d))),(3,some (.val (I l1))),(4,some (.val (.fn 314 []))),(10,some (.val (.sc (.bool wb)))),(11,some (.val (.sc (.bool wq)))),(12,some (.val (I k0))),(13,some (.val (I p))),(14,some (.val (I h)))]) (fun J hJ hJr=>?_) ?_
  · rcases hee with rfl | rfl
    all_goals
     simp
     refine callM (ts':=[ownR Y1,I c,I d,.fn 314 []]) (r:=.tup [I p,I h]) ?_ ?_ ?_ ?_
     · simp
     · simpa using q3
     · simp
     · simp
       exact hJ _ (by simp)
  clear hee q3
  rintro e rfl
  refine wp_cut' (fun e=>∃ (Y2:List (List Int)) (p2 h2:Nat),(PI Y1 Y2 c d∧c<p2∧p2<d)∧(e=fr [(0,some (.val (ownR Y2))),(1,some (.val (I c))),(2,some (.val (I d))),(3,some (.val (I l1))),(4,some (.val (.fn 314 []))),(10,some (.val (.sc (.bool wb)))),(11,some (.val (.sc (.bool wq)))),(12,some (.val (I k0))),(13,some (.val (I p2))),(14,some (.val (I h2)))]∨e=fr [(0,some (.val (ownR Y2))),(1,some (.val (I c))),(2,some (.val (I d))),(3,some (.val (I l1))),(4,some (.val (.fn 314 []))),(10,some (.val (.sc (.bool wb)))),(11,some (.val (.sc (.bool wq)))),(12,some (.val (I k0))),(13,some (.val (I p2))),(14,some (.val (I h2))),(56,some (.val (.sc (.bool false))))])) (fun J hJ hJr=>?_) ?_
  · by_cases hh2:h=2
    · obtain ⟨Z,_,z1,rfl,z2,z3⟩:=h437 Y1 c d hSY1 g1.dj (by omega) (by omega) trivial
      subst hh2
      have hp2:(d:Int)-1-((p:Int)-c)=((d-1-(p-c):Nat):Int):=by omega
      simp
      refine callM (ts':=[ownR Z,I c,I d,.fn 314 []]) (r:=.tup []) ?_ ?_ ?_ ?_
      · simp
      · simpa using z3
      · simp
      · simp
        repeat (refine And.intro (by omega) ?_)
        exact hJ _ ⟨Z,d-1-(p-c),1,⟨z1,by omega,by omega⟩,.inl (by simp [hp2])⟩
    · have hh2':¬(h:Int)=2:=by omega
      simp [hh2']
      exact hJ _ ⟨Y1,p,h,⟨PI.refl g1.dj c d,by omega,by omega⟩,.inr (by simp)⟩
  rintro e ⟨Y2,p2,h2,⟨p1,q3,q4⟩,hee⟩
  have g1:=g1.trans (p1.wide f1 f3)
  have g2:=g2.pi p1
  have hY2:=g1.len
  have hSY2:=hS.pi g1
  have hLY2:=hLY1.pi p1
  clear hY1 hSY1 hLY1 p1 q1 q2
  refine wp_cut' (fun e=>∃ (Y3:List (List Int)),PI Y2 Y3 c d∧(e=fr [(0,some (.val (ownR Y3))),(1,some (.val (I c))),(2,some (.val (I d))),(3,some (.val (I l1))),(4,some (.val (.fn 314 []))),(10,some (.val (.sc (.bool wb)))),(11,some (.val (.sc (.bool wq)))),(12,some (.val (I k0))),(13,some (.val (I p2))),(80,some (.val (.sc (.bool false))))]∨e=fr [(0,some (.val (ownR Y3))),(1,some (.val (I c))),(2,some (.val (I d))),(3,some (.val (I l1))),(4,some (.val (.fn 314 []))),(10,some (.val (.sc (.bool wb)))),(11,some (.val (.sc (.bool wq)))),(12,some (.val (I k0))),(13,some (.val (I p2))),(75,some (.val (.sc (.bool false))))])) (fun J hJ hJr=>?_) ?_
  · by_cases hw:wb=true∧wq=true∧h2=1
    · obtain ⟨rfl,rfl,rfl⟩:=hw
      obtain ⟨Z,t,⟨z1,z2⟩,z3⟩:=h438 Y2 c d hSY2 g1.dj (by omega) (by omega) hLY2
      rcases hee with rfl | rfl
      all_goals
       simp
       refine callM (ts':=[ownR Z,I c,I d,.fn 314 []]) (r:=.sc (.bool t)) ?_ ?_ ?_ ?_
       · simp
       · simpa using z3
       · simp
       · simp
         cases t with
         | true =>
          simp
          refine hJr _ ?_
          simp
          rw [← hR]
          exact ⟨Z,⟨g1.trans (z1.wide f1 f3),(g2.pi z1).fin (z2 rfl)⟩,by simp [post]⟩
         | false =>
          simp
          exact hJ _ ⟨Z,z1,.inl (by simp)⟩
    · have hx:=PI.refl g1.dj c d
      rcases hee with rfl | rfl
      all_goals
       cases wb with
       | false =>
        simp [j00]
        exact hJ _ ⟨Y2,hx,.inr (by simp)⟩
       | true =>
        cases wq with
        | false =>
         simp [j00]
         exact hJ _ ⟨Y2,hx,.inr (by simp)⟩
        | true =>
         have h21:¬h2=1:=fun hh=>hw ⟨rfl,rfl,hh⟩
         have h21':¬(h2:Int)=1:=by omega
         simp [h21']
         exact hJ _ ⟨Y2,hx,.inr (by simp)⟩
  rintro e ⟨Y3,p1,hee⟩
  have g1:=g1.trans (p1.wide f1 f3)
  have g2:=g2.pi p1
  have hY3:=g1.len
  have hSY3:=hS.pi g1
  have hLY3:=hLY2.pi p1
  clear hY2 hSY2 hLY2 p1
  refine wp_cut' (fun e=>e=fr [(0,some (.val (ownR Y3))),(1,some (.val (I c))),(2,some (.val (I d))),(3,some (.val (I l1))),(4,some (.val (.fn 314 []))),(10,some (.val (.sc (.bool wb)))),(11,some (.val (.sc (.bool wq)))),(12,some (.val (I k0))),(13,some (.val (I p2))),(97,some (.val (.sc (.bool false))))]) (fun J hJ hJr=>?_) ?_
  · by_cases hc0:0<c
    · have hbf:bef (gt Y3 (c-1)) (gt Y3 p2):=by
       rcases hLY3 with h0 | h0
       · omega
       · exact h0 p2 (by omega) (by omega)
      have hb':cmpL (gt Y3 (c-1)) (gt Y3 p2)<0:=hbf
      have hcl:c-1<Y3.length:=by omega
      have hpl:p2<Y3.length:=by omega
      have e1:=gt_at hcl
      have e2:=gt_at hpl
      have hc:=h314 (gt Y3 (c-1)) (gt Y3 p2) (hSY3.2 _)
      have hc1:(c:Int)-1=((c-1:Nat):Int):=by omega
      have hc0':(0:Int)<c:=by omega
      rcases hee with rfl | rfl
      all_goals
       simp [hc0,hc1,hcl,hpl,e1,e2]
       repeat (refine And.intro (by omega) ?_)
       refine j0e hc rfl rfl (fun _=>rfl) ?_
       simp [hb']
       exact hJ _ (by simp)
    · have hc0':¬(0:Int)<c:=by omega
      rcases hee with rfl | rfl
      all_goals
       simp [hc0,j00]
       exact hJ _ (by simp)
  clear hee
  rintro e rfl
  obtain ⟨Z,m,ap,⟨t1,t2,t3,t4,t5⟩,t6⟩:=h440 Y3 c d p2 hSY3 g1.dj (by omega) (by omega) (by omega)
  have g1:=g1.trans (t1.wide f1 f3)
  have g2:=g2.pi t1
  have hZ:=g1.len
  have hSZ:=hS.pi g1
  have hLZ:=hLY3.pi t1
  have hcut:=g2.cutm t2 t3 t4 t5
  obtain ⟨L,hL⟩:∃ L:Nat,(m:Int)-c=L:=⟨m-c,by omega⟩
  obtain ⟨M,hM⟩:∃ M:Nat,(d:Int)-m=M:=⟨d-m,by omega⟩
  obtain ⟨q,hq⟩:∃ q:Nat,(k0:Int).tdiv 8=q:=⟨k0 / 8,by rw [Int.tdiv_eq_ediv_of_nonneg (by omega)];omega⟩
  simp
  refine callM (ts':=[ownR Z,I c,I d,I p2,.fn 314 []]) (r:=.tup [I m,.sc (.bool ap)]) ?_ ?_ ?_ ?_
  · simp
  · simpa using t6
  · simp
  · simp
    simp [hL,hM]
    repeat (refine And.intro (by omega) ?_)
    by_cases hlt:L<M
    · have hLb2:Lb Z c m:=by
       rcases hLZ with h0 | h0
       · exact .inl h0
       · exact .inr fun k k1 k2=>h0 k k1 (by omega)
      obtain ⟨W,⟨w1,w2⟩,w3⟩:=ih (m-c) (by omega) Z c m l1 rfl hSZ g1.dj (by omega) (by omega) hLb2 p3
      simp [hlt]
      refine callM (ts':=[ownR W,I c,I m,I l1,.fn 314 []]) (r:=.tup []) ?_ ?_ ?_ ?_
      · simp
      · simpa using w3
      · simp
      · simp
        repeat (refine And.intro (by omega) ?_)
        exact ⟨W,m+1,d,by omega,l1,⟨g1.trans (w1.wide f1 (by omega)),g2.left t2 t3 hcut w1 w2,p3⟩,decide ((k0:Int) / 8≤L),ap,by simp⟩
    · have hLb2:Lb Z (m+1) d:=.inr fun k k1 k2=>t5 k (by omega) k2
      obtain ⟨W,⟨w1,w2⟩,w3⟩:=ih (d-(m+1)) (by omega) Z (m+1) d l1 rfl hSZ g1.dj (by omega) (by omega) hLb2 p3
      simp [hlt]
      repeat (refine And.intro (by omega) ?_)
      refine callM (ts':=[ownR W,I (m+1:Nat),I d,I l1,.fn 314 []]) (r:=.tup []) ?_ ?_ ?_ ?_
      · simp
      · simpa using w3
      · simp
      · simp
        exact ⟨W,c,m,by omega,l1,⟨g1.trans (w1.wide (by omega) f3),g2.right t2 t3 hcut w1 w2,p3⟩,decide ((k0:Int) / 8≤M),ap,by simp⟩
 exact fun X a b lim=>main _ X a b lim rfl
end Go.Mch
namespace Go.Mch

def S_sort (pg:Pg):Prop:=∀ X:List (List Int),Sm X→Dj X→∃ Y,(Srt Y∧∀ x,x∈Y↔x∈X)∧Call pg 313 [ownR X,.fn 314 []] [ownR Y,.fn 314 []] (.tup [])
theorem t_sortFunc {pg:Pg} (hp:pg.fn 313=some j01) (h394:S_len pg 394) (h393:S_pdq pg):S_sort pg:=by
 intro X hS hD
 have hX1:=hS.1
 obtain ⟨L,⟨_,_,l3⟩,hl⟩:=h394 X.length hX1
 obtain ⟨Y,⟨y1,y2⟩,hy⟩:=h393 X 0 X.length L hS hD (by omega) (Nat.le_refl _) (.inl rfl) (by omega)
 have hlen:=y1.len
 have hY:SI Y 0 Y.length:=by rw [hlen];exact y2
 have ew:IntKind.u64.wrap (X.length:Int)=X.length:=wru (by omega) (by omega)
 refine ⟨Y,⟨hY.srt,y1.mem⟩,Call.intro_own hp rfl (by simp [F.lets,j01,List.range,List.range.loop]) ?_⟩
 show wp _ _ j01.body (post [] _ _ _) _
 simp [j01,ew]
 refine j0e hl rfl rfl (fun _=>rfl) ?_
 simp
 refine callM (ts':=[ownR Y,I 0,I X.length,I L,.fn 314 []]) (r:=.tup []) ?_ ?_ ?_ ?_
 · simp
 · simpa using hy
 · simp
 · simp
end Go.Mch
namespace Go.Mch

theorem Srt.ins {X:List (List Int)} {w:List Int} {i:Nat} (h:Srt X) (h1:∀ j (hj:j<X.length),j<i→cmpL X[j] w<0) (h2:∀ j (hj:j<X.length),i≤j→cmpL w X[j]<0):Srt (X.take i++w::X.drop i):=by
 refine List.pairwise_append.2 ⟨h.sublist (List.take_sublist _ _),List.pairwise_cons.2 ⟨fun b hb=>?_,h.sublist (List.drop_sublist _ _)⟩,fun a ha b hb=>?_⟩
 · obtain ⟨k,hk,rfl⟩:=List.getElem_of_mem hb
   simp only [List.length_drop] at hk
   rw [List.getElem_drop]
   exact h2 _ (by omega) (by omega)
 · obtain ⟨k,hk,rfl⟩:=List.getElem_of_mem ha
   simp only [List.length_take] at hk
   rw [List.getElem_take]
   rcases List.mem_cons.1 hb with rfl | hb
   · exact h1 _ (by omega) (by omega)
   · obtain ⟨m,hm,rfl⟩:=List.getElem_of_mem hb
     simp only [List.length_drop] at hm
     rw [List.getElem_drop]
     exact h.lt (by omega) (by omega)
theorem thr (n:Nat) (P:Nat→Prop):(∀ j k,j≤k→k<n→P k→P j)→∃ i,i≤n∧(∀ j,j<n→j<i→P j)∧∀ j,j<n→i≤j→¬P j:=by
 induction n with
 | zero=>intro _;exact ⟨0,by omega,fun j h=>by omega,fun j h=>by omega⟩
 | succ n ih =>
  intro h
  by_cases hp:P n
  · exact ⟨n+1,by omega,fun j hj _=>h j n (by omega) (by omega) hp,fun j hj h2=>by omega⟩
  · obtain ⟨i,h1,h2,h3⟩:=ih fun j k hjk hk=>h j k hjk (by omega)
    refine ⟨i,by omega,fun j hj hi=>h2 j (by omega) hi,fun j hj hi=>?_⟩
    by_cases hjn:j=n
    · subst hjn;exact hp
    · exact h3 j (by omega) hi
structure At (X:List (List Int)) (w:List Int) (i:Nat):Prop where
 le:i≤X.length
 lo:∀ j (hj:j<X.length),j<i→cmpL X[j] w<0
 hi:∀ j (hj:j<X.length),i≤j→¬cmpL X[j] w<0
def S_put (pg:Pg):Prop:=∀ (X:List (List Int)) (w:List Int),Srt X→X.length≤1000000→(∀ x∈X,x.length≤1048576)→w.length≤1048576→∃ (X':List (List Int)) (b:Bool) (args':List T),Srt X'∧(∀ x,x∈X'↔x∈X∨x=w)∧(b=true↔w ∉ X)∧X'.length≤X.length+1∧args'.length=2∧Call pg 349 [.mem .own (some 1) (tbL X),ix w] args' (.tup [.mem .own (some 1) (tbL X'),B b])
theorem Srt.at {X:List (List Int)} (h:Srt X) (w:List Int):∃ i,At X w i:=by
 obtain ⟨i,h1,h2,h3⟩:=thr X.length (fun j=>cmpL (X.getD j []) w<0) fun j k hjk hk hp=>by
  by_cases he:j=k
  · subst he;exact hp
  · have hj:j<X.length:=by omega
    have:=h.lt hk (show j<k by omega)
    simp only [List.getD_eq_getElem?_getD,List.getElem?_eq_getElem hk,List.getElem?_eq_getElem hj,Option.getD_some] at hp ⊢
    exact cmpL_trans _ _ _ this hp
 refine ⟨i,h1,fun j hj hl=>?_,fun j hj hl=>?_⟩
 · have:=h2 j hj hl
   simpa [hj] using this
 · have:=h3 j hj hl
   simpa [hj] using this
theorem At.mem {X:List (List Int)} {w:List Int} {i:Nat} (h:At X w i) (hs:Srt X):w∈X↔∃ hi:i<X.length,X[i]=w:=by
 constructor
 · intro hm
   obtain ⟨j,hj,rfl⟩:=List.getElem_of_mem hm
   have hij:i≤j:=by
    refine Classical.byContradiction fun hn=>?_
    have:=h.lo j hj (by omega)
    have z:=(cmpL_zero X[j] X[j]).2 rfl
    omega
   by_cases he:i=j
   · subst he;exact ⟨hj,rfl⟩
   · exact absurd (hs.lt hj (by omega)) (h.hi i (by omega) (Nat.le_refl _))
 · rintro ⟨hi,rfl⟩
   exact List.getElem_mem hi
theorem At.ins {X:List (List Int)} {w:List Int} {i:Nat} (h:At X w i) (hs:Srt X) (hn:w ∉ X):Srt (X.take i++w::X.drop i):=by
 refine hs.ins h.lo fun j hj hij=>?_
 have h1:=h.hi j hj hij
 have h2:=cmpL_neg X[j] w
 have h3:cmpL X[j] w≠0:=fun hz=>hn (by rw [← (cmpL_zero _ _).1 hz];exact List.getElem_mem hj)
 omega
def shf (X:List (List Int)) (z:List Int) (q:Nat):List (List Int):=X.take q++z::X.drop q
theorem shf_length (X:List (List Int)) (z:List Int) {q:Nat} (h:q≤X.length):(shf X z q).length=X.length+1:=by simp [shf];omega
theorem shf_get (X:List (List Int)) (z:List Int) {r:Nat} (h:r<X.length):(shf X z (r+1))[r]?=some X[r]:=by
 rw [shf,List.getElem?_append_left (by simp;omega),List.getElem?_take_of_lt (by omega),List.getElem?_eq_getElem h]
theorem shf_set (X:List (List Int)) (z:List Int) {r:Nat} (h:r<X.length):(shf X z (r+1)).set (r+1) X[r]=shf X X[r] r:=by
 have hl:(X.take (r+1)).length=r+1:=by simp;omega
 rw [shf,List.set_append_right _ _ (by omega),hl,Nat.sub_self,List.set_cons_zero,shf,List.take_succ_eq_append_getElem h,List.drop_eq_getElem_cons h,List.append_assoc]
 rfl
theorem tbL_set (X:List (List Int)) (i:Nat) (v:List Int):tbL (X.set i v)=(tbL X).set i (ix v):=by simp [tbL,List.map_set]
theorem shf_fin (X:List (List Int)) (z w:List Int) {q:Nat} (h:q≤X.length):(shf X z q).set q w=X.take q++w::X.drop q:=by
 have hl:(X.take q).length=q:=by simp;omega
 rw [shf,List.set_append_right _ _ (by omega),hl,Nat.sub_self,List.set_cons_zero]
set_option maxRecDepth 10000 in
theorem t_l01Put {pg:Pg} (hp:pg.fn 349=some c_spec_l01Put) (h408:S_less pg) (h67:S_same pg):S_put pg:=by
 intro X w hs hl hr hw
 obtain ⟨i,hi⟩:=hs.at w
 have hmem:=hi.mem hs
 have hle:=hi.le
 have hlets:∀ a b:T,c_spec_l01Put.lets [a,b]=true:=fun a b=>by simp [F.lets,c_spec_l01Put,List.range,List.range.loop]
 by_cases hm:w∈X
 · obtain ⟨hiX,hXi⟩:=hmem.1 hm
   refine ⟨X,false,[.gone,ix w],hs,fun x=>⟨.inl,fun h=>h.elim id fun h=>h▸hm⟩,by simp [hm],by omega,rfl,Call.intro_own hp rfl (hlets _ _) ?_⟩
   show wp _ _ c_spec_l01Put.body (post [.t 4,.t 5] _ _ _) _
   simp [c_spec_l01Put,kindOf]
   refine j0t (α:=Nat×Nat) (fun z=>z.2-z.1) (fun z e=>(z.1≤i∧i≤z.2∧z.2≤X.length)∧e=fr [(0,some (.val (.mem .own (some 1) (tbL X)))),(1,some (.val (ix w))),(6,some (.val (I z.1))),(7,some (.val (I z.2)))]) ?_ (0,X.length) _ ⟨⟨by simp,hle,by simp⟩,by simp⟩
   rintro ⟨lo,hI⟩ e ⟨⟨g1,g2,g3⟩,rfl⟩
   simp only at g1 g2 g3
   by_cases hlt:lo<hI
   · have hdiv:((lo:Int)+hI).tdiv 2=(((lo+hI) / 2:Nat):Int):=by
      rw [Int.tdiv_eq_ediv_of_nonneg (by omega)];omega
     have hmid:(lo+hI) / 2<X.length:=by omega
     have hlow:=hi.lo _ hmid
     have hhi:=hi.hi _ hmid
     have hmr:=hr _ (List.getElem_mem hmid)
     generalize hM:(lo+hI) / 2=M at *
     have hcl:=h408 X[M] w hmr
     have hcase:cmpL X[M] w<0↔M<i:=⟨fun hc=>Classical.byContradiction fun hn=>hhi (by omega) hc,hlow⟩
     simp [hlt,hdiv,hmid]
     refine ⟨by omega,by omega,?_⟩
     refine j0e hcl rfl rfl (fun _=>rfl) ?_
     by_cases hc:cmpL X[M] w<0
     · have hMi:=hcase.1 hc
       simp [hc]
       exact ⟨by omega,M+1,hI,by omega,⟨by omega,by omega,by omega⟩,by simp⟩
     · have hMi:¬M<i:=fun hh=>hc (hcase.2 hh)
       simp [hc]
       exact ⟨lo,M,by omega,⟨by omega,by omega,by omega⟩,by simp⟩
   · have hlo:lo=i:=by omega
     have hhi:hI=i:=by omega
     subst hlo hhi
     have hsame:=h67 X[hI] w (hr _ (List.getElem_mem hiX))
     simp [hiX]
     refine j0e hsame rfl rfl (fun _=>rfl) ?_
     simp [hXi]
 · have hX':Srt (X.take i++w::X.drop i):=hi.ins hs hm
   refine ⟨X.take i++w::X.drop i,true,[.gone,ix w],hX',fun x=>?_,by simp [hm],by simp;omega,rfl,Call.intro_own hp rfl (hlets _ _) ?_⟩
   · rw [List.mem_append,List.mem_cons]
     constructor
     · rintro (h1 | h1 | h1)
       · exact .inl (List.mem_of_mem_take h1)
       · exact .inr h1
       · exact .inl (List.mem_of_mem_drop h1)
     · rintro (h1 | h1)
       · rw [← List.take_append_drop i X] at h1
         rcases List.mem_append.1 h1 with h2 | h2
         · exact .inl h2
         · exact .inr (.inr h2)
       · exact .inr (.inl h1)
   show wp _ _ c_spec_l01Put.body (post [.t 4,.t 5] _ _ _) _
   simp [c_spec_l01Put,kindOf]
   refine j0t (α:=Nat×Nat) (fun z=>z.2-z.1) (fun z e=>(z.1≤i∧i≤z.2∧z.2≤X.length)∧e=fr [(0,some (.val (.mem .own (some 1) (tbL X)))),(1,some (.val (ix w))),(6,some (.val (I z.1))),(7,some (.val (I z.2)))]) ?_ (0,X.length) _ ⟨⟨by simp,hle,by simp⟩,by simp⟩
   rintro ⟨lo,hI⟩ e ⟨⟨g1,g2,g3⟩,rfl⟩
   simp only at g1 g2 g3
   by_cases hlt:lo<hI
   · have hdiv:((lo:Int)+hI).tdiv 2=(((lo+hI) / 2:Nat):Int):=by
      rw [Int.tdiv_eq_ediv_of_nonneg (by omega)];omega
     have hmid:(lo+hI) / 2<X.length:=by omega
     have hlow:=hi.lo _ hmid
     have hhi:=hi.hi _ hmid
     have hmr:=hr _ (List.getElem_mem hmid)
     generalize hM:(lo+hI) / 2=M at *
     have hcl:=h408 X[M] w hmr
     have hcase:cmpL X[M] w<0↔M<i:=⟨fun hc=>Classical.byContradiction fun hn=>hhi (by omega) hc,hlow⟩
     simp [hlt,hdiv,hmid]
     refine ⟨by omega,by omega,?_⟩
     refine j0e hcl rfl rfl (fun _=>rfl) ?_
     by_cases hc:cmpL X[M] w<0
     · have hMi:=hcase.1 hc
       simp [hc]
       exact ⟨by omega,M+1,hI,by omega,⟨by omega,by omega,by omega⟩,by simp⟩
     · have hMi:¬M<i:=fun hh=>hc (hcase.2 hh)
       simp [hc]
       exact ⟨lo,M,by omega,⟨by omega,by omega,by omega⟩,by simp⟩
   · have hlo:lo=i:=by omega
     have hhi:hI=i:=by omega
     subst hlo hhi
     have hl2:X.length+1≤roomy:=by unfold roomy;omega
     have htk:X.take X.length=X:=List.take_length
     by_cases hiX:hI<X.length
     · have hne:X[hI]≠w:=fun hh=>hm (hmem.2 ⟨hiX,hh⟩)
       have hsame:=h67 X[hI] w (hr _ (List.getElem_mem hiX))
       simp [hiX]
       refine j0e hsame rfl rfl (fun _=>rfl) ?_
       simp [hne,hl2]
       refine ⟨by omega,?_⟩
       refine j0t (α:=Nat×List Int) (fun z=>z.1) (fun z e=>(hI≤z.1∧z.1≤X.length)∧e=fr [(0,none),(1,some (.val (ix w))),(6,some (.val (I hI))),(9,some (.val (.mem .own (some 1) (tbL (shf X z.2 z.1))))),(10,some (.val (I z.1)))]) ?_ (X.length,w) _ ⟨⟨by simp;omega,by simp⟩,by simp [shf,tbL_append];simp [tbL]⟩
       rintro ⟨q,z⟩ e ⟨⟨k1,k2⟩,rfl⟩
       simp only at k1 k2
       have hYl:=shf_length X z k2
       by_cases hq:hI<q
       · obtain ⟨r,rfl⟩:∃ r,q=r+1:=⟨q-1,by omega⟩
         have hrX:r<X.length:=by omega
         have hYr:=shf_get X z hrX
         have hYs:=shf_set X z hrX
         generalize shf X z (r+1)=Y at *
         have hrY:r<Y.length:=by omega
         have hrY1:r+1<Y.length:=by omega
         have hYr:Y[r]=X[r]:=by rw [List.getElem?_eq_getElem hrY] at hYr;exact Option.some.inj hYr
         have hq':(hI:Int)<(r:Int)+1:=by omega
         simp [hq',hrY,hrY1,hYr]
         exact ⟨by omega,by omega,by omega,by omega,r,by omega,⟨by omega,by omega⟩,X[r],by rw [← hYs,tbL_set]⟩
       · have hqe:q=hI:=by omega
         subst hqe
         have hfin:=shf_fin X z w k2
         generalize shf X z q=Y at *
         have hqY:q<Y.length:=by omega
         rw [← hfin]
         rw [tbL_set]
         simp [hqY]
         omega
     · simp [hiX,j00,hl2]
       refine ⟨by omega,?_⟩
       refine j0t (α:=Nat×List Int) (fun z=>z.1) (fun z e=>(hI≤z.1∧z.1≤X.length)∧e=fr [(0,none),(1,some (.val (ix w))),(6,some (.val (I hI))),(9,some (.val (.mem .own (some 1) (tbL (shf X z.2 z.1))))),(10,some (.val (I z.1)))]) ?_ (X.length,w) _ ⟨⟨by simp;omega,by simp⟩,by simp [shf,tbL_append];simp [tbL]⟩
       rintro ⟨q,z⟩ e ⟨⟨k1,k2⟩,rfl⟩
       simp only at k1 k2
       have hYl:=shf_length X z k2
       by_cases hq:hI<q
       · obtain ⟨r,rfl⟩:∃ r,q=r+1:=⟨q-1,by omega⟩
         have hrX:r<X.length:=by omega
         have hYr:=shf_get X z hrX
         have hYs:=shf_set X z hrX
         generalize shf X z (r+1)=Y at *
         have hrY:r<Y.length:=by omega
         have hrY1:r+1<Y.length:=by omega
         have hYr:Y[r]=X[r]:=by rw [List.getElem?_eq_getElem hrY] at hYr;exact Option.some.inj hYr
         have hq':(hI:Int)<(r:Int)+1:=by omega
         simp [hq',hrY,hrY1,hYr]
         exact ⟨by omega,by omega,by omega,by omega,r,by omega,⟨by omega,by omega⟩,X[r],by rw [← hYs,tbL_set]⟩
       · have hqe:q=hI:=by omega
         subst hqe
         have hfin:=shf_fin X z w k2
         generalize shf X z q=Y at *
         have hqY:q<Y.length:=by omega
         rw [← hfin]
         rw [tbL_set]
         simp [hqY]
         omega
end Go.Mch
namespace Go.Mch

def GR (ms:List (List Int)) (n:Nat) (x:List Int):Prop:=∀ S:List Int→Prop,S (idL n)→(∀ y,S y→∀ p∈ms,S (thenL y p))→S x
structure Grp (ms:List (List Int)) (n:Nat) (X:List (List Int)):Prop where
 srt:Srt X
 mem:∀ x,x∈X↔GR ms n x
theorem Srt.nodup {X:List (List Int)} (h:Srt X):X.Nodup:=h.imp fun {a b} hab he=>by
 subst he
 have:=(cmpL_zero a a).2 rfl
 omega
theorem Srt.unique:∀ {X Y:List (List Int)},Srt X→Srt Y→(∀ x,x∈X↔x∈Y)→X=Y
 | [],[],_,_,_=>rfl
 | [],y::Y,_,_,h=>by have:=(h y).2 (by simp);cases this
 | x::X,[],_,_,h=>by have:=(h x).1 (by simp);cases this
 | x::X,y::Y,hx,hy,h=>by
  have hx1:=List.pairwise_cons.1 hx
  have hy1:=List.pairwise_cons.1 hy
  have hxy:x=y:=by
   refine Classical.byContradiction fun hne=>?_
   have m1:x∈Y:=by
    have:=(h x).1 (by simp)
    rcases List.mem_cons.1 this with e | e
    · exact absurd e hne
    · exact e
   have m2:y∈X:=by
    have:=(h y).2 (by simp)
    rcases List.mem_cons.1 this with e | e
    · exact absurd e.symm hne
    · exact e
   have a1:=hy1.1 x m1
   have a2:=hx1.1 y m2
   have a3:=cmpL_neg x y
   omega
  subst hxy
  have:X=Y:=Srt.unique hx1.2 hy1.2 fun z=>by
   have hz:=h z
   have n1:x ∉ X:=fun hm=>by
    have:=hx1.1 x hm
    have z0:=(cmpL_zero x x).2 rfl
    omega
   have n2:x ∉ Y:=fun hm=>by
    have:=hy1.1 x hm
    have z0:=(cmpL_zero x x).2 rfl
    omega
   by_cases hzx:z=x
   · subst hzx;simp [n1,n2]
   · simpa [hzx] using hz
  rw [this]
theorem len_of_same {X Y:List (List Int)} (h1:X.Nodup) (h2:Y.Nodup) (h:∀ x,x∈X↔x∈Y):X.length=Y.length :=
 Nat.le_antisymm (len_le_of_sub X Y h1 fun x hx=>(h x).1 hx) (len_le_of_sub Y X h2 fun x hx=>(h x).2 hx)
end Go.Mch
namespace Go.Mch

section
variable (mv:List Int→Nat→List Int) (m:Nat) (w:List Int)
def TR (x:List Int):Prop:=∀ C:List Int→Prop,C w→(∀ y,C y→∀ i,i<m→C (mv y i))→C x
theorem TR.start:TR mv m w w:=fun _ h _=>h
theorem TR.step {x:List Int} (h:TR mv m w x) {i:Nat} (hi:i<m):TR mv m w (mv x i):=fun C h1 h2=>h2 _ (h C h1 h2) i hi
structure TF (Q:List (List Int)):Prop where
 w0:w∈Q
 nd:Q.Nodup
 gr:∀ x∈Q,TR mv m w x
structure TB (Q:List (List Int)) (a k:Nat):Prop where
 f:TF mv m w Q
 cl:∀ i (h:i<Q.length),i<a→∀ p,p<m→mv Q[i] p∈Q
 cur:∀ h:a<Q.length,∀ p,p<k→mv Q[a] p∈Q
theorem TB.start:TB mv m w [w] 0 0:=⟨⟨by simp,by simp,fun x hx=>by rw [List.mem_singleton] at hx;subst hx;exact TR.start mv m x⟩,fun i h hi=>by omega,fun h p hp=>by omega⟩
variable {mv m w}
theorem TB.old {Q:List (List Int)} {a k:Nat} (h:TB mv m w Q a k) (ha:a<Q.length) (hin:mv Q[a] k∈Q):TB mv m w Q a (k+1) :=
 ⟨h.f,h.cl,fun h1 p hp=>by
  by_cases hpk:p=k
  · subst hpk;exact hin
  · exact h.cur h1 p (by omega)⟩
theorem TF.new {Q:List (List Int)} {a k:Nat} (h:TF mv m w Q) (ha:a<Q.length) (hk:k<m) (hin:mv Q[a] k ∉ Q):TF mv m w (Q++[mv Q[a] k]) :=
 ⟨List.mem_append.2 (.inl h.w0),by
  rw [List.nodup_append]
  exact ⟨h.nd,by simp,fun x hx y hy hxy=>by
   rw [List.mem_singleton] at hy
   exact hin (by rw [← hy,← hxy];exact hx)⟩,fun x hx=>by
  rcases List.mem_append.1 hx with hx | hx
  · exact h.gr x hx
  · rw [List.mem_singleton] at hx
    subst hx
    exact (h.gr _ (List.getElem_mem ha)).step mv m w hk⟩
theorem TB.new {Q:List (List Int)} {a k:Nat} (h:TB mv m w Q a k) (ha:a<Q.length) (hk:k<m) (hin:mv Q[a] k ∉ Q):TB mv m w (Q++[mv Q[a] k]) a (k+1) :=
 ⟨h.f.new ha hk hin,fun i hi hia p hp=>by
  have hl:i<Q.length:=by omega
  rw [List.getElem_append_left hl]
  exact List.mem_append.2 (.inl (h.cl i hl hia p hp)),fun h1 p hp=>by
  rw [List.getElem_append_left ha]
  by_cases hpk:p=k
  · subst hpk;exact List.mem_append.2 (.inr (by simp))
  · exact List.mem_append.2 (.inl (h.cur ha p (by omega)))⟩
theorem TB.up {Q:List (List Int)} {a:Nat} (h:TB mv m w Q a m) (ha:a<Q.length):TB mv m w Q (a+1) 0 :=
 ⟨h.f,fun i hi hia p hp=>by
  by_cases he:i=a
  · subst he;exact h.cur ha p hp
  · exact h.cl i hi (by omega) p hp,fun h1 p hp=>by omega⟩
theorem TB.all {Q:List (List Int)} {a:Nat} (h:TB mv m w Q a 0) (ha:¬a<Q.length) (x:List Int) (hx:TR mv m w x):x∈Q :=
 hx (fun y=>y∈Q) h.f.w0 fun y hy i hi=>by
  obtain ⟨j,hj,rfl⟩:=List.getElem_of_mem hy
  exact h.cl j hj (by omega) i hi
variable (mv m w)
def Orb (S:List (List Int)):Prop:=Srt S∧∀ x,x∈S↔TR mv m w x
noncomputable def orbO (lim:Nat):Option (List (List Int)):=by
 classical exact if h:∃ S,Orb mv m w S∧S.length≤lim then some (Classical.choose h) else none
variable {mv m w}
theorem Orb.unique {S S':List (List Int)} (h:Orb mv m w S) (h':Orb mv m w S'):S=S':=Srt.unique h.1 h'.1 fun x=>(h.2 x).trans (h'.2 x).symm
theorem orbO_some {S:List (List Int)} {lim:Nat} (h:Orb mv m w S) (hl:S.length≤lim):orbO mv m w lim=some S:=by
 have hx:∃ S,Orb mv m w S∧S.length≤lim:=⟨S,h,hl⟩
 unfold orbO
 rw [dif_pos hx]
 exact congrArg some ((Classical.choose_spec hx).1.unique h)
theorem orbO_none {Q:List (List Int)} {lim:Nat} (h:TF mv m w Q) (hl:lim<Q.length):orbO mv m w lim=none:=by
 unfold orbO
 rw [dif_neg]
 rintro ⟨S,⟨h1,h2⟩,h3⟩
 have:=len_le_of_sub Q S h.nd fun x hx=>(h2 x).2 (h.gr x hx)
 omega
theorem orbO_spec {S:List (List Int)} {lim:Nat} (h:orbO mv m w lim=some S):Orb mv m w S∧S.length≤lim:=by
 unfold orbO at h
 split at h
 · rename_i hx
   rw [← Option.some.inj h]
   exact Classical.choose_spec hx
 · cases h
end
end Go.Mch
namespace Go.Mch

def ExT (P:List (List Int)→Prop):Prop:=∃ Q,P Q
theorem ExT.mk {P:List (List Int)→Prop} (Q:List (List Int)) (h:P Q):ExT P:=⟨Q,h⟩
structure BF (ms:List (List Int)) (n:Nat) (Q:List (List Int)) (i k:Nat):Prop where
 nd:Q.Nodup
 gr:∀ x∈Q,GR ms n x
 id:idL n∈Q
 dn:∀ j (hj:j<Q.length),j<i→∀ p∈ms,thenL Q[j] p∈Q
 dk:∀ hi:i<Q.length,∀ p∈ms.take k,thenL Q[i] p∈Q
 le:Q.length≤1000
end Go.Mch
namespace Go.Mch

def rowsF (X:List (List Int)):List T:=X.map fun xs=>.mem .fresh (some 1) (xs.map I)
@[simp] theorem rowsF_length (X:List (List Int)):(rowsF X).length=X.length:=by simp [rowsF]
@[simp] theorem noOwnL_rowsF (X:List (List Int)):T.j0o (rowsF X)=true:=by
 induction X with
 | nil=>rfl
 | cons x X ih=>simp only [rowsF,List.map_cons] at ih ⊢;simp [ih]
@[simp] theorem eryL_rowsF (X:List (List Int)):T.eryL .old (rowsF X)=tbL X:=by
 induction X with
 | nil=>rfl
 | cons x X ih=>simp only [rowsF,tbL,List.map_cons] at ih ⊢;simp [ih]
@[simp] theorem rowsF_getElem {X:List (List Int)} {k:Nat} (h:k<(rowsF X).length):(rowsF X)[k]=.mem .fresh (some 1) ((X[k]'(by simpa using h)).map I):=by simp [rowsF]
theorem rowsF_snoc (X:List (List Int)) (w:List Int):rowsF (X++[w])=rowsF X++[.mem .fresh (some 1) (w.map I)]:=by simp [rowsF]
def Rds (ts:List T) (X:List (List Int)):Prop:=T.eryL .old ts=tbL X∧T.j0o ts=true∧T.lendL ts=tbL X∧ts.length=X.length
theorem Rds.fresh (X:List (List Int)):Rds (rowsF X) X:=⟨by simp,by simp,by
 induction X with
 | nil=>rfl
 | cons x X ih=>simp only [rowsF,tbL,List.map_cons] at ih ⊢;simp [ih],by simp⟩
theorem Rds.old (X:List (List Int)):Rds (tbL X) X:=⟨by simp,by simp,by
 induction X with
 | nil=>rfl
 | cons x X ih=>simp only [tbL,List.map_cons] at ih ⊢;simp [ih],by simp⟩
def ExTT (P:List (List Int)→List (List Int)→List T→Prop):Prop:=∃ F S ts,P F S ts
theorem ExTT.mk {P:List (List Int)→List (List Int)→List T→Prop} (F S:List (List Int)) (ts:List T) (h:P F S ts):ExTT P:=⟨F,S,ts,h⟩
def grpT:Option (List (List Int))→T
 | some X=>.tup [.mem .own (some 1) (rows X),B true]
 | none=>.tup [nil,B false]

end Go.Mch
namespace Go.Mch

@[simp] theorem noOldL_rowsF (X:List (List Int)):T.noOldL (rowsF X)=true:=by
 induction X with
 | nil=>rfl
 | cons x X ih=>simp only [rowsF,List.map_cons] at ih ⊢;simp [ih]
def cd3:Option (List (List Int))→Int
 | some _=>0
 | none=>3
theorem dj_of {Q:List (List Int)} (h:Q.Nodup):Dj Q:=fun k k' hk hk' he=>by
 rw [← gt_at hk,← gt_at hk'] at he
 have:=List.pairwise_iff_getElem.1 h
 rcases Nat.lt_trichotomy k k' with h1 | h1 | h1
 · exact absurd he (this k k' hk hk' h1)
 · exact h1
 · exact absurd he.symm (this k' k hk' hk h1)
end Go.Mch
namespace Go.Mch

theorem dm_pair {n x y:Nat} (hy:y<n):(x*n+y) / n=x∧(x*n+y) % n=y:=by
 have hn:0<n:=by omega
 refine ⟨?_,?_⟩
 · rw [Nat.mul_comm,Nat.mul_add_div hn,Nat.div_eq_of_lt hy,Nat.add_zero]
 · rw [Nat.mul_comm,Nat.mul_add_mod,Nat.mod_eq_of_lt hy]
theorem pair_lt {n x y:Nat} (hx:x<n) (hy:y<n):x*n+y<n*n:=by
 have:(x+1)*n≤n*n:=Nat.mul_le_mul_right n hx
 rw [Nat.add_mul] at this
 omega
theorem inj_pair {f s:List (List Int)} (hi:Inj f s) {x y x' y':Nat} (hx:x<f.length) (hy:y<f.length) (hx':x'<f.length) (hy':y'<f.length) (h1:v2 f x y=v2 f x' y') (h2:v2 s x y=v2 s x' y'):x=x'∧y=y':=by
 have hp:=dm_pair (x:=x) hy
 have hp':=dm_pair (x:=x') hy'
 by_cases he:x*f.length+y=x'*f.length+y'
 · exact ⟨by rw [← hp.1,he,hp'.1],by rw [← hp.2,he,hp'.2]⟩
 · exact absurd ⟨he,by rw [hp.1,hp.2,hp'.1,hp'.2];exact h1,by rw [hp.1,hp.2,hp'.1,hp'.2];exact h2⟩ (hi _ (pair_lt hx hy) _ (pair_lt hx' hy'))
theorem sur_pair {f s:List (List Int)} (h:PM f s) (hi:Inj f s) {a b:Nat} (ha:a<f.length) (hb:b<f.length):∃ x y,x<f.length∧y<f.length∧v2 f x y=a∧v2 s x y=b:=by
 have r1:∀ x y:Nat,0≤v2 f x y∧v2 f x y<f.length:=fun x y=>by simpa [g2] using h.gF x y
 have r2:∀ x y:Nat,0≤v2 s x y∧v2 s x y<f.length:=fun x y=>by simpa [g2] using h.gS x y
 have hs:=surj_of_inj (n:=f.length*f.length) (g:=fun p=>(v2 f (p / f.length) (p % f.length)).toNat*f.length+(v2 s (p / f.length) (p % f.length)).toNat) (fun p _=>by
  have:=r1 (p / f.length) (p % f.length)
  have:=r2 (p / f.length) (p % f.length)
  exact pair_lt (by omega) (by omega)) (fun p p' hp hp' he=>by
  have hd:=dm_lt hp
  have hd':=dm_lt hp'
  have q1:=r1 (p / f.length) (p % f.length)
  have q2:=r2 (p / f.length) (p % f.length)
  have q1':=r1 (p' / f.length) (p' % f.length)
  have q2':=r2 (p' / f.length) (p' % f.length)
  have u:=dm_pair (n:=f.length) (x:=(v2 f (p / f.length) (p % f.length)).toNat) (y:=(v2 s (p / f.length) (p % f.length)).toNat) (by omega)
  have u':=dm_pair (n:=f.length) (x:=(v2 f (p' / f.length) (p' % f.length)).toNat) (y:=(v2 s (p' / f.length) (p' % f.length)).toNat) (by omega)
  rw [he] at u
  have e1:=u.1.symm.trans u'.1
  have e2:=u.2.symm.trans u'.2
  have:=inj_pair hi hd.1 hd.2 hd'.1 hd'.2 (by omega) (by omega)
  rw [← Nat.div_add_mod p f.length,← Nat.div_add_mod p' f.length,this.1,this.2])
 obtain ⟨p,hp,he⟩:=hs _ (pair_lt ha hb)
 have hd:=dm_lt hp
 have q1:=r1 (p / f.length) (p % f.length)
 have q2:=r2 (p / f.length) (p % f.length)
 have u:=dm_pair (n:=f.length) (x:=(v2 f (p / f.length) (p % f.length)).toNat) (y:=(v2 s (p / f.length) (p % f.length)).toNat) (by omega)
 have u':=dm_pair (n:=f.length) (x:=a) hb
 rw [he] at u
 have e1:=u.1.symm.trans u'.1
 have e2:=u.2.symm.trans u'.2
 exact ⟨_,_,hd.1,hd.2,by omega,by omega⟩
end Go.Mch
namespace Go.Mch

def pre (f s:List (List Int)) (u v:Nat) (x y:Nat):Prop:=x<f.length∧y<f.length∧σN f x y=u∧τN s y x=v
noncomputable def preX (f s:List (List Int)) (u v:Nat):Nat:=by
 classical exact if h:∃ x,∃ y,pre f s u v x y then Classical.choose h else 0
noncomputable def preY (f s:List (List Int)) (u v:Nat):Nat:=by
 classical exact if h:∃ y,∃ x,pre f s u v x y then Classical.choose h else 0
theorem pre_uniq {f s:List (List Int)} (h:PM f s) (hi:Inj f s) {u v x y x' y':Nat} (h1:pre f s u v x y) (h2:pre f s u v x' y'):x=x'∧y=y':=by
 obtain ⟨a1,a2,a3,a4⟩:=h1
 obtain ⟨b1,b2,b3,b4⟩:=h2
 have e1:=h.v2f x y
 have e2:=h.v2f x' y'
 have e3:=h.v2s x y
 have e4:=h.v2s x' y'
 exact inj_pair hi a1 a2 b1 b2 (by omega) (by omega)
theorem pre_eq {f s:List (List Int)} (h:PM f s) (hi:Inj f s) {u v x y:Nat} (h1:pre f s u v x y):preX f s u v=x∧preY f s u v=y:=by
 have hx:∃ x,∃ y,pre f s u v x y:=⟨x,y,h1⟩
 have hy:∃ y,∃ x,pre f s u v x y:=⟨y,x,h1⟩
 constructor
 · unfold preX
   rw [dif_pos hx]
   obtain ⟨y',h2⟩:=Classical.choose_spec hx
   exact (pre_uniq h hi h2 h1).1
 · unfold preY
   rw [dif_pos hy]
   obtain ⟨y',h2⟩:=Classical.choose_spec hy
   exact (pre_uniq h hi h2 h1).2
theorem pre_ex {f s:List (List Int)} (h:PM f s) (hi:Inj f s) {u v:Nat} (hu:u<f.length) (hv:v<f.length):∃ x y,pre f s u v x y:=by
 obtain ⟨x,y,h1,h2,h3,h4⟩:=sur_pair h hi hu hv
 have e1:=h.v2f x y
 have e3:=h.v2s x y
 exact ⟨x,y,h1,h2,by omega,by omega⟩
theorem pre_self {f s:List (List Int)} (h:PM f s) (hi:Inj f s) {u v:Nat} (hu:u<f.length) (hv:v<f.length):pre f s u v (preX f s u v) (preY f s u v):=by
 obtain ⟨x,y,h1⟩:=pre_ex h hi hu hv
 have:=pre_eq h hi h1
 rw [this.1,this.2]
 exact h1
theorem pre_at {f s:List (List Int)} (h:PM f s) (hi:Inj f s) {x y:Nat} (hx:x<f.length) (hy:y<f.length):preX f s (σN f x y) (τN s y x)=x∧preY f s (σN f x y) (τN s y x)=y:=pre_eq h hi ⟨hx,hy,rfl,rfl⟩

noncomputable def invF (f s:List (List Int)):List (List Int):=tabL f.length fun u v=>(preX f s u v:Int)
noncomputable def invS (f s:List (List Int)):List (List Int):=tabL f.length fun u v=>(preY f s u v:Int)
@[simp] theorem invF_length (f s:List (List Int)):(invF f s).length=f.length:=by simp [invF]
@[simp] theorem invS_length (f s:List (List Int)):(invS f s).length=f.length:=by simp [invS]
theorem inv_pm {f s:List (List Int)} (h:PM f s) (hi:Inj f s):PM (invF f s) (invS f s) where
 tf:=tab_of fun x y hx hy=>by have:=(pre_self h hi hx hy).1;omega
 ts:=tab_of fun x y hx hy=>by have:=(pre_self h hi hx hy).2.1;omega
 len:=by simp
 pos:=by simpa using h.pos
 small:=by simpa using h.small


def hit (f s:List (List Int)) (a b i j:Nat):Prop:=∃ x y,x<f.length∧y<f.length∧(x<a∨(x=a∧y<b))∧σN f x y=i∧τN s y x=j
noncomputable def wT (f s:List (List Int)) (R:Nat→Nat→Nat) (Z:Nat→Nat→Int) (a b:Nat):List (List Int):=tabL f.length fun i j=>if dec (hit f s a b i j) then (R i j:Int) else Z i j
@[simp] theorem wT_length (f s:List (List Int)) (R:Nat→Nat→Nat) (Z:Nat→Nat→Int) (a b:Nat):(wT f s R Z a b).length=f.length:=by simp [wT]
theorem wT_row (f s:List (List Int)) (R:Nat→Nat→Nat) (Z:Nat→Nat→Int) (a b:Nat) {i:Nat} (h:i<(wT f s R Z a b).length):(wT f s R Z a b)[i].length=f.length:=tabL_row (by rw [← wT];exact List.getElem_mem h)
theorem wT_zero (f s:List (List Int)) (R:Nat→Nat→Nat) (Z:Nat→Nat→Int):wT f s R Z 0 0=tabL f.length Z:=by
 apply tabL_congr
 intro i j _ _
 have:¬hit f s 0 0 i j:=fun ⟨x,y,_,_,h,_⟩=>by omega
 rw [j02 this]
 rfl
theorem wT_next (f s:List (List Int)) (R:Nat→Nat→Nat) (Z:Nat→Nat→Int) (a:Nat):wT f s R Z a f.length=wT f s R Z (a+1) 0:=by
 apply tabL_congr
 intro i j _ _
 have:hit f s a f.length i j↔hit f s (a+1) 0 i j:=by
  constructor
  · rintro ⟨x,y,h1,h2,h3,h4⟩
    exact ⟨x,y,h1,h2,by omega,h4⟩
  · rintro ⟨x,y,h1,h2,h3,h4⟩
    exact ⟨x,y,h1,h2,by omega,h4⟩
 by_cases hc:hit f s a f.length i j
 · rw [j1d hc,j1d (this.1 hc)]
 · rw [j02 hc,j02 (fun h=>hc (this.2 h))]
theorem wT_all {f s:List (List Int)} (h:PM f s) (hi:Inj f s) (R:Nat→Nat→Nat) (Z:Nat→Nat→Int):wT f s R Z f.length 0=tabL f.length fun i j=>(R i j:Int):=by
 apply tabL_congr
 intro i j hi' hj'
 obtain ⟨x,y,h1,h2,h3,h4⟩:=pre_ex h hi hi' hj'
 have:hit f s f.length 0 i j:=⟨x,y,h1,h2,.inl h1,h3,h4⟩
 rw [j1d this]
 rfl
theorem wT_set (f s:List (List Int)) (R:Nat→Nat→Nat) (Z:Nat→Nat→Int) {a b:Nat} (ha:a<f.length) (hb:b<f.length) :
 (wT f s R Z a b).set (σN f a b) (((wT f s R Z a b).getD (σN f a b) []).set (τN s b a) (R (σN f a b) (τN s b a):Int))=wT f s R Z a (b+1):=by
 have hcov:∀ i j,hit f s a (b+1) i j↔hit f s a b i j∨(i=σN f a b∧j=τN s b a):=fun i j=>by
  constructor
  · rintro ⟨x,y,h1,h2,h3,rfl,rfl⟩
    by_cases hxy:x=a∧y=b
    · obtain ⟨rfl,rfl⟩:=hxy;exact .inr ⟨rfl,rfl⟩
    · exact .inl ⟨x,y,h1,h2,by omega,rfl,rfl⟩
  · rintro (⟨x,y,h1,h2,h3,h4⟩ | ⟨rfl,rfl⟩)
    · exact ⟨x,y,h1,h2,by omega,h4⟩
    · exact ⟨a,b,ha,hb,by omega,rfl,rfl⟩
 apply List.ext_getElem
 · simp
 · intro i h1 h2
   simp only [wT_length] at h2
   have hgi:∀ b',(wT f s R Z a b')[i]'(by simpa using h2)=(List.range f.length).map fun j=>if dec (hit f s a b' i j) then (R i j:Int) else Z i j:=fun b'=>by simp [wT,tabL]
   rw [List.getElem_set,hgi (b+1)]
   by_cases hi:σN f a b=i
   · rw [if_pos hi]
     subst hi
     have hgd:(wT f s R Z a b).getD (σN f a b) []=(wT f s R Z a b)[σN f a b]'(by simpa using h2):=by
      rw [List.getD_eq_getElem?_getD,List.getElem?_eq_getElem (by simpa using h2)];rfl
     rw [hgd,hgi b]
     apply List.ext_getElem
     · simp
     · intro j h3 h4
       simp only [List.length_map,List.length_range] at h4
       simp only [List.getElem_set,List.getElem_map,List.getElem_range]
       by_cases hj:τN s b a=j
       · subst hj
         rw [if_pos rfl,j1d ((hcov _ _).2 (.inr ⟨rfl,rfl⟩))]
         rfl
       · rw [if_neg hj]
         by_cases hc:hit f s a b (σN f a b) j
         · rw [j1d hc,j1d ((hcov _ _).2 (.inl hc))]
         · rw [j02 hc,j02 fun h=>((hcov _ _).1 h).elim hc fun h=>hj h.2.symm]
   · rw [if_neg hi,hgi b]
     apply List.map_congr_left
     intro j _
     by_cases hc:hit f s a b i j
     · rw [j1d hc,j1d ((hcov _ _).2 (.inl hc))]
     · rw [j02 hc,j02 fun h=>((hcov _ _).1 h).elim hc fun h=>hi h.1.symm]
theorem zeroT_tab (n:Nat):zeroT n n=tabL n fun _ _=>0:=by
 apply List.ext_getElem
 · simp [zeroT]
 · intro i h1 h2
   apply List.ext_getElem
   · simp [tabL,zeroT]
   · intro j h3 h4
     simp [tabL,zeroT]

def S_inv406 (pg:Pg):Prop:=∀ f s:List (List Int),PM f s→Inj f s→Call pg 406 [sol f s] [sol f s] (.agg [.mem .own (some 1) (rows (invF f s)),.mem .own (some 1) (rows (invS f s))])
set_option maxRecDepth 10000 in
theorem t_l02Inverse {pg:Pg} (hp:pg.fn 406=some j1k) (h398:S_empty pg):S_inv406 pg:=by
 intro f s hpm hinj
 have h0:=hpm.pos
 have h12:=hpm.small
 have hls:=hpm.len
 refine Call.intro hp rfl (by simp) ?_
 show wp _ _ j1k.body (post [.cell 2 (some 2)] _ _ _) _
 simp [j1k]
 refine j0e (h398 f.length h0 (by omega)) rfl rfl (fun _=>by simp) ?_
 simp
 refine j0a (fun a e=>e=fr [(1,some (.val (.mem .own none [tb f,tb s]))),(2,some (.val (.mem .own none [nil,nil]))),(3,some (.val (I f.length))),(4,some (.val (.mem .own none [.mem .own (some 1) (rows (wT f s (preX f s) (fun _ _=>0) a 0)),.mem .own (some 1) (rows (wT f s (preY f s) (fun _ _=>0) a 0))]))),(5,some (.val (I a)))]) f.length ?_ ?_ 0 _ (by omega) ?_
 · rintro a e ha rfl
   simp [ha]
   refine j0a (fun b e=>e=fr [(1,some (.val (.mem .own none [tb f,tb s]))),(2,some (.val (.mem .own none [nil,nil]))),(3,some (.val (I f.length))),(4,some (.val (.mem .own none [.mem .own (some 1) (rows (wT f s (preX f s) (fun _ _=>0) a b)),.mem .own (some 1) (rows (wT f s (preY f s) (fun _ _=>0) a b))]))),(5,some (.val (I a))),(6,some (.val (I b)))]) f.length ?_ ?_ 0 _ (by omega) ?_
   · rintro b e hb rfl
     have hf:=hpm.v2f a b
     have hs2:=hpm.v2s a b
     have hfr:=hpm.tf.row ha
     have hsr:=(hpm.ts.row (x:=a) (by omega)).trans hls
     have has:a<s.length:=by omega
     have hfg:(f[a])[b]'(by omega)=v2 f a b:=get_v2 _ _
     have hsg:(s[a])[b]'(by omega)=v2 s a b:=get_v2 _ _
     have pa:=pre_at hpm hinj ha hb
     have p1:=wT_set f s (preX f s) (fun _ _=>0) ha hb
     have p2:=wT_set f s (preY f s) (fun _ _=>0) ha hb
     rw [pa.1] at p1
     rw [pa.2] at p2
     have l1:=wT_length f s (preX f s) (fun _ _=>0) a b
     have l2:=wT_length f s (preY f s) (fun _ _=>0) a b
     have r1:=fun {i:Nat} h=>wT_row f s (preX f s) (fun _ _=>0) a b (i:=i) h
     have r2:=fun {i:Nat} h=>wT_row f s (preY f s) (fun _ _=>0) a b (i:=i) h
     rw [← p1,← p2]
     generalize wT f s (preX f s) (fun _ _=>0) a b=X at *
     generalize wT f s (preY f s) (fun _ _=>0) a b=Y at *
     obtain ⟨hf1,hf2⟩:=hf
     obtain ⟨hs1,hs2⟩:=hs2
     rw [← hf1] at hfg
     rw [← hs1] at hsg
     generalize σN f a b=u at *
     generalize τN s b a=v at *
     have xr:=r1 (i:=u) (by omega)
     have yr:=r2 (i:=u) (by omega)
     have lx:u<X.length:=by omega
     have ly:u<Y.length:=by omega
     simp [ha,hb,has,hfr,hsr,hfg,hsg,lx,ly,xr,yr,hs2]
     refine ⟨by omega,by omega,?_⟩
     rw [← rows_set2 lx,← rows_set2 ly]
   · rintro e rfl
     rw [wT_next,wT_next]
     simp
     omega
   · simp
 · rintro e rfl
   rw [wT_all hpm hinj,wT_all hpm hinj]
   simp [invF,invS]
 · simp [wT_zero,zeroT_tab]

def spT (f s:List (List Int)):T:=.agg [.mem .own (some 1) (rows f),.mem .own (some 1) (rows s)]
def S_inv411 (pg:Pg):Prop:=∀ f s:List (List Int),fits f→fits s→isSol f s→Call pg 411 [sol f s] [sol f s] (.tup [spT (invF f s) (invS f s),I 0])
set_option maxRecDepth 10000 in
theorem t_InverseSolution {pg:Pg} (hp:pg.fn 411=some c_impl_InverseSolution) (h42:S_isSol pg 42) (h275:S_copyT pg 275):S_inv411 pg:=by
 intro f s hff hfs h
 have hpm:=PM.of h.1
 have hinj:=h.2.1
 have h0:=hpm.pos
 have h12:=hpm.small
 have hls:=hpm.len
 have ef:f=tabL f.length (v2 f):=tab_eq rfl fun r hr=>by rw [(hpm.tf r hr).1]
 have es:s=tabL f.length (v2 s):=tab_eq hls fun r hr=>by rw [(hpm.ts r hr).1,hls]
 refine Call.intro hp rfl (by simp) ?_
 show wp _ _ c_impl_InverseSolution.body (post [.cell 2 (some 2),.t 3] _ _ _) _
 simp [c_impl_InverseSolution]
 refine j0e (h42 f s hff hfs) rfl rfl (fun _=>rfl) ?_
 simp [j1d h]
 refine j0e (h275 f hff) rfl rfl (fun _=>by simp) ?_
 simp
 refine j0e (h275 s hfs) rfl rfl (fun _=>by simp) ?_
 simp
 refine j0a (fun a e=>e=fr [(1,some (.val (.mem .own none [tb f,tb s]))),(2,some (.val (.mem .own none [nil,nil]))),(4,some (.val (.mem .own none [.mem .own (some 1) (rows (wT f s (preX f s) (v2 f) a 0)),.mem .own (some 1) (rows (wT f s (preY f s) (v2 s) a 0))]))),(22,some (.val (tb f))),(23,some (.val (I f.length))),(24,some (.val (I a)))]) f.length ?_ ?_ 0 _ (by omega) ?_
 · rintro a e ha rfl
   have hfr:=hpm.tf.row ha
   have hsr:=(hpm.ts.row (x:=a) (by omega)).trans hls
   have has:a<s.length:=by omega
   simp [ha,hfr]
   refine j0a (fun b e=>e=fr [(1,some (.val (.mem .own none [tb f,tb s]))),(2,some (.val (.mem .own none [nil,nil]))),(4,some (.val (.mem .own none [.mem .own (some 1) (rows (wT f s (preX f s) (v2 f) a b)),.mem .own (some 1) (rows (wT f s (preY f s) (v2 s) a b))]))),(5,some (.val (I a))),(22,some (.val (tb f))),(23,some (.val (I f.length))),(24,some (.val (I a))),(29,some (.val (ix f[a]))),(30,some (.val (I f.length))),(31,some (.val (I b)))]) f.length ?_ ?_ 0 _ (by omega) ?_
   · rintro b e hb rfl
     have hf:=hpm.v2f a b
     have hs2:=hpm.v2s a b
     have hfg:(f[a])[b]'(by omega)=v2 f a b:=get_v2 _ _
     have hsg:(s[a])[b]'(by omega)=v2 s a b:=get_v2 _ _
     have pa:=pre_at hpm hinj ha hb
     have p1:=wT_set f s (preX f s) (v2 f) ha hb
     have p2:=wT_set f s (preY f s) (v2 s) ha hb
     rw [pa.1] at p1
     rw [pa.2] at p2
     have l1:=wT_length f s (preX f s) (v2 f) a b
     have l2:=wT_length f s (preY f s) (v2 s) a b
     have r1:=fun {i:Nat} h=>wT_row f s (preX f s) (v2 f) a b (i:=i) h
     have r2:=fun {i:Nat} h=>wT_row f s (preY f s) (v2 s) a b (i:=i) h
     rw [← p1,← p2]
     generalize wT f s (preX f s) (v2 f) a b=X at *
     generalize wT f s (preY f s) (v2 s) a b=Y at *
     obtain ⟨hf1,hf2⟩:=hf
     obtain ⟨hs1,hs2⟩:=hs2
     rw [← hf1] at hfg
     rw [← hs1] at hsg
     generalize σN f a b=u at *
     generalize τN s b a=v at *
     have xr:=r1 (i:=u) (by omega)
     have yr:=r2 (i:=u) (by omega)
     have lx:u<X.length:=by omega
     have ly:u<Y.length:=by omega
     have hbf:b<f[a].length:=by omega
     simp [hb,has,hfr,hsr,hfg,hsg,lx,ly,xr,yr,hs2]
     refine ⟨by omega,by omega,?_⟩
     rw [← rows_set2 lx,← rows_set2 ly]
   · rintro e rfl
     rw [wT_next,wT_next]
     simp
     omega
   · simp
 · rintro e rfl
   rw [wT_all hpm hinj,wT_all hpm hinj]
   simp [invF,invS,spT]
 · rw [wT_zero,wT_zero,← ef,← es]
   simp
end Go.Mch
namespace Go.Mch

def isWd (n:Int) (w:List Int):Prop:=inR 0 (n-1) w∧w.length≤8
instance (n:Int) (w:List Int):Decidable (isWd n w):=by unfold isWd;infer_instance
theorem wd_in {n:Nat} {w:List Int} (h:isWd n w):inN n w:=fun x hx=>by
 have:=h.1 x hx
 omega
open Classical in
noncomputable def wdC (f s:List (List Int)) (us:List (List Int)):Int:=if isSol f s then (if ∀ u∈us,isWd f.length u then 0 else 2) else 1

def S_chk38 (pg:Pg):Prop:=∀ (f s:List (List Int)) (us:List (List Int)),fits f→fits s→us.length≤1000→(∀ u∈us,u.length≤1048576)→Call pg 38 [sol f s,tb us] [sol f s,tb us] (I (wdC f s us))
theorem t_checkWords {pg:Pg} (hp:pg.fn 38=some c_impl_checkWords) (h42:S_isSol pg 42) (h39:S_areElements pg):S_chk38 pg:=by
 intro f s us hf hs hl hus
 refine Call.intro hp rfl (by simp) ?_
 show wp _ _ c_impl_checkWords.body (post [.t 4] _ _ _) _
 simp [c_impl_checkWords]
 refine j0e (h42 f s hf hs) rfl rfl (fun _=>rfl) ?_
 by_cases h:isSol f s
 · simp [j1d h]
   have hpm:=PM.of h.1
   have h12:=hpm.small
   refine j0a (fun k e=>(∀ i (h:i<us.length),i<k→isWd f.length us[i])∧e=fr [(2,some (.val (.mem .own none [tb f,tb s]))),(10,some (.val (tb us))),(11,some (.val (I us.length))),(12,some (.val (I k)))]) us.length ?_ ?_ 0 _ (by omega) ?_
   · rintro k e hk ⟨h1,rfl⟩
     have hw:¬isWd f.length us[k]→wdC f s us=2:=fun hh=>by
      have:¬∀ u∈us,isWd f.length u:=fun ha=>hh (ha _ (List.getElem_mem hk))
      simp only [wdC,if_pos h,if_neg this]
     have hlk:=hus _ (List.getElem_mem hk)
     simp [hk]
     by_cases h8:us[k].length≤8
     · have h8':¬(8:Int)<us[k].length:=by omega
       simp [h8']
       refine j0e (h39 f.length us[k] hlk (by omega) (by omega)) rfl rfl (fun _=>rfl) ?_
       by_cases hm:inR 0 ((f.length:Int)-1) us[k]
       · simp [hm]
         refine ⟨by omega,fun i hi hik=>?_⟩
         rcases Nat.lt_or_ge i k with h2 | h2
         · exact h1 i hi h2
         · have:i=k:=by omega
           subst this;exact ⟨hm,h8⟩
       · simp [hm,hw fun hh=>hm hh.1]
     · have h8':(8:Int)<us[k].length:=by omega
       simp [h8',j00,hw fun hh=>h8 hh.2]
   · rintro e ⟨h1,rfl⟩
     have:∀ u∈us,isWd f.length u:=fun x hx=>by
      obtain ⟨i,hi,rfl⟩:=List.getElem_of_mem hx
      exact h1 i hi hi
     have e0:wdC f s us=0:=by simp only [wdC,if_pos h,if_pos this]
     simp [e0]
   · simp
 · simp [wdC,h]


noncomputable def cMv (f s:List (List Int)) (x:List Int) (p:Nat):List Int:=if p % 2=0 then dW f s x (p / 2) else dW (invF f s) (invS f s) x (p / 2)
theorem cMv_0 (f s:List (List Int)) (x:List Int) (k:Nat):cMv f s x (2*k)=dW f s x k:=by
 unfold cMv
 rw [if_pos (by omega),show 2*k / 2=k from by omega]
theorem cMv_1 (f s:List (List Int)) (x:List Int) (k:Nat):cMv f s x (2*k+1)=dW (invF f s) (invS f s) x k:=by
 unfold cMv
 rw [if_neg (by omega),show (2*k+1) / 2=k from by omega]
@[simp] theorem cMv_length (f s:List (List Int)) (x:List Int) (p:Nat):(cMv f s x p).length=x.length:=by unfold cMv;split <;> simp
theorem cMv_in {f s:List (List Int)} (h:PM f s) (hi:Inj f s) {x:List Int} (hx:inN f.length x) (p:Nat):inN f.length (cMv f s x p):=by
 unfold cMv
 split
 · exact dW_in h hx _
 · have:=dW_in (inv_pm h hi) (w:=x) (by simpa using hx) (p / 2)
   simpa using this
theorem CR_in {f s:List (List Int)} (h:PM f s) (hi:Inj f s) {w:List Int} (hw:inN f.length w) {m:Nat} {x:List Int} (hx:TR (cMv f s) m w x):inN f.length x∧x.length=w.length :=
 hx (fun y=>inN f.length y∧y.length=w.length) ⟨hw,rfl⟩ fun y hy i _=>⟨cMv_in h hi hy.1 i,by rw [cMv_length];exact hy.2⟩
noncomputable def cO (f s:List (List Int)) (w:List Int) (lim:Nat):Option (List (List Int)):=orbO (cMv f s) (2*(w.length-1)) w lim

def S_class (pg:Pg):Prop:=∀ (f s:List (List Int)) (w:List Int) (lim:Nat),isSol f s→inN f.length w→w.length≤12→0<lim→lim≤10000→Call pg 339 [sol f s,ix w,I lim] [sol f s,ix w,I lim] (grpT (cO f s w lim))
set_option maxRecDepth 10000 in
theorem t_l09Class {pg:Pg} (hp:pg.fn 339=some c_spec_l09Class) (h406:S_inv406 pg) (h31:S_own pg) (h68:S_do pg 68) (h349:S_put pg) (h280:S_copyT pg 280):S_class pg:=by
 intro f s w lim h hw hl hlim0 hlim
 have hpm:=PM.of h.1
 have hinj:=h.2.1
 have hipm:=inv_pm hpm hinj
 have hro:∀ n,n≤100000→n≤roomy:=fun n hn=>by unfold roomy;omega
 refine Call.intro hp rfl (by simp) ?_
 show wp _ _ c_spec_l09Class.body (post [.t 6,.t 7] _ _ _) _
 simp [c_spec_l09Class]
 refine j0e (h406 f s hpm hinj) rfl rfl (fun _=>by simp) ?_
 simp
 refine j0e (h31 w (by omega)) rfl rfl (fun _=>by simp) ?_
 simp
 refine j0e (h31 w (by omega)) rfl rfl (fun _=>by simp) ?_
 simp
 refine j0t (α:=Nat) (fun z=>lim+1-z) (fun z e=>ExTT fun Q S ts=>(TB (cMv f s) (2*(w.length-1)) w Q z 0∧Q.length≤lim∧z≤Q.length∧Srt S∧(∀ x,x∈S↔x∈Q)∧Rds ts S)∧e=fr [(1,some (.val (ix w))),(2,some (.val (I lim))),(3,some (.val (.mem .own none [tb f,tb s]))),(8,some (.val (.mem .own none [.mem .own (some 1) (rows (invF f s)),.mem .own (some 1) (rows (invS f s))]))),(9,some (.val (.mem .own (some 1) (rowsF Q)))),(10,some (.val (.mem .own (some 1) ts))),(11,some (.val (I z)))]) ?_ 0 _ (ExTT.mk [w] [w] (rowsF [w]) ⟨⟨TB.start _ _ w,by simp;omega,by simp,by simp [Srt],fun x=>Iff.rfl,Rds.fresh _⟩,by simp [rowsF]⟩)
 rintro i e ⟨Q,S,ts,⟨gb,gl,gi,gs,gm,gr⟩,rfl⟩
 by_cases hi:i<Q.length
 · simp [hi]
   refine j0t (α:=Nat) (fun z=>w.length-z) (fun z e=>ExTT fun Q S ts=>(TB (cMv f s) (2*(w.length-1)) w Q i (2*z)∧Q.length≤lim+2*z∧i<Q.length∧z≤w.length-1∧Srt S∧(∀ x,x∈S↔x∈Q)∧Rds ts S)∧e=fr [(1,some (.val (ix w))),(2,some (.val (I lim))),(3,some (.val (.mem .own none [tb f,tb s]))),(8,some (.val (.mem .own none [.mem .own (some 1) (rows (invF f s)),.mem .own (some 1) (rows (invS f s))]))),(9,some (.val (.mem .own (some 1) (rowsF Q)))),(10,some (.val (.mem .own (some 1) ts))),(11,some (.val (I i))),(12,some (.val (I z)))]) ?_ 0 _ (ExTT.mk Q S ts ⟨⟨gb,by omega,hi,by omega,gs,gm,gr⟩,by simp⟩)
   clear gb gl gi hi gs gm gr Q S ts
   rintro k e ⟨Q,S,ts,⟨gb,gl,gi,gk,gs,gm,gr⟩,rfl⟩
   have gf:=gb.f
   by_cases hk:k<w.length-1
   · have hk':(k:Int)+1<w.length:=by omega
     have hQi:=CR_in hpm hinj hw (gf.gr _ (List.getElem_mem gi))
     have hm1:=h68 f s Q[i] k hpm (by omega) (by omega) hQi.1
     have hm2:=h68 (invF f s) (invS f s) Q[i] k hipm (by omega) (by omega) (by simpa using hQi.1)
     rw [← cMv_0] at hm1
     rw [← cMv_1] at hm2
     simp [hk',gi]
     repeat (refine And.intro (by omega) ?_)
     refine j0e hm1 rfl rfl (fun _=>by simp) ?_
     simp [gi]
     repeat (refine And.intro (by omega) ?_)
     refine j0e hm2 rfl rfl (fun _=>by simp) ?_
     simp
     obtain ⟨L,hL1,hL2,hL3⟩:∃ L:List (List Int),L.length=2∧(∀ j (h:j<L.length),L[j]=cMv f s Q[i] (2*k+j))∧[T.mem .fresh (some 1) (List.map I (cMv f s Q[i] (2*k))),T.mem .fresh (some 1) (List.map I (cMv f s Q[i] (2*k+1)))]=rowsF L:=⟨[cMv f s Q[i] (2*k),cMv f s Q[i] (2*k+1)],rfl,fun j hj=>by
      match j,hj with
      | 0,_=>rfl
      | 1,_=>rfl,rfl⟩
     rw [hL3]
     have hxi:Q[i]?=some Q[i]:=List.getElem?_eq_getElem gi
     generalize Q[i]=x at *
     refine j0a (fun j e=>ExTT fun Q' S' ts'=>(TB (cMv f s) (2*(w.length-1)) w Q' i (2*k+j)∧Q'.length≤lim+2*k+j∧Q'[i]?=some x∧Srt S'∧(∀ x,x∈S'↔x∈Q')∧Rds ts' S')∧e=fr [(1,some (.val (ix w))),(2,some (.val (I lim))),(3,some (.val (.mem .own none [tb f,tb s]))),(8,some (.val (.mem .own none [.mem .own (some 1) (rows (invF f s)),.mem .own (some 1) (rows (invS f s))]))),(9,some (.val (.mem .own (some 1) (rowsF Q')))),(10,some (.val (.mem .own (some 1) ts'))),(11,some (.val (I i))),(12,some (.val (I k))),(13,some (.val (.mem .fresh (some 1) (rowsF L)))),(14,some (.val (I j)))]) 2 ?_ ?_ 0 _ (by omega) (ExTT.mk Q S ts ⟨⟨gb,by omega,hxi,gs,gm,gr⟩,by simp⟩)
     · clear gb gl hxi gs gm gr gf gi hm1 hm2 hL3
       rintro j e hj ⟨Q,S,ts,⟨gb,gl,gx,gs,gm,gr⟩,rfl⟩
       have gf:=gb.f
       obtain ⟨gi,gx⟩:=List.getElem?_eq_some_iff.1 gx
       have hSl:=len_of_same gs.nodup gf.nd gm
       have hjL:j<L.length:=by omega
       have hW:=hL2 j hjL
       rw [← gx] at hW
       have hQr:∀ x∈Q,x.length=w.length:=fun x hx=>(CR_in hpm hinj hw (gf.gr x hx)).2
       have hWl:L[j].length≤1048576:=by rw [hW,cMv_length,hQr _ (List.getElem_mem gi)];omega
       obtain ⟨S',b,args',p1,p2,p3,p4,p5,p6⟩:=h349 S L[j] gs (by omega) (fun x hx=>by have:=hQr x ((gm x).1 hx);omega) hWl
       have hold:=fun hin=>gb.old gi hin
       have hnew:=fun hin=>gb.new gi (k:=2*k+j) (by omega) hin
       rw [← hW] at hold hnew
       obtain ⟨r1,r2,r3,r4⟩:=gr
       have hjI:(j:Int)<2:=by omega
       simp [hj,hjI,hL1]
       repeat (refine And.intro (by omega) ?_)
       generalize hWe:L[j]=W at *
       obtain ⟨a1,a2,rfl⟩:∃ a1 a2,args'=[a1,a2]:=by
        cases args' with
        | nil=>simp at p5
        | cons a1 l=>cases l with
         | nil=>simp at p5
         | cons a2 l=>cases l with
          | nil=>exact ⟨a1,a2,rfl⟩
          | cons=>simp at p5
       refine callM (ts':=[a1,a2]) (r:=.tup [.mem .own (some 1) (tbL S'),B b]) ?_ ?_ ?_ ?_
       · simp
       · simpa [r3] using p6
       · simp
       · have hWS:W∈S↔W∈Q:=gm W
         by_cases hin:W∈Q
         · have hb:b=false:=by
            cases b with
            | false=>rfl
            | true=>exact absurd (hWS.2 hin) (p3.1 rfl)
           subst hb
           simp
           refine ⟨by omega,ExTT.mk Q S' (tbL S') ⟨⟨hold hin,by omega,List.getElem?_eq_some_iff.2 ⟨gi,gx⟩,p1,fun x=>?_,Rds.old _⟩,by simp⟩⟩
           rw [p2,gm]
           exact ⟨fun h=>h.elim id fun h=>h▸hin,.inl⟩
         · have hb:b=true:=p3.2 fun h=>hin (hWS.1 h)
           subst hb
           simp [hL1,hj,hjI,hWe]
           refine ⟨hro _ (by omega),by omega,ExTT.mk (Q++[W]) S' (tbL S') ⟨⟨hnew hin,by simp;omega,by rw [List.getElem?_append_left gi];exact List.getElem?_eq_some_iff.2 ⟨gi,gx⟩,p1,fun x=>?_,Rds.old _⟩,by rw [rowsF_snoc]⟩⟩
           rw [p2,gm,List.mem_append,List.mem_singleton]
     · rintro e ⟨Q,S,ts,⟨gb,gl,gx,gs,gm,gr⟩,rfl⟩
       obtain ⟨gi,gx⟩:=List.getElem?_eq_some_iff.1 gx
       simp [hL1]
       repeat (refine And.intro (by omega) ?_)
       exact ⟨k+1,by omega,ExTT.mk Q S ts ⟨⟨gb,by omega,gi,by omega,gs,gm,gr⟩,by simp⟩⟩
   · have hk':¬(k:Int)+1<w.length:=by omega
     have hkm:k=w.length-1:=by omega
     subst hkm
     by_cases hbig:lim<Q.length
     · have hno:cO f s w lim=none:=orbO_none gf hbig
       simp [hk',hbig,hno,grpT]
       omega
     · have hb2:¬(lim:Int)<Q.length:=by omega
       simp [hk',hb2]
       repeat (refine And.intro (by omega) ?_)
       exact ⟨i+1,by omega,ExTT.mk Q S ts ⟨⟨gb.up gi,by omega,by omega,gs,gm,gr⟩,by simp⟩⟩
 · have hX:Orb (cMv f s) (2*(w.length-1)) w S:=⟨gs,fun x=>(gm x).trans ⟨gb.f.gr x,gb.all hi x⟩⟩
   have hSl:=len_of_same gs.nodup gb.f.nd gm
   have hs:cO f s w lim=some S:=orbO_some hX (by omega)
   obtain ⟨r1,r2,r3,r4⟩:=gr
   have hcp:=h280 S ⟨by omega,fun r hr=>by have:=(CR_in hpm hinj hw (gb.f.gr r ((gm r).1 hr))).2;omega⟩
   have hwn:win ts 0 ts.length=ts:=by simp [win]
   simp [hi,hwn,r1]
   refine j0e hcp rfl rfl (fun _=>by simp) ?_
   simp [hs,grpT]


theorem frzRowsF (X:List (List Int)):T.frzL .fresh (rows X)=rowsF X:=by
 induction X with
 | nil=>rfl
 | cons x X ih=>simp only [rows,rowsF,List.map_cons] at ih ⊢;simp [ih]
theorem frz_sp (X Y:List (List Int)):T.frz .fresh (.tup [.agg [.mem .own (some 1) (rows X),.mem .own (some 1) (rows Y)],I 0])=.tup [.agg [.mem .fresh (some 1) (rowsF X),.mem .fresh (some 1) (rowsF Y)],I 0]:=by
 show T.tup [T.agg [T.mem .fresh (some 1) (T.frzL .fresh (rows X)),T.mem .fresh (some 1) (T.frzL .fresh (rows Y))],I 0]=_
 rw [frzRowsF,frzRowsF]
def S_wordClass (pg:Pg):Prop:=∀ (f s:List (List Int)) (w:List Int) (lim:Nat),fits f→fits s→isSol f s→inN f.length w→w.length≤12→0<lim→lim≤10000→Call pg 352 [sol f s,ix w,I lim] [sol f s,ix w,I lim] (grpT (cO f s w lim))
set_option maxRecDepth 10000 in
theorem t_wordClass {pg:Pg} (hp:pg.fn 352=some c_impl_wordClass) (h411:S_inv411 pg) (h36:S_clone pg) (h312:S_text pg) (h44:S_do pg 44) (h313:S_sort pg):S_wordClass pg:=by
 intro f s w lim hff hfs h hw hl hlim0 hlim
 have hpm:=PM.of h.1
 have hinj:=h.2.1
 have hipm:=inv_pm hpm hinj
 have h12:=hpm.small
 have hx12:∀ m x,TR (cMv f s) m w x→inN 12 x:=fun m x hx v hv=>by have:=(CR_in hpm hinj hw hx).1 v hv;omega
 refine Call.intro hp rfl (by simp) ?_
 show wp _ _ c_impl_wordClass.body (post [.t 6,.t 7] _ _ _) _
 simp [c_impl_wordClass]
 refine j0e (h411 f s hff hfs h) rfl rfl (fun _=>by simp [spT]) ?_
 simp [spT,frz_sp]
 refine j0e (h36 w (by omega)) rfl rfl (fun _=>by simp) ?_
 simp
 refine j0e (h312 w (hx12 0 w (TR.start _ _ w)) (by omega)) rfl rfl (fun _=>rfl) ?_
 simp
 refine j0t (α:=Nat) (fun z=>lim+1-z) (fun z e=>ExT fun Q=>(TB (cMv f s) (2*(w.length-1)) w Q z 0∧Q.length≤lim∧z≤Q.length)∧e=fr [(1,some (.val (ix w))),(2,some (.val (I lim))),(3,some (.val (.mem .own none [tb f,tb s]))),(8,some (.val (.mem .own none [.mem .fresh (some 1) (rowsF (invF f s)),.mem .fresh (some 1) (rowsF (invS f s))]))),(10,some (.val (.mem .own (some 1) (rows Q)))),(11,some (.val (.set (Q.map txt)))),(12,some (.val (I z)))]) ?_ 0 _ (ExT.mk [w] ⟨⟨TB.start _ _ w,by simp;omega,by simp⟩,by simp [rows]⟩)
 rintro i e ⟨Q,⟨gb,gl,gi⟩,rfl⟩
 by_cases hi:i<Q.length
 · simp [hi]
   repeat (refine And.intro (by omega) ?_)
   refine j0t (α:=Nat) (fun z=>w.length-z) (fun z e=>ExT fun Q=>(TB (cMv f s) (2*(w.length-1)) w Q i (2*z)∧Q.length≤lim∧i<Q.length∧z≤w.length-1)∧e=fr [(1,some (.val (ix w))),(2,some (.val (I lim))),(3,some (.val (.mem .own none [tb f,tb s]))),(8,some (.val (.mem .own none [.mem .fresh (some 1) (rowsF (invF f s)),.mem .fresh (some 1) (rowsF (invS f s))]))),(10,some (.val (.mem .own (some 1) (rows Q)))),(11,some (.val (.set (Q.map txt)))),(12,some (.val (I i))),(38,some (.val (I ((w.length:Int)-1)))),(39,some (.val (I z)))]) ?_ 0 _ (ExT.mk Q ⟨⟨gb,gl,hi,by omega⟩,by simp⟩)
   clear gb gl gi hi Q
   rintro k e ⟨Q,⟨gb,gl,gi,gk⟩,rfl⟩
   have gf:=gb.f
   by_cases hk:k<w.length-1
   · have hk':(k:Int)<(w.length:Int)-1:=by omega
     simp [hk']
     refine j0a (fun j e=>ExT fun Q=>(TB (cMv f s) (2*(w.length-1)) w Q i (2*k+j)∧Q.length≤lim∧i<Q.length)∧e=fr [(1,some (.val (ix w))),(2,some (.val (I lim))),(3,some (.val (.mem .own none [tb f,tb s]))),(8,some (.val (.mem .own none [.mem .fresh (some 1) (rowsF (invF f s)),.mem .fresh (some 1) (rowsF (invS f s))]))),(10,some (.val (.mem .own (some 1) (rows Q)))),(11,some (.val (.set (Q.map txt)))),(12,some (.val (I i))),(13,some (.val (I k))),(38,some (.val (I ((w.length:Int)-1)))),(39,some (.val (I k))),(44,some (.vagg [.val (tb f),.val (tb s),.val (.mem .fresh (some 1) (rowsF (invF f s))),.val (.mem .fresh (some 1) (rowsF (invS f s)))])),(45,some (.val (I j)))]) 2 ?_ ?_ 0 _ (by omega) (ExT.mk Q ⟨⟨gb,gl,gi⟩,by simp⟩)
     · clear gb gl gf gi Q
       rintro j e hj ⟨Q,⟨gb,gl,gi⟩,rfl⟩
       have gf:=gb.f
       have hQi:=CR_in hpm hinj hw (gf.gr _ (List.getElem_mem gi))
       have hil:(i:Int)<Q.length:=by omega
       obtain rfl | rfl:j=0∨j=1:=by omega
       · rw [Nat.add_zero] at gb
         have hmv:=h44 f s Q[i] k hpm (by omega) (by omega) hQi.1
         rw [← cMv_0] at hmv
         have hWr:=(gf.gr _ (List.getElem_mem gi)).step (cMv f s) (2*(w.length-1)) w (i:=2*k) (by omega)
         have hWl:(cMv f s Q[i] (2*k)).length=w.length:=by rw [cMv_length];exact hQi.2
         have htx:=h312 (cMv f s Q[i] (2*k)) (hx12 _ _ hWr) (by omega)
         have hkey:txt (cMv f s Q[i] (2*k))∈Q.map txt↔cMv f s Q[i] (2*k)∈Q:=by
          rw [List.mem_map]
          constructor
          · rintro ⟨y,hy,he⟩
            exact txt_inj (hx12 _ y (gf.gr y hy)) (hx12 _ _ hWr) he▸hy
          · exact fun hh=>⟨_,hh,rfl⟩
         have hold:=fun hin=>gb.old gi (k:=2*k) hin
         have hnew:=fun hin=>gb.new gi (k:=2*k) (by omega) hin
         have hnewF:=fun hin=>gf.new gi (k:=2*k) (by omega) hin
         simp [gi,hil]
         repeat (refine And.intro (by omega) ?_)
         refine j0e hmv rfl rfl (fun _=>by simp) ?_
         generalize cMv f s Q[i] (2*k)=W at *
         simp
         refine j0e htx rfl rfl (fun _=>rfl) ?_
         by_cases hin:W∈Q
         · have hk2:=hkey.2 hin
           generalize hK:Q.map txt=KS at *
           simp [hk2]
           repeat (refine And.intro (by omega) ?_)
           exact ExT.mk Q ⟨⟨hold hin,gl,gi⟩,by simp [hK]⟩
         · have hk2:¬txt W∈Q.map txt:=fun hh=>hin (hkey.1 hh)
           have hK2:(Q++[W]).map txt=Q.map txt++[txt W]:=by simp
           have n1:=hnewF hin
           generalize hK:Q.map txt=KS at *
           by_cases h5:Q.length=lim
           · have hno:cO f s w lim=none:=orbO_none n1 (by simp;omega)
             simp [hk2,h5,hno,grpT]
           · have h5':¬(Q.length:Int)=lim:=by omega
             have hro:Q.length+1≤roomy:=by unfold roomy;omega
             simp [hk2,h5',hro]
             repeat (refine And.intro (by omega) ?_)
             exact ExT.mk (Q++[W]) ⟨⟨hnew hin,by simp;omega,by simp;omega⟩,by simp [hK2,rows]⟩
       ·
        have hmv:=h44 (invF f s) (invS f s) Q[i] k hipm (by omega) (by omega) (by simpa using hQi.1)
        rw [← cMv_1] at hmv
        have hWr:=(gf.gr _ (List.getElem_mem gi)).step (cMv f s) (2*(w.length-1)) w (i:=2*k+1) (by omega)
        have hWl:(cMv f s Q[i] (2*k+1)).length=w.length:=by rw [cMv_length];exact hQi.2
        have htx:=h312 (cMv f s Q[i] (2*k+1)) (hx12 _ _ hWr) (by omega)
        have hkey:txt (cMv f s Q[i] (2*k+1))∈Q.map txt↔cMv f s Q[i] (2*k+1)∈Q:=by
         rw [List.mem_map]
         constructor
         · rintro ⟨y,hy,he⟩
           exact txt_inj (hx12 _ y (gf.gr y hy)) (hx12 _ _ hWr) he▸hy
         · exact fun hh=>⟨_,hh,rfl⟩
        have hold:=fun hin=>gb.old gi (k:=2*k+1) hin
        have hnew:=fun hin=>gb.new gi (k:=2*k+1) (by omega) hin
        have hnewF:=fun hin=>gf.new gi (k:=2*k+1) (by omega) hin
        simp [gi,hil]
        repeat (refine And.intro (by omega) ?_)
        refine j0e hmv rfl rfl (fun _=>by simp) ?_
        generalize cMv f s Q[i] (2*k+1)=W at *
        simp
        refine j0e htx rfl rfl (fun _=>rfl) ?_
        by_cases hin:W∈Q
        · have hk2:=hkey.2 hin
          generalize hK:Q.map txt=KS at *
          simp [hk2]
          repeat (refine And.intro (by omega) ?_)
          exact ExT.mk Q ⟨⟨hold hin,gl,gi⟩,by simp [hK]⟩
        · have hk2:¬txt W∈Q.map txt:=fun hh=>hin (hkey.1 hh)
          have hK2:(Q++[W]).map txt=Q.map txt++[txt W]:=by simp
          have n1:=hnewF hin
          generalize hK:Q.map txt=KS at *
          by_cases h5:Q.length=lim
          · have hno:cO f s w lim=none:=orbO_none n1 (by simp;omega)
            simp [hk2,h5,hno,grpT]
          · have h5':¬(Q.length:Int)=lim:=by omega
            have hro:Q.length+1≤roomy:=by unfold roomy;omega
            simp [hk2,h5',hro]
            repeat (refine And.intro (by omega) ?_)
            exact ExT.mk (Q++[W]) ⟨⟨hnew hin,by simp;omega,by simp;omega⟩,by simp [hK2,rows]⟩
     · rintro e ⟨Q,⟨gb,gl,gi⟩,rfl⟩
       simp
       repeat (refine And.intro (by omega) ?_)
       exact ⟨k+1,by omega,ExT.mk Q ⟨⟨gb,gl,gi,by omega⟩,by simp⟩⟩
   · have hk':¬(k:Int)<(w.length:Int)-1:=by omega
     have hkm:k=w.length-1:=by omega
     subst hkm
     simp [hk']
     repeat (refine And.intro (by omega) ?_)
     exact ⟨i+1,by omega,ExT.mk Q ⟨⟨gb.up gi,gl,by omega⟩,by simp⟩⟩
 · have hQr:∀ x∈Q,x.length=w.length:=fun x hx=>(CR_in hpm hinj hw (gb.f.gr x hx)).2
   obtain ⟨Y,⟨y1,y2⟩,hy⟩:=h313 Q ⟨by omega,fun k=>by
    by_cases hk:k<Q.length
    · have:=hQr _ (List.getElem_mem hk)
      rw [← gt_at hk]
      omega
    · simp [gt,hk]⟩ (dj_of gb.f.nd)
   have hYl:=len_of_same y1.nodup gb.f.nd y2
   have hres:cO f s w lim=some Y:=orbO_some ⟨y1,fun x=>(y2 x).trans ⟨gb.f.gr x,gb.all hi x⟩⟩ (by omega)
   simp [hi]
   refine callM (ts':=[ownR Y,.fn 314 []]) (r:=.tup []) ?_ ?_ ?_ ?_
   · simp
   · simpa using hy
   · simp
   · simp [hres,grpT]
end Go.Mch
namespace Go.Mch



open Classical in
noncomputable def cwO (f s:List (List Int)) (w:List Int):Option (List (List Int)):=if isSol f s∧isWd f.length w then cO f s w 1000 else none
open Classical in
noncomputable def cwC (f s:List (List Int)) (w:List Int):Int:=if isSol f s then (if isWd f.length w then cd3 (cO f s w 1000) else 2) else 1
noncomputable def cwR (f s:List (List Int)) (w:List Int):List (List Int):=lso (cwO f s w)
def S_cw (pg:Pg) (n:Nat):Prop:=∀ (f s:List (List Int)) (w:List Int),fits f→fits s→w.length≤1048576→∃ o,lso o=cwR f s w∧Call pg n [sol f s,ix w] [sol f s,ix w] (.tup [ownT o,I (cwC f s w)])
theorem wdC_1 {f s:List (List Int)} (h:¬isSol f s) (us:List (List Int)):wdC f s us=1:=by simp only [wdC,if_neg h]
theorem wdC_2 {f s:List (List Int)} (h:isSol f s) {us:List (List Int)} (h2:¬∀ u∈us,isWd f.length u):wdC f s us=2:=by simp only [wdC,if_pos h,if_neg h2]
theorem wdC_0 {f s:List (List Int)} (h:isSol f s) {us:List (List Int)} (h2:∀ u∈us,isWd f.length u):wdC f s us=0:=by simp only [wdC,if_pos h,if_pos h2]
theorem cO_len {f s:List (List Int)} (h:isSol f s) {w:List Int} (hw:inN f.length w) {lim:Nat} {Z:List (List Int)} (hz:cO f s w lim=some Z):Z.length≤lim∧(∀ x∈Z,inN f.length x∧x.length=w.length)∧w∈Z:=by
 have:=orbO_spec hz
 exact ⟨this.2,fun x hx=>CR_in (PM.of h.1) h.2.1 hw ((this.1.2 x).1 hx),(this.1.2 w).2 (TR.start _ _ w)⟩
def S_lim (pg:Pg):Prop:=∀ (f s:List (List Int)) (w:List Int),fits f→fits s→isSol f s→inN f.length w→w.length≤12→Call pg 297 [sol f s,ix w] [sol f s,ix w] (.tup [ownT (cO f s w 1000),I (cd3 (cO f s w 1000))])
theorem t_limitedClass {pg:Pg} (hp:pg.fn 297=some c_impl_limitedClass) (h352:S_wordClass pg):S_lim pg:=by
 intro f s w hf hs h hw hl
 refine Call.intro hp rfl (by simp) ?_
 show wp _ _ c_impl_limitedClass.body (post [.t 4,.t 5] _ _ _) _
 simp [c_impl_limitedClass]
 have hc:=h352 f s w 1000 hf hs h hw hl (by omega) (by omega)
 cases hg:cO f s w 1000 with
 | none =>
  rw [hg] at hc
  refine j0e hc rfl rfl (fun _=>by simp [grpT]) ?_
  simp [grpT,ownT,cd3]
 | some X =>
  rw [hg] at hc
  refine j0e hc rfl rfl (fun _=>by simp [grpT]) ?_
  simp [grpT,ownT,cd3]
theorem t_cw_impl {pg:Pg} (hp:pg.fn 158=some c_impl_ClassOfWord) (h38:S_chk38 pg) (h297:S_lim pg):S_cw pg 158:=by
 intro f s w hf hs hl
 refine ⟨cwO f s w,rfl,Call.intro hp rfl (by simp) ?_⟩
 show wp _ _ c_impl_ClassOfWord.body (post [.t 4,.t 5] _ _ _) _
 simp [c_impl_ClassOfWord]
 refine j0e (h38 f s [w] hf hs (by simp) (by simpa using hl)) rfl rfl (fun _=>rfl) ?_
 by_cases h:isSol f s
 · by_cases h1:isWd f.length w
   · have e0:=wdC_0 h (us:=[w]) (by simp [h1])
     have hc:=h297 f s w hf hs h (wd_in h1) (by have:=h1.2;omega)
     have e1:cwO f s w=cO f s w 1000:=by simp only [cwO,if_pos (And.intro h h1)]
     have e2:cwC f s w=cd3 (cO f s w 1000):=by simp only [cwC,if_pos h,if_pos h1]
     simp [e0,e1,e2]
     cases hg:cO f s w 1000 with
     | none =>
      rw [hg] at hc
      refine j0e hc rfl rfl (fun _=>by simp [ownT]) ?_
      simp [ownT,cd3]
     | some X =>
      rw [hg] at hc
      refine j0e hc rfl rfl (fun _=>by simp [ownT]) ?_
      simp [ownT,cd3]
   · have e0:=wdC_2 h (us:=[w]) (by simp [h1])
     have e1:cwO f s w=none:=by simp only [cwO,if_neg fun hh:_∧_=>h1 hh.2]
     have e2:cwC f s w=2:=by simp only [cwC,if_pos h,if_neg h1]
     simp [e0,e1,e2,ownT]
 · have e0:=wdC_1 h [w]
   have e1:cwO f s w=none:=by simp only [cwO,if_neg fun hh:_∧_=>h hh.1]
   have e2:cwC f s w=1:=by simp only [cwC,if_neg h]
   simp [e0,e1,e2,ownT]
end Go.Mch
namespace Go.Mch


def hd0 (X:List (List Int)):List Int:=X.getD 0 []
end Go.Mch
namespace Go.Mch

section
variable {mv mv':List Int→Nat→List Int} {m m':Nat} {w x y:List Int}
theorem TR.trans (h1:TR mv m w x) (h2:TR mv m x y):TR mv m w y:=h2 _ h1 fun _ hz _ hi=>TR.step mv m w hz hi
theorem TR.map (φ:List Int→List Int) {P:List Int→Prop} (hw:P w) (hc:∀ y,P y→∀ i,i<m→P (mv y i)) (hm:∀ y,P y→∀ i,i<m→∃ j,j<m'∧mv' (φ y) j=φ (mv y i)) (h:TR mv m w x):TR mv' m' (φ w) (φ x) :=
 (h (fun y=>P y∧TR mv' m' (φ w) (φ y)) ⟨hw,TR.start mv' m' (φ w)⟩ fun y hy i hi=>⟨hc y hy.1 i hi,by
  obtain ⟨j,hj,he⟩:=hm y hy.1 i hi
  rw [← he]
  exact TR.step mv' m' (φ w) hy.2 hj⟩).2
end

theorem inN_getD {n:Nat} {w:List Int} (h:inN n w) {i:Nat} (hi:i<w.length):0≤w.getD i 0∧w.getD i 0<n:=by
 rw [List.getD_eq_getElem?_getD,List.getElem?_eq_getElem hi]
 exact h _ (List.getElem_mem hi)
theorem dW_back {f s g t:List (List Int)} {w:List Int} {i:Nat} (hi:i+1<w.length)
 (h:∀ a b,a=w.getD i 0→b=w.getD (i+1) 0→g2 g (g2 f a b) (g2 s a b)=a∧g2 t (g2 f a b) (g2 s a b)=b):dW g t (dW f s w i) i=w:=by
 obtain ⟨h1,h2⟩:=h _ _ rfl rfl
 have e1:(dW f s w i).getD i 0=g2 f (w.getD i 0) (w.getD (i+1) 0):=by
  unfold dW
  rw [List.getD_eq_getElem?_getD,List.getElem?_set_ne (by omega),List.getElem?_set_self (by omega)]
  rfl
 have e2:(dW f s w i).getD (i+1) 0=g2 s (w.getD i 0) (w.getD (i+1) 0):=by
  unfold dW
  rw [List.getD_eq_getElem?_getD,List.getElem?_set_self (by simpa using hi)]
  rfl
 have e3:dW g t (dW f s w i) i=((dW f s w i).set i (w.getD i 0)).set (i+1) (w.getD (i+1) 0):=by
  rw [dW,e1,e2,h1,h2]
 rw [e3]
 apply List.ext_getElem
 · simp
 · intro j j1 j2
   have hw1:w.getD i 0=w[i]'(by omega):=by rw [List.getD_eq_getElem?_getD,List.getElem?_eq_getElem (by omega)];rfl
   have hw2:w.getD (i+1) 0=w[i+1]:=by rw [List.getD_eq_getElem?_getD,List.getElem?_eq_getElem hi];rfl
   by_cases hj1:i+1=j
   · subst hj1
     rw [List.getElem_set_self,hw2]
   · rw [List.getElem_set_ne (by omega)]
     by_cases hj0:i=j
     · subst hj0
       rw [List.getElem_set_self,hw1]
     · rw [List.getElem_set_ne (by omega)]
       unfold dW
       rw [List.getElem_set_ne (by omega),List.getElem_set_ne (by omega)]
theorem inv_g2 {f s:List (List Int)} (h:PM f s) (hi:Inj f s) {a b:Int} (ha:0≤a∧a<f.length) (hb:0≤b∧b<f.length) :
 (g2 (invF f s) (g2 f a b) (g2 s a b)=a∧g2 (invS f s) (g2 f a b) (g2 s a b)=b)∧g2 f (g2 (invF f s) a b) (g2 (invS f s) a b)=a∧g2 s (g2 (invF f s) a b) (g2 (invS f s) a b)=b:=by
 have hx:a.toNat<f.length:=by omega
 have hy:b.toNat<f.length:=by omega
 constructor
 · have h1:=h.v2f a.toNat b.toNat
   have h2:=h.v2s a.toNat b.toNat
   have h3:=pre_at h hi hx hy
   have e1:(g2 f a b).toNat=σN f a.toNat b.toNat:=rfl
   have e2:(g2 s a b).toNat=τN s b.toNat a.toNat:=rfl
   unfold g2 at e1 e2 ⊢
   rw [e1,e2,invF,invS,v2_tabL h1.2 h2.2,v2_tabL h1.2 h2.2,h3.1,h3.2]
   omega
 · have h1:=pre_self h hi hx hy
   have e1:g2 (invF f s) a b=(preX f s a.toNat b.toNat:Int):=by unfold g2 invF;rw [v2_tabL hx hy]
   have e2:g2 (invS f s) a b=(preY f s a.toNat b.toNat:Int):=by unfold g2 invS;rw [v2_tabL hx hy]
   rw [e1,e2]
   obtain ⟨p1,p2,p3,p4⟩:=h1
   have h2:=h.v2f (preX f s a.toNat b.toNat) (preY f s a.toNat b.toNat)
   have h3:=h.v2s (preX f s a.toNat b.toNat) (preY f s a.toNat b.toNat)
   unfold g2
   rw [Int.toNat_natCast,Int.toNat_natCast]
   omega
def Eqw (f s:List (List Int)) (u v:List Int):Prop:=TR (cMv f s) (2*(u.length-1)) u v
section
variable {f s:List (List Int)} (h:PM f s) (hi:Inj f s)
include h hi
end
end Go.Mch
namespace Go.Mch

theorem cmpL_app:∀ (u r r':List Int),cmpL (u++r) (u++r')=cmpL r r'
 | [],_,_=>rfl
 | a::u,r,r'=>by
  have:=cmpL_app u r r'
  show cmpW cmpI (a::(u++r)) (a::(u++r'))=_
  rw [cmpW,if_neg (by rw [(cmpI_zero a a).2 rfl];simp)]
  exact this
section
variable {f s:List (List Int)} (h:isSol f s)
include h
end
end Go.Mch
namespace Go.Mch

def iv (f s:List (List Int)) (x y:Nat):Prop:=v2 f (σN f x y) (τN s y x)=x∧v2 s (σN f x y) (τN s y x)=y
instance (f s:List (List Int)) (x y:Nat):Decidable (iv f s x y):=by unfold iv;infer_instance
def isInv (f s:List (List Int)):Prop:=∀ x,x<f.length→∀ y,y<f.length→iv f s x y
def S_twice (pg:Pg) (n:Nat):Prop:=∀ f s:List (List Int),PM f s→Call pg n [sol f s] [sol f s] (B (dec (isInv f s)))
set_option maxRecDepth 10000 in
theorem t_l02Twice {pg:Pg} (hp:pg.fn 351=some c_spec_l02Twice):S_twice pg 351:=by
 intro f s h
 have h0:=h.pos
 have h12:=h.small
 have hls:=h.len
 have fr':=fun x hx=>h.tf.row (x:=x) hx
 have sr':∀ x (hx:x<s.length),(s[x]).length=f.length:=fun x hx=>(h.ts.row hx).trans hls
 refine Call.intro hp rfl (by simp) ?_
 show wp _ _ c_spec_l02Twice.body (post [.t 2] _ _ _) _
 simp [c_spec_l02Twice]
 refine j0a (fun a e=>(∀ x,x<a→∀ y,y<f.length→iv f s x y)∧e=fr [(1,some (.val (.mem .own none [tb f,tb s]))),(3,some (.val (I a)))]) f.length ?_ ?_ 0 _ (by omega) ⟨fun x hx=>by omega,by simp⟩
 · rintro a e ha ⟨h1,rfl⟩
   simp [ha]
   refine j0a (fun b e=>(∀ y,y<b→iv f s a y)∧e=fr [(1,some (.val (.mem .own none [tb f,tb s]))),(3,some (.val (I a))),(4,some (.val (I b)))]) f.length ?_ ?_ 0 _ (by omega) ⟨fun x hx=>by omega,by simp⟩
   · rintro b e hb ⟨h2,rfl⟩
     have hf:=h.v2f a b
     have hs2:=h.v2s a b
     have has:a<s.length:=by omega
     have hfr:=fr' a ha
     have hsr:=sr' a has
     have hfg:(f[a])[b]'(by omega)=v2 f a b:=get_v2 _ _
     have hsg:(s[a])[b]'(by omega)=v2 s a b:=get_v2 _ _
     have hiv:iv f s a b↔v2 f (σN f a b) (τN s b a)=a∧v2 s (σN f a b) (τN s b a)=b:=Iff.rfl
     have hf3:=h.v2f (σN f a b) (τN s b a)
     have hs3:=h.v2s (σN f a b) (τN s b a)
     obtain ⟨hf1,hf2⟩:=hf
     obtain ⟨hs1,hs2⟩:=hs2
     rw [← hf1] at hfg
     rw [← hs1] at hsg
     generalize σN f a b=u at *
     generalize τN s b a=v at *
     have hus:u<s.length:=by omega
     have hfu:=fr' u hf2
     have hsu:=sr' u hus
     have hfg2:(f[u])[v]'(by omega)=v2 f u v:=get_v2 _ _
     have hsg2:(s[u])[v]'(by omega)=v2 s u v:=get_v2 _ _
     by_cases hx:v2 f u v=a
     · by_cases hy:v2 s u v=b
       · simp [ha,hb,has,hfr,hsr,hfg,hsg,hf2,hs2,hus,hfu,hsu,hfg2,hsg2,hx,hy]
         refine ⟨by omega,fun y hyb=>?_⟩
         rcases Nat.lt_or_ge y b with h3 | h3
         · exact h2 y h3
         · have:y=b:=by omega
           subst this
           exact hiv.2 ⟨hx,hy⟩
       · have hn:¬isInv f s:=fun hh=>hy (hiv.1 (hh a ha b hb)).2
         simp [ha,hb,has,hfr,hsr,hfg,hsg,hf2,hs2,hus,hfu,hsu,hfg2,hsg2,hx,hy,j02 hn]
     · have hn:¬isInv f s:=fun hh=>hx (hiv.1 (hh a ha b hb)).1
       simp [ha,hb,has,hfr,hsr,hfg,hsg,hf2,hs2,hfu,hfg2,hx,j02 hn,j00]
   · rintro e ⟨h2,rfl⟩
     simp
     refine ⟨by omega,fun x hx y hy=>?_⟩
     rcases Nat.lt_or_ge x a with h3 | h3
     · exact h1 x h3 y hy
     · have:x=a:=by omega
       subst this
       exact h2 y hy
 · rintro e ⟨h1,rfl⟩
   have hn:isInv f s:=fun x hx y hy=>h1 x hx y hy
   simp [j1d hn]
set_option maxRecDepth 10000 in
theorem t_isInvolutive {pg:Pg} (hp:pg.fn 298=some c_impl_isInvolutive):S_twice pg 298:=by
 intro f s h
 have h0:=h.pos
 have h12:=h.small
 have hls:=h.len
 have fr':=fun x hx=>h.tf.row (x:=x) hx
 have sr':∀ x (hx:x<s.length),(s[x]).length=f.length:=fun x hx=>(h.ts.row hx).trans hls
 refine Call.intro hp rfl (by simp) ?_
 show wp _ _ c_impl_isInvolutive.body (post [.t 2] _ _ _) _
 simp [c_impl_isInvolutive]
 refine j0a (fun a e=>(∀ x,x<a→∀ y,y<f.length→iv f s x y)∧e=fr [(1,some (.val (.mem .own none [tb f,tb s]))),(9,some (.val (tb f))),(10,some (.val (I f.length))),(11,some (.val (I a)))]) f.length ?_ ?_ 0 _ (by omega) ⟨fun x hx=>by omega,by simp⟩
 · rintro a e ha ⟨h1,rfl⟩
   have hfr:=fr' a ha
   simp [ha,hfr]
   refine j0a (fun b e=>(∀ y,y<b→iv f s a y)∧e=fr [(1,some (.val (.mem .own none [tb f,tb s]))),(3,some (.val (I a))),(9,some (.val (tb f))),(10,some (.val (I f.length))),(11,some (.val (I a))),(16,some (.val (ix f[a]))),(17,some (.val (I f.length))),(18,some (.val (I b)))]) f.length ?_ ?_ 0 _ (by omega) ⟨fun x hx=>by omega,by simp⟩
   · rintro b e hb ⟨h2,rfl⟩
     have hf:=h.v2f a b
     have hs2:=h.v2s a b
     have has:a<s.length:=by omega
     have hsr:=sr' a has
     have hfg:(f[a])[b]'(by omega)=v2 f a b:=get_v2 _ _
     have hsg:(s[a])[b]'(by omega)=v2 s a b:=get_v2 _ _
     have hiv:iv f s a b↔v2 f (σN f a b) (τN s b a)=a∧v2 s (σN f a b) (τN s b a)=b:=Iff.rfl
     have hf3:=h.v2f (σN f a b) (τN s b a)
     have hs3:=h.v2s (σN f a b) (τN s b a)
     obtain ⟨hf1,hf2⟩:=hf
     obtain ⟨hs1,hs2⟩:=hs2
     rw [← hf1] at hfg
     rw [← hs1] at hsg
     generalize σN f a b=u at *
     generalize τN s b a=v at *
     have hus:u<s.length:=by omega
     have hfu:=fr' u hf2
     have hsu:=sr' u hus
     have hfg2:(f[u])[v]'(by omega)=v2 f u v:=get_v2 _ _
     have hsg2:(s[u])[v]'(by omega)=v2 s u v:=get_v2 _ _
     have hbf:b<f[a].length:=by omega
     by_cases hx:v2 f u v=a
     · by_cases hy:v2 s u v=b
       · simp [hb,has,hfr,hsr,hfg,hsg,hf2,hs2,hus,hfu,hsu,hfg2,hsg2,hx,hy]
         refine ⟨by omega,fun y hyb=>?_⟩
         rcases Nat.lt_or_ge y b with h3 | h3
         · exact h2 y h3
         · have:y=b:=by omega
           subst this
           exact hiv.2 ⟨hx,hy⟩
       · have hn:¬isInv f s:=fun hh=>hy (hiv.1 (hh a ha b hb)).2
         simp [hb,has,hfr,hsr,hfg,hsg,hf2,hs2,hus,hfu,hsu,hfg2,hsg2,hx,hy,j02 hn]
     · have hn:¬isInv f s:=fun hh=>hx (hiv.1 (hh a ha b hb)).1
       simp [hb,has,hfr,hsr,hfg,hsg,hf2,hs2,hfu,hfg2,hx,j02 hn,j00]
   · rintro e ⟨h2,rfl⟩
     simp
     refine ⟨by omega,fun x hx y hy=>?_⟩
     rcases Nat.lt_or_ge x a with h3 | h3
     · exact h1 x h3 y hy
     · have:x=a:=by omega
       subst this
       exact h2 y hy
 · rintro e ⟨h1,rfl⟩
   have hn:isInv f s:=fun x hx y hy=>h1 x hx y hy
   simp [j1d hn]



end Go.Mch
namespace Go.Mch

def RowIn (n:Nat) (r:List Int):Prop:=r.length=n∧∀ v∈r,0≤v∧v<n
def TabN (n:Nat) (t:List (List Int)):Prop:=t.length=n∧∀ r∈t,RowIn n r
abbrev ownL (p:List Int):T:=.mem .own (some 1) (p.map I)
abbrev j1q (t:List (List Int)):T:=.mem .own (some 1) (rows t)
theorem RowIn.set {n i:Nat} {r:List Int} {v:Int} (h:RowIn n r) (hv:0≤v∧v<n):RowIn n (r.set i v):=by
 refine ⟨by simpa using h.1,fun x hx=>?_⟩
 rcases List.mem_or_eq_of_mem_set hx with h1 | h1
 · exact h.2 x h1
 · rw [h1];exact hv
theorem RowIn.swap {n i j:Nat} {r:List Int} (h:RowIn n r) (hd:r.Nodup) (hi:i<r.length) (hj:j<r.length):RowIn n ((r.set i r[j]).set j r[i])∧((r.set i r[j]).set j r[i]).Nodup :=
 ⟨(h.set (h.2 _ (List.getElem_mem hj))).set (h.2 _ (List.getElem_mem hi)),(List.set_set_perm hi hj).nodup_iff.2 hd⟩
theorem idL_rowIn (n:Nat):RowIn n (idL n)∧(idL n).Nodup:=by
 refine ⟨⟨by simp [idL],fun v hv=>?_⟩,?_⟩
 · simp only [idL,List.mem_map,List.mem_range] at hv
   obtain ⟨i,hi,rfl⟩:=hv
   omega
 · unfold idL
   exact List.Pairwise.map _ (fun a b h=>by omega) List.nodup_range
theorem S_nxt.at {pg:Pg} (h:S_nxt pg) {c:Rw Int} {s:Int×Int} (hs:Sr c s) {n:Nat} (hn:0<n):∃ (s':Int×Int) (r:Nat),(Sr c s'∧r<n)∧Call pg 336 [src c s,I n] [src c s',I n] (I r):=by
 obtain ⟨s',r,⟨g1,g2,g3,_⟩,hc⟩:=h c s n hs
 have g3:=g3 (by omega)
 obtain ⟨i,rfl⟩:∃ i:Nat,r=i:=⟨r.toNat,by omega⟩
 exact ⟨s',i,⟨g1,by omega⟩,hc⟩
def S_drw (pg:Pg):Prop:=∀ (c:Rw Int) (s:Int×Int) (n:Nat),Sr c s→n≤64→∃ (s':Int×Int) (p:List Int),(Sr c s'∧RowIn n p∧p.Nodup)∧Call pg 368 [src c s,I n] [src c s',I n] (ownL p)
set_option maxRecDepth 10000 in
theorem t_drw {pg:Pg} (hp:pg.fn 368=some c_spec_l01Draw) (h336:S_nxt pg) (h334:S_unit pg):S_drw pg:=by
 intro c s n hs hn
 have hfind:=Call.findA (α:=(Int×Int)×List Int) (Q:=fun Y=>Sr c Y.1∧RowIn n Y.2∧Y.2.Nodup) (args:=[src c s,I n]) (args':=fun Y=>[src c Y.1,I n]) (r:=fun Y=>ownL Y.2) hp rfl (by simp [F.lets,c_spec_l01Draw,List.range,List.range.loop]) (by simp [kindOf]) ?_
 · obtain ⟨Y,h1,h2⟩:=hfind
   exact ⟨_,_,h1,h2⟩
 show wp _ _ c_spec_l01Draw.body (postX _ [.t 4] _ _ _) _
 generalize hR:postX (fun Y:(Int×Int)×List Int=>Sr c Y.1∧RowIn n Y.2∧Y.2.Nodup) [.t 4] [src c s,I n] (fun Y=>[src c Y.1,I n]) (fun Y=>ownL Y.2)=R
 simp [c_spec_l01Draw]
 refine j0e (h334 n (by omega)) rfl rfl (fun _=>by simp) ?_
 simp
 refine ⟨by omega,?_⟩
 refine j0t (α:=((Int×Int)×List Int)×Nat) (fun z=>z.2) (fun z e=>(Sr c z.1.1∧RowIn n z.1.2∧z.1.2.Nodup)∧z.2≤n∧e=fr [(0,some (.val (src c z.1.1))),(1,some (.val (I n))),(5,some (.val (ownL z.1.2))),(6,some (.val (I ((z.2:Int)-1))))]) ?_ ((s,idL n),n) _ ⟨⟨hs,(idL_rowIn n).1,(idL_rowIn n).2⟩,Nat.le_refl _,rfl⟩
 rintro ⟨⟨s1,p⟩,j⟩ e ⟨⟨g1,g2,g3⟩,g4,rfl⟩
 simp only at g1 g2 g3 g4
 by_cases hj:2≤j
 · obtain ⟨i,rfl⟩:∃ i,j=i+1:=⟨j-1,by omega⟩
   obtain ⟨s2,r,⟨k1,k2⟩,hc⟩:=h336.at g1 (n:=i+1) (by omega)
   have hi:0<i:=by omega
   have hil:i<p.length:=by rw [g2.1];omega
   have hrl:r<p.length:=by rw [g2.1];omega
   have hsw:=g2.swap g3 hil hrl
   simp [hi]
   refine ⟨by omega,?_⟩
   refine callS (ts':=[rawB c,I s2.1,H64 s2.2]) (r:=I r) (by simpa using hc) ?_
   simp [hil,hrl]
   exact ⟨by omega,by omega,by omega,s2.1,s2.2,(p.set i p[r]).set r p[i],i,by omega,⟨k1,hsw.1,hsw.2⟩,by omega,by simp only [ownL,List.map_set]⟩
 · have hj':¬(1:Int)<(j:Int):=by omega
   simp [hj']
   subst hR
   exact ⟨(s1,p),⟨g1,g2,g3⟩,by simp [post]⟩
theorem rows_snoc (t:List (List Int)) (q:List Int):rows (t++[q])=rows t++[ownL q]:=by simp [rows]
theorem TabN.snoc {n k:Nat} {t:List (List Int)} {r:List Int} (h:t.length=k∧∀ r∈t,RowIn n r) (hr:RowIn n r):(t++[r]).length=k+1∧∀ x∈t++[r],RowIn n x :=
 ⟨by simp [h.1],fun x hx=>by
  rcases List.mem_append.1 hx with h1 | h1
  · exact h.2 x h1
  · rw [List.mem_singleton.1 h1];exact hr⟩
def S_tbs (pg:Pg):Prop:=∀ (c:Rw Int) (s:Int×Int) (n:Nat),Sr c s→0<n→n≤64→∃ (s':Int×Int) (t:List (List Int)),(Sr c s'∧TabN n t)∧Call pg 428 [src c s,I n] [src c s',I n] (j1q t)
set_option maxRecDepth 10000 in
theorem t_tbs {pg:Pg} (hp:pg.fn 428=some c_spec_l01Tables) (h336:S_nxt pg) (h368:S_drw pg):S_tbs pg:=by
 intro c s n hs h0 hn
 have hfind:=Call.findA (α:=(Int×Int)×List (List Int)) (Q:=fun Y=>Sr c Y.1∧TabN n Y.2) (args:=[src c s,I n]) (args':=fun Y=>[src c Y.1,I n]) (r:=fun Y=>j1q Y.2) hp rfl (by simp [F.lets,c_spec_l01Tables,List.range,List.range.loop]) (by simp [kindOf]) ?_
 · obtain ⟨Y,h1,h2⟩:=hfind
   exact ⟨_,_,h1,h2⟩
 show wp _ _ c_spec_l01Tables.body (postX _ [.t 4] _ _ _) _
 generalize hR:postX (fun Y:(Int×Int)×List (List Int)=>Sr c Y.1∧TabN n Y.2) [.t 4] [src c s,I n] (fun Y=>[src c Y.1,I n]) (fun Y=>j1q Y.2)=R
 obtain ⟨s1,kd,⟨k1,_⟩,hc1⟩:=h336.at hs (n:=3) (by omega)
 obtain ⟨s2,p,⟨k2,k3,_⟩,hc2⟩:=h368 c s1 n k1 hn
 simp [c_spec_l01Tables]
 refine callS (ts':=[rawB c,I s1.1,H64 s1.2]) (r:=I kd) (by simpa using hc1) ?_
 simp
 refine callS (ts':=[rawB c,I s2.1,H64 s2.2]) (r:=ownL p) (by simpa using hc2) ?_
 simp
 refine j0a (fun k e=>∃ (s3:Int×Int) (t:List (List Int)),(Sr c s3∧t.length=k∧∀ r∈t,RowIn n r)∧e=fr [(0,some (.val (src c s3))),(1,some (.val (I n))),(5,some (.val (j1q t))),(6,some (.val (I kd))),(7,some (.val (ownL p))),(8,some (.val (I k)))]) n ?_ ?_ 0 _ (by omega) ⟨s2,[],⟨k2,rfl,by simp⟩,rfl⟩
 · rintro k e hk ⟨s3,t,⟨g1,g2,g3⟩,rfl⟩
   obtain ⟨s4,q,⟨j1,j2,_⟩,hc3⟩:=h368 c s3 n g1 hn
   simp [hk]
   refine callS (ts':=[rawB c,I s4.1,H64 s4.2]) (r:=ownL q) (by simpa using hc3) ?_
   simp
   by_cases hk0:kd=0
   · simp [hk0]
     refine j0a (fun j e=>∃ (s5:Int×Int) (q:List Int),(Sr c s5∧RowIn n q)∧e=fr [(0,some (.val (src c s5))),(1,some (.val (I n))),(5,some (.val (j1q t))),(6,some (.val (I 0))),(7,some (.val (ownL p))),(8,some (.val (I k))),(9,some (.val (ownL q))),(10,some (.val (I j)))]) n ?_ ?_ 0 _ (by omega) ⟨s4,q,⟨j1,j2⟩,by simp⟩
     · rintro j e hj ⟨s5,q,⟨i1,i2⟩,rfl⟩
       obtain ⟨s6,r,⟨m1,m2⟩,hc4⟩:=h336.at i1 (n:=n) h0
       have hl:j<q.length:=by rw [i2.1];exact hj
       simp [hj]
       refine callS (ts':=[rawB c,I s6.1,H64 s6.2]) (r:=I r) (by simpa using hc4) ?_
       simp [hl]
       exact ⟨by omega,by omega,s6.1,s6.2,q.set j r,⟨m1,i2.set ⟨by omega,by omega⟩⟩,by simp only [ownL,List.map_set]⟩
     · rintro e ⟨s5,q,⟨i1,i2⟩,rfl⟩
       simp
       exact ⟨by unfold roomy;omega,by omega,s5.1,s5.2,t++[q],⟨i1,(TabN.snoc ⟨g2,g3⟩ i2).1,(TabN.snoc ⟨g2,g3⟩ i2).2⟩,by simp only [j1q,rows_snoc]⟩
   · by_cases hk1:kd=1
     · simp [hk1]
       refine j0a (fun j e=>∃ (q:List Int),RowIn n q∧e=fr [(0,some (.val (src c s4))),(1,some (.val (I n))),(5,some (.val (j1q t))),(6,some (.val (I 1))),(7,some (.val (ownL p))),(8,some (.val (I k))),(9,some (.val (ownL q))),(11,some (.val (I j)))]) n ?_ ?_ 0 _ (by omega) ⟨q,j2,by simp⟩
       · rintro j e hj ⟨q,i2,rfl⟩
         have hl:j<q.length:=by rw [i2.1];exact hj
         obtain ⟨m,hm,hm2⟩:∃ m:Nat,((k:Int)+j).tmod n=m∧m<p.length:=⟨(k+j) % n,by rw [Int.tmod_eq_emod_of_nonneg (by omega),Int.natCast_emod,Int.natCast_add],by rw [k3.1];exact Nat.mod_lt _ h0⟩
         have hn0:¬n=0:=by omega
         have hv:=k3.2 _ (List.getElem_mem hm2)
         simp [hj,hl,hm,hm2,hn0]
         exact ⟨by omega,by omega,by omega,q.set j p[m],i2.set hv,by simp only [ownL,List.map_set]⟩
       · rintro e ⟨q,i2,rfl⟩
         simp
         exact ⟨by unfold roomy;omega,by omega,s4.1,s4.2,t++[q],⟨j1,(TabN.snoc ⟨g2,g3⟩ i2).1,(TabN.snoc ⟨g2,g3⟩ i2).2⟩,by simp only [j1q,rows_snoc]⟩
     · have hk1':¬(kd:Int)=1:=by omega
       simp [hk0,hk1']
       exact ⟨by unfold roomy;omega,by omega,s4.1,s4.2,t++[q],⟨j1,(TabN.snoc ⟨g2,g3⟩ j2).1,(TabN.snoc ⟨g2,g3⟩ j2).2⟩,by simp only [j1q,rows_snoc]⟩
 · rintro e ⟨s3,t,⟨g1,g2,g3⟩,rfl⟩
   simp
   subst hR
   exact ⟨(s3,t),⟨g1,g2,g3⟩,by simp [post]⟩
end Go.Mch
namespace Go.Mch
def imZ (t:List (List Int)) (p:List Int) (a b:Nat):List (List Int):=tabL t.length fun x y=>if invQ p x<a∨(invQ p x=a∧invQ p y<b) then imG t p x y else 0
@[simp] theorem imZ_length (t:List (List Int)) (p:List Int) (a b:Nat):(imZ t p a b).length=t.length:=by simp [imZ]
theorem imZ_row (t:List (List Int)) (p:List Int) (a b:Nat) {i:Nat} (h:i<(imZ t p a b).length):(imZ t p a b)[i].length=t.length:=tabL_row (by rw [← imZ];exact List.getElem_mem h)
theorem imZ_next {t:List (List Int)} {p:List Int} (h:Pm p) (hl:p.length=t.length) (a:Nat):imZ t p a t.length=imZ t p (a+1) 0:=by
 apply tabL_congr
 intro x y hx hy
 have:=h.lt (x:=y) (by omega)
 have e:(invQ p x<a∨(invQ p x=a∧invQ p y<t.length))↔(invQ p x<a+1∨(invQ p x=a+1∧invQ p y<0)):=by omega
 simp only [e]
theorem imZ_last {t:List (List Int)} {p:List Int} (h:Pm p) (hl:p.length=t.length):imZ t p t.length 0=imT t p:=by
 apply tabL_congr
 intro x y hx hy
 have:=h.lt (x:=x) (by omega)
 rw [if_pos (by omega)]
theorem imZ_set {t:List (List Int)} {p:List Int} (h:Pm p) (hl:p.length=t.length) {a b:Nat} (ha:a<p.length) (hb:b<p.length) {P Q:Nat} (hP:(p[a]).toNat=P) (hQ:(p[b]).toNat=Q) (hPl:P<(imZ t p a b).length) :
 (imZ t p a b).set P ((imZ t p a b)[P].set Q (p.getD (v2 t a b).toNat 0))=imZ t p a (b+1):=by
 have qP:invQ p P=a:=hP▸h.back ha
 have qQ:invQ p Q=b:=hQ▸h.back hb
 have hinj:∀ x,x<p.length→invQ p x=a→x=P:=fun x hx he=>by
  have:=h.at hx
  rw [he] at this
  simp [ha] at this
  omega
 have hinj2:∀ x,x<p.length→invQ p x=b→x=Q:=fun x hx he=>by
  have:=h.at hx
  rw [he] at this
  simp [hb] at this
  omega
 apply List.ext_getElem
 · simp
 · intro i h1 h2
   have hi:i<t.length:=by simpa using h2
   rw [List.getElem_set]
   by_cases hiP:P=i
   · subst hiP
     rw [if_pos rfl]
     apply List.ext_getElem
     · simp [imZ_row]
     · intro j h3 h4
       have hj:j<t.length:=by simpa [imZ_row] using h4
       rw [List.getElem_set]
       simp only [imZ,tabL,List.getElem_map,List.getElem_range]
       by_cases hjQ:Q=j
       · subst hjQ
         rw [if_pos rfl,if_pos (by omega),imG,qP,qQ]
       · rw [if_neg hjQ]
         have:invQ p j≠b:=fun he=>hjQ (hinj2 j (by omega) he).symm
         have e:(invQ p P<a∨(invQ p P=a∧invQ p j<b))↔(invQ p P<a∨(invQ p P=a∧invQ p j<b+1)):=by omega
         simp only [e]
   · rw [if_neg hiP]
     have hne:invQ p i≠a:=fun he=>hiP (hinj i (by omega) he).symm
     simp only [imZ,tabL,List.getElem_map,List.getElem_range]
     refine List.map_congr_left fun j _=>?_
     have e:(invQ p i<a∨(invQ p i=a∧invQ p j<b))↔(invQ p i<a∨(invQ p i=a∧invQ p j<b+1)):=by omega
     simp only [e]
def zTab (n k:Nat):List (List Int):=(List.range k).map fun _=>List.replicate n 0
theorem imZ_zero (t:List (List Int)) (p:List Int):imZ t p 0 0=zTab t.length t.length:=by
 unfold imZ zTab tabL
 refine List.map_congr_left fun x _=>?_
 apply List.ext_getElem
 · simp
 · intro i h1 h2;simp
theorem imZ_setD {t:List (List Int)} {p:List Int} (h:Pm p) (hl:p.length=t.length) {a b:Nat} (ha:a<p.length) (hb:b<p.length) {P Q:Nat} (hP:(p[a]).toNat=P) (hQ:(p[b]).toNat=Q) :
 (imZ t p a b).set P (((imZ t p a b).getD P []).set Q (p.getD (v2 t a b).toNat 0))=imZ t p a (b+1):=by
 have ra:=h.inL _ (List.getElem_mem ha)
 have hPl:P<(imZ t p a b).length:=by rw [imZ_length];omega
 have:=imZ_set h hl ha hb hP hQ hPl
 rw [← this,List.getD_eq_getElem?_getD,List.getElem?_eq_getElem hPl]
 rfl
set_option maxRecDepth 10000 in
theorem t_rename {pg:Pg} (hp:pg.fn 367=some c_spec_l01Rename):S_image pg 367:=by
 intro t p ht h hl
 have h12:=h.sm
 have h0:=h.pos
 refine Call.intro hp rfl (by simp) ?_
 show wp _ _ c_spec_l01Rename.body (post [.t 4] _ _ _) _
 simp [c_spec_l01Rename]
 refine j0a (fun k e=>e=fr [(0,some (.val (tb t))),(1,some (.val (ix p))),(5,some (.val (j1q (zTab t.length k)))),(6,some (.val (I k)))]) t.length ?_ ?_ 0 _ (by omega) ?_
 · rintro k e hk rfl
   have hz:(zTab t.length (k+1))=zTab t.length k++[List.replicate t.length 0]:=by simp [zTab,List.range_succ]
   have hzl:(zTab t.length k).length=k:=by simp [zTab]
   rw [hz]
   generalize zTab t.length k=Z at *
   simp [hk]
   exact ⟨by unfold roomy;omega,by unfold roomy;omega,by omega,by simp only [j1q,ownL,rows_snoc,List.map_replicate]⟩
 · rintro e rfl
   rw [← imZ_zero t p]
   simp
   refine j0a (fun a e=>e=fr [(0,some (.val (tb t))),(1,some (.val (ix p))),(5,some (.val (j1q (imZ t p a 0)))),(7,some (.val (I a)))]) t.length ?_ ?_ 0 _ (by omega) ?_
   · rintro a e ha rfl
     rw [← imZ_next h hl a]
     have hap:a<p.length:=by omega
     have ra:=h.inL _ (List.getElem_mem hap)
     have hXl:=imZ_length t p a 0
     have hXr:=fun {i:Nat} hi=>imZ_row t p a 0 (i:=i) hi
     obtain ⟨P,hP⟩:∃ P,p[a]=P:=⟨_,rfl⟩
     rw [hP] at ra
     obtain ⟨P,rfl⟩:∃ P':Nat,P=P':=⟨P.toNat,by omega⟩
     have hPX:P<(imZ t p a 0).length:=by omega
     have hr:=hXr hPX
     have hPt:P<t.length:=by omega
     have hgr:(rows (imZ t p a 0))[P]?=some (ownL (imZ t p a 0)[P]):=by rw [rows_get,List.getElem?_eq_getElem hPX];rfl
     simp [ha,hap,hP,hPt,hr]
     refine j0a (fun b e=>e=fr [(0,some (.val (tb t))),(1,some (.val (ix p))),(5,some (.val (j1q (imZ t p a b)))),(7,some (.val (I a))),(8,some (.sref 5 [P] 1 0 t.length)),(9,some (.val (I b)))]) t.length ?_ ?_ 0 _ (by omega) rfl
     · rintro b e hb rfl
       have hbp:b<p.length:=by omega
       have rb:=h.inL _ (List.getElem_mem hbp)
       have hXl:=imZ_length t p a b
       have hXr:=fun {i:Nat} hi=>imZ_row t p a b (i:=i) hi
       obtain ⟨Q,hQ⟩:∃ Q,p[b]=Q:=⟨_,rfl⟩
       rw [hQ] at rb
       obtain ⟨Q,rfl⟩:∃ Q':Nat,Q=Q':=⟨Q.toNat,by omega⟩
       have hset:=imZ_setD h hl hap hbp (P:=P) (Q:=Q) (by rw [hP];simp) (by rw [hQ];simp)
       have hrow:=ht.row ha
       have hbr:b<(t[a]).length:=by rw [hrow];exact hb
       have hv:=get_v2 ha hbr
       have hv1:=ht.nonneg a b
       have hv2:=ht.lt (by omega) a b
       rw [← hset]
       clear hset
       generalize v2 t a b=v at *
       have hvl:v.toNat<p.length:=by omega
       have hvl2:v<p.length:=by omega
       have hg:p[v.toNat]=p.getD v.toNat 0:=by simp [hvl]
       generalize p.getD v.toNat 0=w at *
       clear hgr hr
       generalize imZ t p a b=X at *
       have hPX':P<X.length:=by omega
       have hr:=hXr hPX'
       have hXg:X.getD P []=X[P]:=by simp [hPX']
       rw [hXg]
       have hQX:Q<(X[P]).length:=by omega
       have hQt:(Q:Int)<t.length:=by omega
       have hQt2:Q<t.length:=by omega
       have hgr:(rows X)[P]?=some (ownL X[P]):=by rw [rows_get,List.getElem?_eq_getElem hPX'];rfl
       simp [ha,hb,hbp,hQ,hrow,hv,hvl,hvl2,hv1,hg,hPX',hQX,hQt]
       exact ⟨by omega,by omega,by simp only [j1q,← rows_set2 hPX']⟩
     · rintro e rfl
       simp
       omega
   · rintro e rfl
     rw [imZ_last h hl]
     simp
   · simp
 · simp only [zTab,j1q,rows,List.range_zero,List.map_nil];rfl
def S_renS (pg:Pg):Prop:=∀ (f s:List (List Int)) (p:List Int),Tab f→Tab s→Pm p→p.length=f.length→p.length=s.length→Call pg 422 [sol f s,ix p] [sol f s,ix p] (.agg [j1q (imT f p),j1q (imT s p)])
set_option maxRecDepth 10000 in
theorem t_renS {pg:Pg} (hp:pg.fn 422=some c_spec_l02Rename) (h367:S_image pg 367):S_renS pg:=by
 intro f s p hf hs h hl hl2
 refine Call.intro hp rfl (by simp) ?_
 show wp _ _ c_spec_l02Rename.body (post [.cell 4 (some 2)] _ _ _) _
 simp [c_spec_l02Rename]
 refine j0e (h367 f p hf h hl) rfl rfl (fun _=>by simp) ?_
 simp
 refine j0e (h367 s p hs h hl2) rfl rfl (fun _=>by simp) ?_
 simp
theorem imT_tabN {n:Nat} {t:List (List Int)} {p:List Int} (ht:TabN n t) (hp:Pm p) (hl:p.length=n):TabN n (imT t p):=by
 have h1:Tab t:=fun r hr=>⟨by rw [(ht.2 r hr).1,ht.1],fun v hv=>by rw [ht.1];exact (ht.2 r hr).2 v hv⟩
 refine ⟨by rw [imT,tabL_length];exact ht.1,fun r hr=>⟨by rw [tabL_row hr];exact ht.1,fun v hv=>?_⟩⟩
 obtain ⟨x,hx,rfl⟩:=List.mem_map.1 hr
 obtain ⟨y,hy,rfl⟩:=List.mem_map.1 hv
 simp only [List.mem_range] at hx hy
 have hpos:=hp.pos
 have a1:=h1.nonneg (invQ p x) (invQ p y)
 have a2:=h1.lt (by rw [ht.1];omega) (invQ p x) (invQ p y)
 have a3:(v2 t (invQ p x) (invQ p y)).toNat<p.length:=by rw [ht.1] at a2;omega
 have a4:=hp.inL _ (List.getElem_mem a3)
 simp only [imG,List.getD_eq_getElem?_getD,List.getElem?_eq_getElem a3,Option.getD_some]
 omega

def PMN (n:Nat) (f s:List (List Int)):Prop:=TabN n f∧TabN n s
abbrev ownS (X:List (List Int)×List (List Int)):T:=.agg [j1q X.1,j1q X.2]
def ownN2 (X:List (List Int)):T:=if X=[] then nil else j1q X
@[simp] theorem ownN2_nil:ownN2 []=nil:=rfl
theorem one_row {n:Nat} {a:List Int} (h:RowIn n a):∀ x∈[a],RowIn n x:=fun x hx=>by rw [List.mem_singleton.1 hx];exact h
theorem snoc_in {n:Nat} {a:List Int} {x:Int} (h:∀ v∈a,0≤v∧v<n) (hx:0≤x∧x<n):∀ v∈a++[x],0≤v∧v<n:=fun v hv=>by
 rcases List.mem_append.1 hv with h1 | h1
 · exact h v h1
 · rw [List.mem_singleton.1 h1];exact hx
theorem ownN2_ne {X:List (List Int)} {k:Nat} (h:X.length=k) (hk:0<k):ownN2 X=j1q X:=if_neg fun h0=>by rw [h0] at h;simp at h;omega
theorem ownN2_snoc (X:List (List Int)) (r:List Int):ownN2 (X++[r])=.mem .own (some 1) (rows X++[ownL r]):=by
 rw [ownN2,if_neg (by simp),j1q,rows_snoc]
def S_poly (pg:Pg):Prop:=∀ n:Nat,0<n→n≤64→∃ X:List (List Int)×List (List Int),PMN n X.1 X.2∧Call pg 423 [I n] [I n] (ownS X)
set_option maxRecDepth 10000 in
theorem t_poly {pg:Pg} (hp:pg.fn 423=some c_spec_l02Polygon):S_poly pg:=by
 intro n h0 hn
 refine Call.find hp rfl (by simp) ?_
 show wp _ _ c_spec_l02Polygon.body _ _
 generalize hR:(fun (x:X) (e:Env)=>∃ l:List (List Int)×List (List Int),PMN n l.1 l.2∧post c_spec_l02Polygon.rs [I n] [I n] (ownS l) x e)=R
 simp [c_spec_l02Polygon]
 refine j0a (fun k e=>∃ f s:List (List Int),((f.length=k∧∀ r∈f,RowIn n r)∧s.length=k∧∀ r∈s,RowIn n r)∧e=fr [(0,some (.val (I n))),(2,some (.val (.mem .own none [nil,nil]))),(3,some (.val (.mem .own none [ownN2 f,ownN2 s]))),(4,some (.val (I k)))]) n ?_ ?_ 0 _ (by omega) ⟨[],[],⟨⟨rfl,by simp⟩,rfl,by simp⟩,rfl⟩
 · rintro k e hk ⟨f,s,⟨⟨g1,g2⟩,g3,g4⟩,rfl⟩
   simp [hk]
   refine j0a (fun j e=>∃ a b:List Int,((a.length=j∧∀ v∈a,0≤v∧v<n)∧b.length=j∧∀ v∈b,0≤v∧v<n)∧e=fr [(0,some (.val (I n))),(2,some (.val (.mem .own none [nil,nil]))),(3,some (.val (.mem .own none [ownN2 f,ownN2 s]))),(4,some (.val (I k))),(5,some (.val (ownL a))),(6,some (.val (ownL b))),(7,some (.val (I j)))]) n ?_ ?_ 0 _ (by omega) ⟨[],[],⟨⟨rfl,by simp⟩,rfl,by simp⟩,rfl⟩
   · rintro j e hj ⟨a,b,⟨⟨i1,i2⟩,i3,i4⟩,rfl⟩
     obtain ⟨m,hm,hm2⟩:∃ m:Nat,((2:Int)*k-j+n).tmod n=m∧m<n:=by
      have h1:0≤(2:Int)*k-j+n:=by omega
      refine ⟨((2:Int)*k-j+n).toNat % n,?_,Nat.mod_lt _ h0⟩
      rw [Int.tmod_eq_emod_of_nonneg h1,Int.natCast_emod,Int.toNat_of_nonneg h1]
     have hn0:¬n=0:=by omega
     simp [hj,hm,hn0]
     exact ⟨by omega,by omega,by omega,by unfold roomy;omega,by unfold roomy;omega,by omega,a++[(m:Int)],b++[(k:Int)],⟨⟨by simp [i1],snoc_in i2 (by omega)⟩,by simp [i3],snoc_in i4 (by omega)⟩,by simp only [ownL,List.map_append,List.map_cons,List.map_nil]⟩
   · rintro e ⟨a,b,⟨⟨i1,i2⟩,i3,i4⟩,rfl⟩
     by_cases hk0:k=0
     · subst hk0
       obtain rfl:f=[]:=List.length_eq_zero_iff.1 g1
       obtain rfl:s=[]:=List.length_eq_zero_iff.1 g3
       simp
       exact ⟨by unfold roomy;omega,[a],[b],⟨⟨rfl,one_row ⟨i1,i2⟩⟩,rfl,one_row ⟨i3,i4⟩⟩,rfl⟩
     · rw [ownN2_ne g1 (by omega),ownN2_ne g3 (by omega)]
       simp
       exact ⟨by unfold roomy;omega,by unfold roomy;omega,by omega,f++[a],s++[b],⟨TabN.snoc ⟨g1,g2⟩ ⟨i1,i2⟩,TabN.snoc ⟨g3,g4⟩ ⟨i3,i4⟩⟩,by simp only [ownN2_snoc]⟩
 · rintro e ⟨f,s,⟨⟨g1,g2⟩,g3,g4⟩,rfl⟩
   have hf:ownN2 f=j1q f:=if_neg fun h=>by rw [h] at g1;simp at g1;omega
   have hs:ownN2 s=j1q s:=if_neg fun h=>by rw [h] at g3;simp at g3;omega
   rw [hf,hs]
   simp
   subst hR
   exact ⟨(f,s),⟨⟨g1,g2⟩,g3,g4⟩,by simp [post,c_spec_l02Polygon]⟩
end Go.Mch
namespace Go.Mch
def S_twst (pg:Pg):Prop:=∀ (n:Nat) (p q:List Int),0<n→n≤64→RowIn n p→RowIn n q→∃ X:List (List Int)×List (List Int),(PMN n X.1 X.2∧∀ r∈X.1,r=p)∧Call pg 425 [ix p,ix q] [ix p,ix q] (ownS X)
set_option maxRecDepth 10000 in
theorem t_twst {pg:Pg} (hp:pg.fn 425=some c_spec_l02Twist) (h31:S_own pg):S_twst pg:=by
 intro n p q h0 hn hP hQ
 have hpl:=hP.1
 have hql:=hQ.1
 refine Call.find hp rfl (by simp) ?_
 show wp _ _ c_spec_l02Twist.body _ _
 generalize hR:(fun (x:X) (e:Env)=>∃ l:List (List Int)×List (List Int),(PMN n l.1 l.2∧∀ r∈l.1,r=p)∧post c_spec_l02Twist.rs [ix p,ix q] [ix p,ix q] (ownS l) x e)=R
 simp [c_spec_l02Twist]
 refine j0a (fun k e=>∃ f s:List (List Int),((f.length=k∧∀ r∈f,r=p)∧s.length=k∧∀ r∈s,RowIn n r)∧e=fr [(0,some (.val (ix p))),(1,some (.val (ix q))),(4,some (.val (.mem .own none [nil,nil]))),(5,some (.val (.mem .own none [ownN2 f,ownN2 s]))),(6,some (.val (I k)))]) n ?_ ?_ 0 _ (by omega) ⟨[],[],⟨⟨rfl,by simp⟩,rfl,by simp⟩,rfl⟩
 · rintro k e hk ⟨f,s,⟨⟨g1,g2⟩,g3,g4⟩,rfl⟩
   have hkq:k<q.length:=by omega
   have hv:=hQ.2 _ (List.getElem_mem hkq)
   simp [hk,hpl]
   refine j0a (fun j e=>∃ b:List Int,(b.length=j∧∀ v∈b,0≤v∧v<n)∧e=fr [(0,some (.val (ix p))),(1,some (.val (ix q))),(4,some (.val (.mem .own none [nil,nil]))),(5,some (.val (.mem .own none [ownN2 f,ownN2 s]))),(6,some (.val (I k))),(7,some (.val (ownL b))),(8,some (.val (I j)))]) n ?_ ?_ 0 _ (by omega) ⟨[],⟨rfl,by simp⟩,rfl⟩
   · rintro j e hj ⟨b,⟨i3,i4⟩,rfl⟩
     simp [hj,hpl,hql,hk]
     exact ⟨by unfold roomy;omega,by omega,b++[q[k]],⟨by simp [i3],snoc_in i4 hv⟩,by simp only [ownL,List.map_append,List.map_cons,List.map_nil]⟩
   · rintro e ⟨b,⟨i3,i4⟩,rfl⟩
     by_cases hk0:k=0
     · subst hk0
       obtain rfl:f=[]:=List.length_eq_zero_iff.1 g1
       obtain rfl:s=[]:=List.length_eq_zero_iff.1 g3
       simp [hpl]
       refine j0e (h31 p (by omega)) rfl rfl (fun _=>by simp) ?_
       simp
       exact ⟨by unfold roomy;omega,[p],[b],⟨⟨rfl,by simp⟩,rfl,one_row ⟨i3,i4⟩⟩,rfl⟩
     · rw [ownN2_ne g1 (by omega),ownN2_ne g3 (by omega)]
       simp [hpl]
       refine j0e (h31 p (by omega)) rfl rfl (fun _=>by simp) ?_
       simp
       exact ⟨by unfold roomy;omega,by unfold roomy;omega,by omega,f++[p],s++[b],⟨⟨by simp [g1],fun r hr=>by
        rcases List.mem_append.1 hr with h1 | h1
        · exact g2 r h1
        · exact List.mem_singleton.1 h1⟩,TabN.snoc ⟨g3,g4⟩ ⟨i3,i4⟩⟩,by simp only [ownN2_snoc]⟩
 · rintro e ⟨f,s,⟨⟨g1,g2⟩,g3,g4⟩,rfl⟩
   rw [ownN2_ne g1 h0,ownN2_ne g3 h0]
   simp [hpl]
   subst hR
   exact ⟨(f,s),⟨⟨⟨g1,fun r hr=>by rw [g2 r hr];exact hP⟩,g3,g4⟩,g2⟩,by simp [post,c_spec_l02Twist]⟩
def S_flp (pg:Pg):Prop:=∀ n:Nat,0<n→n≤64→∃ X:List (List Int)×List (List Int),(PMN n X.1 X.2∧∀ r∈X.1,r=idL n)∧Call pg 449 [I n] [I n] (ownS X)
theorem t_flp {pg:Pg} (hp:pg.fn 449=some c_spec_l02Flip) (h334:S_unit pg) (h425:S_twst pg):S_flp pg:=by
 intro n h0 hn
 obtain ⟨X,hX,hc⟩:=h425 n (idL n) (idL n) h0 hn (idL_rowIn n).1 (idL_rowIn n).1
 refine ⟨X,hX,Call.intro hp rfl (by simp) ?_⟩
 show wp _ _ c_spec_l02Flip.body (post [.cell 2 (some 2)] _ _ _) _
 simp [c_spec_l02Flip]
 refine j0e (h334 n (by omega)) rfl rfl (fun _=>by simp) ?_
 simp
 refine j0e hc rfl rfl (fun _=>by simp) ?_
 simp
theorem tdivN (a m:Nat):((a:Int)).tdiv m=((a / m:Nat):Int):=by rw [Int.tdiv_eq_ediv_of_nonneg (by omega),Int.natCast_ediv]
theorem tmodN (a m:Nat):((a:Int)).tmod m=((a % m:Nat):Int):=by rw [Int.tmod_eq_emod_of_nonneg (by omega),Int.natCast_emod]
theorem TabN.at {n:Nat} {t:List (List Int)} (h:TabN n t) {i j:Nat} (hi:i<n) (hj:j<n):∃ (h1:i<t.length) (h2:j<(t[i]).length),(t[i]).length=n∧0≤(t[i])[j]∧(t[i])[j]<n:=by
 have h1:i<t.length:=by rw [h.1];exact hi
 have h2:=h.2 _ (List.getElem_mem h1)
 have h3:j<(t[i]).length:=by rw [h2.1];exact hj
 exact ⟨h1,h3,h2.1,h2.2 _ (List.getElem_mem h3)⟩
theorem mul_lt {n m:Nat} {x y:Int} (h0:0≤x) (h1:x<n) (h2:0≤y) (h3:y<m) (hn:n*m≤64):0≤x*m+y∧x*m+y<(n*m:Nat)∧0≤x*m∧x*m≤64:=by
 obtain ⟨x,rfl⟩:∃ x':Nat,x=x':=⟨x.toNat,by omega⟩
 obtain ⟨y,rfl⟩:∃ y':Nat,y=y':=⟨y.toNat,by omega⟩
 have h4:(x+1)*m≤n*m:=Nat.mul_le_mul_right m (by omega)
 have h5:(x+1)*m=x*m+m:=Nat.succ_mul x m
 have h6:((x*m:Nat):Int)=(x:Int)*m:=by simp
 omega
def S_prd (pg:Pg):Prop:=∀ (n m:Nat) (f s f' s':List (List Int)),0<n→0<m→n*m≤64→PMN n f s→PMN m f' s'→∃ X:List (List Int)×List (List Int),PMN (n*m) X.1 X.2∧Call pg 458 [sol f s,sol f' s'] [sol f s,sol f' s'] (ownS X)
set_option maxRecDepth 10000 in
theorem t_prd {pg:Pg} (hp:pg.fn 458=some c_spec_l02Product):S_prd pg:=by
 intro n m f s f' s' hn0 hm0 hnm hA hB
 have hfl:=hA.1.1
 have hsl:=hA.2.1
 have hfl':=hB.1.1
 have hsl':=hB.2.1
 have hN:0<n*m:=Nat.mul_pos hn0 hm0
 obtain ⟨N,hNe⟩:∃ N,N=n*m:=⟨_,rfl⟩
 have hNi:(n:Int)*m=N:=by rw [hNe];simp
 have hnl:n≤N:=by rw [hNe];exact Nat.le_mul_of_pos_right n hm0
 have hml:m≤N:=by rw [hNe];exact Nat.le_mul_of_pos_left m hn0
 rw [← hNe] at hN hnm ⊢
 have hdv:∀ a,a<N→a / m<n:=fun a ha=>by rw [hNe,Nat.mul_comm] at ha;exact Nat.div_lt_of_lt_mul ha
 have hmd:∀ a,a % m<m:=fun a=>Nat.mod_lt _ hm0
 have hm0':¬(m:Int)=0:=by omega
 have hm0'':¬m=0:=by omega
 refine Call.find hp rfl (by simp) ?_
 show wp _ _ c_spec_l02Product.body _ _
 generalize hR:(fun (x:X) (e:Env)=>∃ l:List (List Int)×List (List Int),PMN N l.1 l.2∧post c_spec_l02Product.rs [sol f s,sol f' s'] [sol f s,sol f' s'] (ownS l) x e)=R
 simp [c_spec_l02Product]
 refine j0a (fun k e=>∃ F S:List (List Int),((F.length=k∧∀ r∈F,RowIn N r)∧S.length=k∧∀ r∈S,RowIn N r)∧e=fr [(2,some (.val (.mem .own none [tb f,tb s]))),(3,some (.val (.mem .own none [tb f',tb s']))),(4,some (.val (.mem .own none [nil,nil]))),(5,some (.val (I n))),(6,some (.val (I m))),(7,some (.val (.mem .own none [ownN2 F,ownN2 S]))),(8,some (.val (I k)))]) N ?_ ?_ 0 _ (by omega) ⟨[],[],⟨⟨rfl,by simp⟩,rfl,by simp⟩,by simp [hfl,hfl']⟩
 · rintro k e hk ⟨F,S,⟨⟨g1,g2⟩,g3,g4⟩,rfl⟩
   simp [hk,hNi]
   refine ⟨by omega,?_⟩
   refine j0a (fun j e=>∃ a b:List Int,((a.length=j∧∀ v∈a,0≤v∧v<N)∧b.length=j∧∀ v∈b,0≤v∧v<N)∧e=fr [(2,some (.val (.mem .own none [tb f,tb s]))),(3,some (.val (.mem .own none [tb f',tb s']))),(4,some (.val (.mem .own none [nil,nil]))),(5,some (.val (I n))),(6,some (.val (I m))),(7,some (.val (.mem .own none [ownN2 F,ownN2 S]))),(8,some (.val (I k))),(9,some (.val (ownL a))),(10,some (.val (ownL b))),(11,some (.val (I j)))]) N ?_ ?_ 0 _ (by omega) ⟨[],[],⟨⟨rfl,by simp⟩,rfl,by simp⟩,rfl⟩
   · rintro j e hj ⟨a,b,⟨⟨i1,i2⟩,i3,i4⟩,rfl⟩
     have q1:=hdv k hk
     have q2:=hdv j hj
     have r1:=hmd k
     have r2:=hmd j
     have d1:=tdivN k m
     have d2:=tdivN j m
     have d3:=tmodN k m
     have d4:=tmodN j m
     generalize k / m=A at *
     generalize j / m=B at *
     generalize k % m=C at *
     generalize j % m=D at *
     obtain ⟨u1,u2,u3,u4,u5⟩:=hA.1.at q1 q2
     obtain ⟨v1,v2,v3,v4,v5⟩:=hA.2.at q1 q2
     obtain ⟨x1,x2,x3,x4,x5⟩:=hB.1.at r1 r2
     obtain ⟨y1,y2,y3,y4,y5⟩:=hB.2.at r1 r2
     have m1:=mul_lt u4 u5 x4 x5 (by omega)
     have m2:=mul_lt v4 v5 y4 y5 (by omega)
     rw [← hNe] at m1 m2
     simp [hj,hNi,d1,d2,d3,d4,hm0'',q1,q2,r1,r2,hfl,hsl,hfl',hsl',u3,v3,x3,y3]
     exact ⟨by omega,by omega,by omega,by omega,by omega,by unfold roomy;omega,by omega,by omega,by omega,by omega,by unfold roomy;omega,by omega,a++[f[A][B]*m+f'[C][D]],b++[s[A][B]*m+s'[C][D]],⟨⟨by simp [i1],snoc_in i2 (by omega)⟩,by simp [i3],snoc_in i4 (by omega)⟩,by simp only [ownL,List.map_append,List.map_cons,List.map_nil]⟩
   · rintro e ⟨a,b,⟨⟨i1,i2⟩,i3,i4⟩,rfl⟩
     by_cases hk0:k=0
     · subst hk0
       obtain rfl:F=[]:=List.length_eq_zero_iff.1 g1
       obtain rfl:S=[]:=List.length_eq_zero_iff.1 g3
       simp [hNi]
       exact ⟨by omega,by unfold roomy;omega,[a],[b],⟨⟨rfl,one_row ⟨i1,i2⟩⟩,rfl,one_row ⟨i3,i4⟩⟩,rfl⟩
     · rw [ownN2_ne g1 (by omega),ownN2_ne g3 (by omega)]
       simp [hNi]
       exact ⟨by omega,by unfold roomy;omega,by unfold roomy;omega,by omega,F++[a],S++[b],⟨TabN.snoc ⟨g1,g2⟩ ⟨i1,i2⟩,TabN.snoc ⟨g3,g4⟩ ⟨i3,i4⟩⟩,by simp only [ownN2_snoc]⟩
 · rintro e ⟨F,S,⟨⟨g1,g2⟩,g3,g4⟩,rfl⟩
   rw [ownN2_ne g1 hN,ownN2_ne g3 hN]
   simp [hNi]
   refine ⟨by omega,?_⟩
   subst hR
   exact ⟨(F,S),⟨⟨g1,g2⟩,g3,g4⟩,by simp [post,c_spec_l02Product]⟩
def S_uni (pg:Pg):Prop:=∀ (n m:Nat) (f s f' s':List (List Int)),0<n→0<m→n+m≤64→PMN n f s→PMN m f' s'→∃ X:List (List Int)×List (List Int),PMN (n+m) X.1 X.2∧Call pg 460 [sol f s,sol f' s'] [sol f s,sol f' s'] (ownS X)
set_option maxRecDepth 10000 in
theorem t_uni {pg:Pg} (hp:pg.fn 460=some c_spec_l02Union):S_uni pg:=by
 intro n m f s f' s' hn0 hm0 hnm hA hB
 have hfl:=hA.1.1
 have hsl:=hA.2.1
 have hfl':=hB.1.1
 have hsl':=hB.2.1
 obtain ⟨N,hNe⟩:∃ N,N=n+m:=⟨_,rfl⟩
 have hNi:(n:Int)+m=N:=by rw [hNe];simp
 rw [← hNe] at hnm ⊢
 have hN:0<N:=by omega
 refine Call.find hp rfl (by simp) ?_
 show wp _ _ c_spec_l02Union.body _ _
 generalize hR:(fun (x:X) (e:Env)=>∃ l:List (List Int)×List (List Int),PMN N l.1 l.2∧post c_spec_l02Union.rs [sol f s,sol f' s'] [sol f s,sol f' s'] (ownS l) x e)=R
 simp [c_spec_l02Union]
 refine j0a (fun k e=>∃ F S:List (List Int),((F.length=k∧∀ r∈F,RowIn N r)∧S.length=k∧∀ r∈S,RowIn N r)∧e=fr [(2,some (.val (.mem .own none [tb f,tb s]))),(3,some (.val (.mem .own none [tb f',tb s']))),(4,some (.val (.mem .own none [nil,nil]))),(5,some (.val (I n))),(6,some (.val (I m))),(7,some (.val (.mem .own none [ownN2 F,ownN2 S]))),(8,some (.val (I k)))]) N ?_ ?_ 0 _ (by omega) ⟨[],[],⟨⟨rfl,by simp⟩,rfl,by simp⟩,by simp [hfl,hfl']⟩
 · rintro k e hk ⟨F,S,⟨⟨g1,g2⟩,g3,g4⟩,rfl⟩
   simp [hk,hNi]
   refine ⟨by omega,?_⟩
   refine j0a (fun j e=>∃ a b:List Int,((a.length=j∧∀ v∈a,0≤v∧v<N)∧b.length=j∧∀ v∈b,0≤v∧v<N)∧e=fr [(2,some (.val (.mem .own none [tb f,tb s]))),(3,some (.val (.mem .own none [tb f',tb s']))),(4,some (.val (.mem .own none [nil,nil]))),(5,some (.val (I n))),(6,some (.val (I m))),(7,some (.val (.mem .own none [ownN2 F,ownN2 S]))),(8,some (.val (I k))),(9,some (.val (ownL a))),(10,some (.val (ownL b))),(11,some (.val (I j)))]) N ?_ ?_ 0 _ (by omega) ⟨[],[],⟨⟨rfl,by simp⟩,rfl,by simp⟩,rfl⟩
   · rintro j e hj ⟨a,b,⟨⟨i1,i2⟩,i3,i4⟩,rfl⟩
     by_cases ck:k<n
     · by_cases cj:j<n
       · obtain ⟨u1,u2,u3,u4,u5⟩:=hA.1.at ck cj
         obtain ⟨v1,v2,v3,v4,v5⟩:=hA.2.at ck cj
         simp [hj,hNi,ck,cj,hfl,hsl,u3,v3]
         exact ⟨by omega,by unfold roomy;omega,by unfold roomy;omega,by omega,a++[f[k][j]],b++[s[k][j]],⟨⟨by simp [i1],snoc_in i2 (by omega)⟩,by simp [i3],snoc_in i4 (by omega)⟩,by simp only [ownL,List.map_append,List.map_cons,List.map_nil]⟩
       · have ck':¬n≤k:=by omega
         simp [hj,hNi,ck,cj,ck',j00]
         exact ⟨by omega,by unfold roomy;omega,by unfold roomy;omega,by omega,a++[(j:Int)],b++[(k:Int)],⟨⟨by simp [i1],snoc_in i2 (by omega)⟩,by simp [i3],snoc_in i4 (by omega)⟩,by simp only [ownL,List.map_append,List.map_cons,List.map_nil]⟩
     · have ck':n≤k:=by omega
       by_cases cj:n≤j
       · obtain ⟨A,hAk⟩:∃ A:Nat,(k:Int)-n=A:=⟨k-n,by omega⟩
         obtain ⟨B,hBj⟩:∃ B:Nat,(j:Int)-n=B:=⟨j-n,by omega⟩
         have cA:A<m:=by omega
         have cB:B<m:=by omega
         obtain ⟨u1,u2,u3,u4,u5⟩:=hB.1.at cA cB
         obtain ⟨v1,v2,v3,v4,v5⟩:=hB.2.at cA cB
         simp [hj,hNi,ck,ck',cj,cA,cB,hfl',hsl',u3,v3,hAk,hBj,j00]
         exact ⟨by omega,by omega,by omega,by omega,by unfold roomy;omega,by omega,by omega,by omega,by unfold roomy;omega,by omega,a++[f'[A][B]+n],b++[s'[A][B]+n],⟨⟨by simp [i1],snoc_in i2 (by omega)⟩,by simp [i3],snoc_in i4 (by omega)⟩,by simp only [ownL,List.map_append,List.map_cons,List.map_nil]⟩
       · simp [hj,hNi,ck,cj,ck',j00]
         exact ⟨by omega,by unfold roomy;omega,by unfold roomy;omega,by omega,a++[(j:Int)],b++[(k:Int)],⟨⟨by simp [i1],snoc_in i2 (by omega)⟩,by simp [i3],snoc_in i4 (by omega)⟩,by simp only [ownL,List.map_append,List.map_cons,List.map_nil]⟩
   · rintro e ⟨a,b,⟨⟨i1,i2⟩,i3,i4⟩,rfl⟩
     by_cases hk0:k=0
     · subst hk0
       obtain rfl:F=[]:=List.length_eq_zero_iff.1 g1
       obtain rfl:S=[]:=List.length_eq_zero_iff.1 g3
       simp [hNi]
       exact ⟨by omega,by unfold roomy;omega,[a],[b],⟨⟨rfl,one_row ⟨i1,i2⟩⟩,rfl,one_row ⟨i3,i4⟩⟩,rfl⟩
     · rw [ownN2_ne g1 (by omega),ownN2_ne g3 (by omega)]
       simp [hNi]
       exact ⟨by omega,by unfold roomy;omega,by unfold roomy;omega,by omega,F++[a],S++[b],⟨TabN.snoc ⟨g1,g2⟩ ⟨i1,i2⟩,TabN.snoc ⟨g3,g4⟩ ⟨i3,i4⟩⟩,by simp only [ownN2_snoc]⟩
 · rintro e ⟨F,S,⟨⟨g1,g2⟩,g3,g4⟩,rfl⟩
   rw [ownN2_ne g1 hN,ownN2_ne g3 hN]
   simp [hNi]
   refine ⟨by omega,?_⟩
   subst hR
   exact ⟨(F,S),⟨⟨g1,g2⟩,g3,g4⟩,by simp [post,c_spec_l02Union]⟩
end Go.Mch
namespace Go.Mch
theorem zeroT_tabN {n:Nat} (h:0<n):TabN n (zeroT n n):=by
 refine ⟨by simp [zeroT],fun r hr=>?_⟩
 simp only [zeroT,List.mem_replicate] at hr
 rw [hr.2]
 refine ⟨by simp,fun v hv=>?_⟩
 simp only [List.mem_replicate] at hv
 omega
theorem TabN.set2 {n i j:Nat} {t:List (List Int)} {v:Int} (h:TabN n t) (hi:i<t.length) (hv:0≤v∧v<n):TabN n (t.set i (t[i].set j v)):=by
 refine ⟨by simpa using h.1,fun x hx=>?_⟩
 rcases List.mem_or_eq_of_mem_set hx with h1 | h1
 · exact h.2 x h1
 · rw [h1];exact (h.2 _ (List.getElem_mem hi)).set hv
def S_invW (pg:Pg):Prop:=∀ (n:Nat) (f s:List (List Int)),0<n→n≤64→PMN n f s→∃ X:List (List Int)×List (List Int),PMN n X.1 X.2∧Call pg 406 [sol f s] [sol f s] (ownS X)
set_option maxRecDepth 10000 in
theorem t_invW {pg:Pg} (hp:pg.fn 406=some j1k) (h398:S_empty pg):S_invW pg:=by
 intro n f s h0 hn hA
 have hfl:=hA.1.1
 have hsl:=hA.2.1
 refine Call.find hp rfl (by simp) ?_
 show wp _ _ j1k.body _ _
 generalize hR:(fun (x:X) (e:Env)=>∃ l:List (List Int)×List (List Int),PMN n l.1 l.2∧post j1k.rs [sol f s] [sol f s] (ownS l) x e)=R
 simp [j1k]
 rw [hfl]
 refine j0e (h398 n h0 (by omega)) rfl rfl (fun _=>by simp) ?_
 simp
 refine j0a (fun a e=>∃ F S:List (List Int),PMN n F S∧e=fr [(1,some (.val (.mem .own none [tb f,tb s]))),(2,some (.val (.mem .own none [nil,nil]))),(3,some (.val (I n))),(4,some (.val (.mem .own none [j1q F,j1q S]))),(5,some (.val (I a)))]) n ?_ ?_ 0 _ (by omega) ⟨zeroT n n,zeroT n n,⟨zeroT_tabN h0,zeroT_tabN h0⟩,rfl⟩
 · rintro a e ha ⟨F,S,hX,rfl⟩
   simp [ha]
   refine j0a (fun b e=>∃ F S:List (List Int),PMN n F S∧e=fr [(1,some (.val (.mem .own none [tb f,tb s]))),(2,some (.val (.mem .own none [nil,nil]))),(3,some (.val (I n))),(4,some (.val (.mem .own none [j1q F,j1q S]))),(5,some (.val (I a))),(6,some (.val (I b)))]) n ?_ ?_ 0 _ (by omega) ⟨F,S,hX,by simp⟩
   · rintro b e hb ⟨F,S,hX,rfl⟩
     obtain ⟨u1,u2,u3,u4,u5⟩:=hA.1.at ha hb
     obtain ⟨v1,v2,v3,v4,v5⟩:=hA.2.at ha hb
     obtain ⟨P,hP⟩:∃ P:Nat,(f[a])[b]=P:=⟨((f[a])[b]).toNat,by omega⟩
     obtain ⟨Q,hQ⟩:∃ Q:Nat,(s[a])[b]=Q:=⟨((s[a])[b]).toNat,by omega⟩
     rw [hP] at u4 u5
     rw [hQ] at v4 v5
     have hPn:P<n:=by omega
     have hQn:Q<n:=by omega
     obtain ⟨x1,x2,x3,_⟩:=hX.1.at hPn hQn
     obtain ⟨y1,y2,y3,_⟩:=hX.2.at hPn hQn
     have w1:=hX.1.1
     have w2:=hX.2.1
     have hg1:(rows F)[P]?=some (ownL F[P]):=by rw [rows_get,List.getElem?_eq_getElem x1];rfl
     have hg2:(rows S)[P]?=some (ownL S[P]):=by rw [rows_get,List.getElem?_eq_getElem y1];rfl
     simp [hb,ha,hfl,hsl,u3,v3,hP,hQ,hPn,hQn,x3,y3,w1,w2]
     exact ⟨by omega,by omega,F.set P (F[P].set Q a),S.set P (S[P].set Q b),⟨hX.1.set2 x1 ⟨by omega,by omega⟩,hX.2.set2 y1 ⟨by omega,by omega⟩⟩,by simp only [j1q,← rows_set2 x1,← rows_set2 y1]⟩
   · rintro e ⟨F,S,hX,rfl⟩
     simp
     exact ⟨by omega,F,S,hX,rfl⟩
 · rintro e ⟨F,S,hX,rfl⟩
   simp
   subst hR
   exact ⟨(F,S),hX,by simp [post,j1k]⟩
def okR2 (n:Nat) (R:List (List Int)):Prop:=TabN n R∧∀ x y,x<n→y<n→0≤ixOf (R.getD (v2 R x y).toNat []) x
def S_ivl (pg:Pg):Prop:=∀ (n:Nat) (R:List (List Int)),0<n→n≤64→okR2 n R→∃ X:List (List Int)×List (List Int),PMN n X.1 X.2∧Call pg 461 [tb R] [tb R] (ownS X)
set_option maxRecDepth 10000 in
theorem t_ivl {pg:Pg} (hp:pg.fn 461=some j1r) (h280:S_copyT pg 280) (h69:S_index pg):S_ivl pg:=by
 intro n R h0 hn ⟨hA,hI⟩
 have hRl:=hA.1
 have hfit:fits R:=⟨by omega,fun r hr=>by have:=(hA.2 r hr).1;omega⟩
 refine Call.find hp rfl (by simp) ?_
 show wp _ _ j1r.body _ _
 generalize hR:(fun (x:X) (e:Env)=>∃ l:List (List Int)×List (List Int),PMN n l.1 l.2∧post j1r.rs [tb R] [tb R] (ownS l) x e)=Rr
 simp [j1r]
 refine j0e (h280 R hfit) rfl rfl (fun _=>by simp) ?_
 simp
 refine j0a (fun k e=>∃ s:List (List Int),(s.length=k∧∀ r∈s,RowIn n r)∧e=fr [(0,some (.val (tb R))),(2,some (.val (.mem .own none [nil,nil]))),(3,some (.val (.mem .own none [j1q R,ownN2 s]))),(4,some (.val (I k)))]) n ?_ ?_ 0 _ (by omega) ⟨[],⟨rfl,by simp⟩,rfl⟩
 · rintro k e hk ⟨s,⟨g3,g4⟩,rfl⟩
   simp [hk,hRl]
   refine j0a (fun j e=>∃ b:List Int,(b.length=j∧∀ v∈b,0≤v∧v<n)∧e=fr [(0,some (.val (tb R))),(2,some (.val (.mem .own none [nil,nil]))),(3,some (.val (.mem .own none [j1q R,ownN2 s]))),(4,some (.val (I k))),(5,some (.val (ownL b))),(6,some (.val (I j)))]) n ?_ ?_ 0 _ (by omega) ⟨[],⟨rfl,by simp⟩,rfl⟩
   · rintro j e hj ⟨b,⟨i3,i4⟩,rfl⟩
     obtain ⟨u1,u2,u3,u4,u5⟩:=hA.at hk hj
     have hv:=get_v2 u1 u2
     have hii:=hI k j hk hj
     rw [hv] at u4 u5
     obtain ⟨P,hP⟩:∃ P:Nat,v2 R k j=P:=⟨(v2 R k j).toNat,by omega⟩
     rw [hP] at hv u4 u5 hii
     have hPn:P<n:=by omega
     have hPl:P<R.length:=by omega
     have hrow:=hA.2 _ (List.getElem_mem hPl)
     have hg:R.getD P []=R[P]:=by simp [hPl]
     rw [Int.toNat_natCast,hg] at hii
     have hle:=(ixOf_le R[P] k).2
     have hc:=h69 R[P] k (by have:=hrow.1;omega)
     generalize ixOf R[P] k=z at *
     simp [hj,hRl,hk,u3,hv,hPn]
     refine j0e hc rfl rfl (fun _=>rfl) ?_
     have hz:=hrow.1
     simp
     exact ⟨by unfold roomy;omega,by omega,b++[z],⟨by simp [i3],snoc_in i4 (by omega)⟩,by simp only [ownL,List.map_append,List.map_cons,List.map_nil]⟩
   · rintro e ⟨b,⟨i3,i4⟩,rfl⟩
     by_cases hk0:k=0
     · subst hk0
       obtain rfl:s=[]:=List.length_eq_zero_iff.1 g3
       simp [hRl]
       exact ⟨by unfold roomy;omega,[b],⟨rfl,one_row ⟨i3,i4⟩⟩,rfl⟩
     · rw [ownN2_ne g3 (by omega)]
       simp [hRl]
       exact ⟨by unfold roomy;omega,by omega,s++[b],TabN.snoc ⟨g3,g4⟩ ⟨i3,i4⟩,by simp only [ownN2_snoc]⟩
 · rintro e ⟨s,⟨g3,g4⟩,rfl⟩
   rw [ownN2_ne g3 h0]
   simp [hRl]
   subst hR
   exact ⟨(R,s),⟨hA,g3,g4⟩,by simp [post,j1r]⟩
theorem thenL_rowIn {n:Nat} {p q:List Int} (hp:RowIn n p) (hq:RowIn n q):RowIn n (thenL p q):=by
 refine ⟨by simp [thenL,hp.1],fun v hv=>?_⟩
 obtain ⟨x,hx,rfl⟩:=List.mem_map.1 hv
 have h1:=hp.2 x hx
 have h2:x.toNat<q.length:=by rw [hq.1];omega
 rw [List.getD_eq_getElem?_getD,List.getElem?_eq_getElem h2]
 exact hq.2 _ (List.getElem_mem h2)
def S_twd (pg:Pg):Prop:=∀ (c:Rw Int) (s:Int×Int) (n:Nat),Sr c s→0<n→n≤64→∃ (s':Int×Int) (X:List (List Int)×List (List Int)),(Sr c s'∧PMN n X.1 X.2)∧Call pg 459 [src c s,I n] [src c s',I n] (ownS X)
set_option maxRecDepth 10000 in
theorem t_twd {pg:Pg} (hp:pg.fn 459=some j1o) (h336:S_nxt pg) (h368:S_drw pg) (h334:S_unit pg) (h279:S_then pg 279) (h425:S_twst pg):S_twd pg:=by
 intro c s n hs h0 hn
 have hfind:=Call.findA (α:=(Int×Int)×(List (List Int)×List (List Int))) (Q:=fun Y=>Sr c Y.1∧PMN n Y.2.1 Y.2.2) (args:=[src c s,I n]) (args':=fun Y=>[src c Y.1,I n]) (r:=fun Y=>ownS Y.2) hp rfl (by simp [F.lets,j1o,List.range,List.range.loop]) (by simp [kindOf]) ?_
 · obtain ⟨Y,h1,h2⟩:=hfind
   exact ⟨_,_,h1,h2⟩
 show wp _ _ j1o.body (postX _ _ _ _ _) _
 generalize hR:postX (fun Y:(Int×Int)×(List (List Int)×List (List Int))=>Sr c Y.1∧PMN n Y.2.1 Y.2.2) j1o.rs [src c s,I n] (fun Y=>[src c Y.1,I n]) (fun Y=>ownS Y.2)=R
 obtain ⟨s1,p,⟨k1,k2,_⟩,hc1⟩:=h368 c s n hs hn
 obtain ⟨s2,r,⟨k3,k3'⟩,hc2⟩:=h336.at k1 (n:=4) (by omega)
 simp [j1o]
 refine callS (ts':=[rawB c,I s1.1,H64 s1.2]) (r:=ownL p) (by simpa using hc1) ?_
 simp
 refine j0e (h334 n (by omega)) rfl rfl (fun _=>by simp) ?_
 simp
 refine callS (ts':=[rawB c,I s2.1,H64 s2.2]) (r:=I r) (by simpa using hc2) ?_
 simp
 refine j0t (α:=List Int×Nat) (fun z=>z.2) (fun z e=>(RowIn n z.1∧z.2≤4)∧e=fr [(0,some (.val (src c s2))),(1,some (.val (I n))),(4,some (.val (.mem .own none [nil,nil]))),(5,some (.val (ownL p))),(6,some (.val (ownL z.1))),(7,some (.val (I z.2)))]) ?_ (idL n,r) _ ⟨⟨(idL_rowIn n).1,by simp only;omega⟩,rfl⟩
 rintro ⟨q,j⟩ e ⟨⟨g1,g2⟩,rfl⟩
 simp only at g1 g2
 by_cases hj:0<j
 · have hql:=g1.1
   have hpl:=k2.1
   have hc3:=h279 q p (by omega) (by unfold inN;rw [hpl];exact g1.2)
   simp [hj]
   refine j0e hc3 rfl rfl (fun _=>by simp) ?_
   simp
   exact ⟨by omega,thenL q p,j-1,by omega,⟨thenL_rowIn g1 k2,by omega⟩,by
    have:(j:Int)-1=((j-1:Nat):Int):=by omega
    rw [this]⟩
 · obtain rfl:j=0:=by omega
   obtain ⟨s3,b,⟨k4,_⟩,hc4⟩:=h336.at k3 (n:=2) (by omega)
   simp
   refine callS (ts':=[rawB c,I s3.1,H64 s3.2]) (r:=I b) (by simpa using hc4) ?_
   by_cases hb:b=0
   · obtain ⟨X,⟨hX,_⟩,hc5⟩:=h425 n p q h0 hn k2 g1
     simp [hb]
     refine j0e hc5 rfl rfl (fun _=>by simp) ?_
     simp
     subst hR
     exact ⟨(s3,X),⟨k4,hX⟩,by simp [post,j1o]⟩
   · obtain ⟨X,⟨hX,_⟩,hc5⟩:=h425 n q p h0 hn g1 k2
     simp [hb]
     refine j0e hc5 rfl rfl (fun _=>by simp) ?_
     simp
     subst hR
     exact ⟨(s3,X),⟨k4,hX⟩,by simp [post,j1o]⟩
end Go.Mch
namespace Go.Mch
abbrev S2:=List (List Int)×List (List Int)
def rw4:List (List Int):=[[0,1,3,2],[0,1,3,2],[1,0,2,3],[1,0,2,3]]
def rw3:List (List Int):=[[0,1,2],[0,1,2],[1,0,2]]
theorem rw4_ok:okR2 4 rw4:=by
 refine ⟨⟨rfl,fun r hr=>?_⟩,fun x y hx hy=>?_⟩
 · simp only [rw4,List.mem_cons,List.not_mem_nil,or_false] at hr
   rcases hr with rfl | rfl | rfl | rfl <;> exact ⟨rfl,by decide⟩
 · have:∀ x<4,∀ y<4,0≤ixOf (rw4.getD (v2 rw4 x y).toNat []) x:=by decide
   exact this x hx y hy
theorem rw3_ok:okR2 3 rw3:=by
 refine ⟨⟨rfl,fun r hr=>?_⟩,fun x y hx hy=>?_⟩
 · simp only [rw3,List.mem_cons,List.not_mem_nil,or_false] at hr
   rcases hr with rfl | rfl | rfl <;> exact ⟨rfl,by decide⟩
 · have:∀ x<3,∀ y<3,0≤ixOf (rw3.getD (v2 rw3 x y).toNat []) x:=by decide
   exact this x hx y hy
def S_anyM (pg:Pg) (most:Nat):Prop:=∀ (c:Rw Int) (s:Int×Int),Sr c s→∃ (s':Int×Int) (n:Nat) (X:S2),(Sr c s'∧0<n∧n≤most∧PMN n X.1 X.2)∧Call pg 445 [src c s,I most] [src c s',I most] (ownS X)
def S_any (pg:Pg):Prop:=∀ most:Nat,0<most→most≤12→S_anyM pg most
set_option maxRecDepth 10000 in
theorem t_any {pg:Pg} (hp:pg.fn 445=some c_spec_l02Any) (h336:S_nxt pg) (h449:S_flp pg) (h423:S_poly pg) (h458:S_prd pg) (h459:S_twd pg) (h460:S_uni pg) (h461:S_ivl pg) (h406:S_invW pg):S_any pg:=by
 intro most
 induction most using Nat.strongRecOn with
 | _ most ih =>
 intro m0 m12 c s hs
 have hfind:=Call.findA (α:=(Int×Int)×Nat×S2) (Q:=fun Y=>Sr c Y.1∧0<Y.2.1∧Y.2.1≤most∧PMN Y.2.1 Y.2.2.1 Y.2.2.2) (args:=[src c s,I most]) (args':=fun Y=>[src c Y.1,I most]) (r:=fun Y=>ownS Y.2.2) hp rfl (by simp [F.lets,c_spec_l02Any,List.range,List.range.loop]) (by simp [kindOf]) ?_
 · obtain ⟨Y,h1,h2⟩:=hfind
   exact ⟨_,_,_,h1,h2⟩
 show wp _ _ c_spec_l02Any.body (postX _ _ _ _ _) _
 generalize hR:postX (fun Y:(Int×Int)×Nat×S2=>Sr c Y.1∧0<Y.2.1∧Y.2.1≤most∧PMN Y.2.1 Y.2.2.1 Y.2.2.2) c_spec_l02Any.rs [src c s,I most] (fun Y=>[src c Y.1,I most]) (fun Y=>ownS Y.2.2)=R
 have hfin:∀ (s':Int×Int) (k:Nat) (X:S2),Sr c s'→0<k→k≤most→PMN k X.1 X.2→R .ret (fr [(0,some (.val (src c s'))),(1,some (.val (I most))),(4,some (.val (.mem .own none [j1q X.1,j1q X.2])))]):=by
  intro s' k X a1 a2 a3 a4
  subst hR
  exact ⟨(s',k,X),⟨a1,a2,a3,a4⟩,by simp [post,c_spec_l02Any]⟩
 obtain ⟨s1,r1,⟨k1,k2⟩,hc1⟩:=h336.at hs (n:=most) m0
 obtain ⟨s2,kd,⟨k3,k4⟩,hc2⟩:=h336.at k1 (n:=8) (by omega)
 obtain ⟨n,hn⟩:∃ n:Nat,(1:Int)+r1=n:=⟨1+r1,by omega⟩
 have hn0:0<n:=by omega
 have hnm:n≤most:=by omega
 simp [c_spec_l02Any]
 refine callS (ts':=[rawB c,I s1.1,H64 s1.2]) (r:=I r1) (by simpa using hc1) ?_
 simp [hn]
 refine ⟨by omega,?_⟩
 refine callS (ts':=[rawB c,I s2.1,H64 s2.2]) (r:=I kd) (by simpa using hc2) ?_
 obtain ⟨sL,XL,⟨jL1,jL2⟩,hcL⟩:=h459 c s2 n k3 hn0 (by omega)
 simp
 rcases (by omega:kd=0∨kd=1∨kd=2∨kd=3∨kd=4∨kd=5∨kd=6∨kd=7) with rfl | rfl | rfl | rfl | rfl | rfl | rfl | rfl
 · obtain ⟨X,⟨hX,_⟩,hc⟩:=h449 n hn0 (by omega)
   simp
   refine j0e hc rfl rfl (fun _=>by simp) ?_
   simp
   exact hfin s2 n X k3 hn0 hnm hX
 · obtain ⟨X,hX,hc⟩:=h423 n hn0 (by omega)
   simp
   refine j0e hc rfl rfl (fun _=>by simp) ?_
   simp
   exact hfin s2 n X k3 hn0 hnm hX
 · obtain ⟨q,hq,hq2⟩:∃ q:Nat,(n:Int) / 2=q∧q=n / 2:=⟨n / 2,by omega,rfl⟩
   have e1:(n:Int).tmod 2=(n:Int) % 2:=by rw [Int.tmod_eq_emod_of_nonneg (by omega)]
   by_cases h4:4≤n
   · have h4':(4:Int)≤n:=by omega
     by_cases hev:(n:Int) % 2=0
     · obtain ⟨s3,X,⟨j1,j2⟩,hc3⟩:=h459 c s2 q k3 (by omega) (by omega)
       obtain ⟨s4,Y,⟨j3,j4⟩,hc4⟩:=h459 c s3 2 j1 (by omega) (by omega)
       obtain ⟨Z,hZ,hc5⟩:=h458 q 2 X.1 X.2 Y.1 Y.2 (by omega) (by omega) (by omega) j2 j4
       rw [show q*2=n by omega] at hZ
       simp [h4',hev,e1,hq]
       refine ⟨by omega,?_⟩
       refine callS (ts':=[rawB c,I s3.1,H64 s3.2]) (r:=ownS X) (by simpa using hc3) ?_
       simp
       refine callS (ts':=[rawB c,I s4.1,H64 s4.2]) (r:=ownS Y) (by simpa using hc4) ?_
       simp
       refine j0e hc5 rfl rfl (fun _=>by simp) ?_
       simp
       exact hfin s4 n Z j3 hn0 hnm hZ
     · simp [h4',hev,e1]
       refine callS (ts':=[rawB c,I sL.1,H64 sL.2]) (r:=ownS XL) (by simpa using hcL) ?_
       simp
       exact hfin sL n XL jL1 hn0 hnm jL2
   · have h4':¬(4:Int)≤n:=by omega
     simp [h4',j00]
     refine callS (ts':=[rawB c,I sL.1,H64 sL.2]) (r:=ownS XL) (by simpa using hcL) ?_
     simp
     exact hfin sL n XL jL1 hn0 hnm jL2
 · by_cases h2:2≤n
   · have h2':(2:Int)≤n:=by omega
     obtain ⟨n1,hn1⟩:∃ n1:Nat,(n:Int)-1=n1:=⟨n-1,by omega⟩
     obtain ⟨s3,r3,⟨j1,j2⟩,hc3⟩:=h336.at k3 (n:=n1) (by omega)
     obtain ⟨m,hm⟩:∃ m:Nat,(1:Int)+r3=m:=⟨1+r3,by omega⟩
     obtain ⟨d,hd⟩:∃ d:Nat,(n:Int)-m=d:=⟨n-m,by omega⟩
     obtain ⟨s4,k,X,⟨j3,j4,j5,j6⟩,hc4⟩:=ih m (by omega) (by omega) (by omega) c s3 j1
     obtain ⟨s5,Y,⟨j7,j8⟩,hc5⟩:=h459 c s4 d j3 (by omega) (by omega)
     obtain ⟨Z,hZ,hc6⟩:=h460 k d X.1 X.2 Y.1 Y.2 j4 (by omega) (by omega) j6 j8
     simp [h2',hn1]
     refine ⟨by omega,?_⟩
     refine callS (ts':=[rawB c,I s3.1,H64 s3.2]) (r:=I r3) (by simpa using hc3) ?_
     simp [hm]
     refine ⟨by omega,?_⟩
     refine callS (ts':=[rawB c,I s4.1,H64 s4.2]) (r:=ownS X) (by simpa using hc4) ?_
     simp [hd]
     refine ⟨by omega,?_⟩
     refine callS (ts':=[rawB c,I s5.1,H64 s5.2]) (r:=ownS Y) (by simpa using hc5) ?_
     simp
     refine j0e hc6 rfl rfl (fun _=>by simp) ?_
     simp
     exact hfin s5 (k+d) Z j7 (by omega) (by omega) hZ
   · have h2':¬(2:Int)≤n:=by omega
     simp [h2']
     refine callS (ts':=[rawB c,I sL.1,H64 sL.2]) (r:=ownS XL) (by simpa using hcL) ?_
     simp
     exact hfin sL n XL jL1 hn0 hnm jL2
 · by_cases h4:4≤most
   · have h4':(4:Int)≤most:=by omega
     obtain ⟨Z,hZ,hc6⟩:=h461 4 rw4 (by omega) (by omega) rw4_ok
     simp [h4']
     refine j0e hc6 rfl rfl (fun _=>by simp) ?_
     simp
     exact hfin s2 4 Z k3 (by omega) (by omega) hZ
   · have h4':¬(4:Int)≤most:=by omega
     simp [h4']
     refine callS (ts':=[rawB c,I sL.1,H64 sL.2]) (r:=ownS XL) (by simpa using hcL) ?_
     simp
     exact hfin sL n XL jL1 hn0 hnm jL2
 · by_cases h2:2≤n
   · have h2':(2:Int)≤n:=by omega
     obtain ⟨X,hX,hc⟩:=h423 n hn0 (by omega)
     obtain ⟨Z,hZ,hc6⟩:=h406 n X.1 X.2 hn0 (by omega) hX
     simp [h2']
     refine j0e hc rfl rfl (fun _=>by simp) ?_
     simp
     refine j0e hc6 rfl rfl (fun _=>by simp) ?_
     simp
     exact hfin s2 n Z k3 hn0 hnm hZ
   · have h2':¬(2:Int)≤n:=by omega
     simp [h2']
     refine callS (ts':=[rawB c,I sL.1,H64 sL.2]) (r:=ownS XL) (by simpa using hcL) ?_
     simp
     exact hfin sL n XL jL1 hn0 hnm jL2
 · by_cases h4:3≤most
   · have h4':(3:Int)≤most:=by omega
     obtain ⟨Z,hZ,hc6⟩:=h461 3 rw3 (by omega) (by omega) rw3_ok
     simp [h4']
     refine j0e hc6 rfl rfl (fun _=>by simp) ?_
     simp
     exact hfin s2 3 Z k3 (by omega) (by omega) hZ
   · have h4':¬(3:Int)≤most:=by omega
     simp [h4']
     refine callS (ts':=[rawB c,I sL.1,H64 sL.2]) (r:=ownS XL) (by simpa using hcL) ?_
     simp
     exact hfin sL n XL jL1 hn0 hnm jL2
 · simp
   refine callS (ts':=[rawB c,I sL.1,H64 sL.2]) (r:=ownS XL) (by simpa using hcL) ?_
   simp
   exact hfin sL n XL jL1 hn0 hnm jL2
end Go.Mch
namespace Go.Mch
theorem TabN.tab {n:Nat} {t:List (List Int)} (h:TabN n t):Tab t:=fun r hr=>⟨by rw [(h.2 r hr).1,h.1],fun v hv=>by rw [h.1];exact (h.2 r hr).2 v hv⟩
theorem pm_of {n:Nat} {p:List Int} (h:RowIn n p) (hd:p.Nodup) (h0:0<n) (h12:n≤12):Pm p:=by
 have hl:=h.1
 exact ⟨⟨fun x hx=>by rw [hl];exact h.2 x hx,hd⟩,by omega,by omega⟩
def S_dr2 (pg:Pg):Prop:=∀ (c:Rw Int) (s:Int×Int) (most:Nat),Sr c s→0<most→most≤12→∃ (s':Int×Int) (n:Nat) (X:S2),(Sr c s'∧0<n∧n≤most∧PMN n X.1 X.2)∧Call pg 412 [src c s,I most] [src c s',I most] (ownS X)
set_option maxRecDepth 10000 in
theorem t_dr2 {pg:Pg} (hp:pg.fn 412=some c_spec_l02Draw) (h336:S_nxt pg) (h445:S_any pg) (h368:S_drw pg) (h422:S_renS pg):S_dr2 pg:=by
 intro c s most hs m0 m12
 have hfind:=Call.findA (α:=(Int×Int)×Nat×S2) (Q:=fun Y=>Sr c Y.1∧0<Y.2.1∧Y.2.1≤most∧PMN Y.2.1 Y.2.2.1 Y.2.2.2) (args:=[src c s,I most]) (args':=fun Y=>[src c Y.1,I most]) (r:=fun Y=>ownS Y.2.2) hp rfl (by simp [F.lets,c_spec_l02Draw,List.range,List.range.loop]) (by simp [kindOf]) ?_
 · obtain ⟨Y,h1,h2⟩:=hfind
   exact ⟨_,_,_,h1,h2⟩
 show wp _ _ c_spec_l02Draw.body (postX _ _ _ _ _) _
 generalize hR:postX (fun Y:(Int×Int)×Nat×S2=>Sr c Y.1∧0<Y.2.1∧Y.2.1≤most∧PMN Y.2.1 Y.2.2.1 Y.2.2.2) c_spec_l02Draw.rs [src c s,I most] (fun Y=>[src c Y.1,I most]) (fun Y=>ownS Y.2.2)=R
 have hfin:∀ (s':Int×Int) (k:Nat) (X:S2),Sr c s'→0<k→k≤most→PMN k X.1 X.2→R .ret (fr [(0,some (.val (src c s'))),(1,some (.val (I most))),(4,some (.val (.mem .own none [j1q X.1,j1q X.2])))]):=by
  intro s' k X a1 a2 a3 a4
  subst hR
  exact ⟨(s',k,X),⟨a1,a2,a3,a4⟩,by simp [post,c_spec_l02Draw]⟩
 obtain ⟨s1,n,X,⟨k1,k2,k3,k4⟩,hc1⟩:=h445 most m0 m12 c s hs
 obtain ⟨s2,r,⟨k5,_⟩,hc2⟩:=h336.at k1 (n:=4) (by omega)
 obtain ⟨s3,p,⟨k6,k7,k8⟩,hc3⟩:=h368 c s2 n k5 (by omega)
 have hpm:=pm_of k7 k8 k2 (by omega)
 have hl1:=k4.1.1
 have hc4:=h422 X.1 X.2 p k4.1.tab k4.2.tab hpm (by rw [k7.1,k4.1.1]) (by rw [k7.1,k4.2.1])
 simp [c_spec_l02Draw]
 refine callS (ts':=[rawB c,I s1.1,H64 s1.2]) (r:=ownS X) (by simpa using hc1) ?_
 simp
 refine callS (ts':=[rawB c,I s2.1,H64 s2.2]) (r:=I r) (by simpa using hc2) ?_
 by_cases hr:0<r
 · have hl2:=k4.2.1
   simp [hr,hl1,hl2]
   refine callS (ts':=[rawB c,I s3.1,H64 s3.2]) (r:=ownL p) (by simpa using hc3) ?_
   simp [hl1,hl2]
   refine j0e hc4 rfl rfl (fun _=>by simp) ?_
   simp
   exact hfin s3 n (imT X.1 p,imT X.2 p) k6 k2 k3 ⟨imT_tabN k4.1 hpm k7.1,imT_tabN k4.2 hpm k7.1⟩
 · simp [hr]
   exact hfin s2 n X k5 k2 k3 k4
theorem rows_set1 (t:List (List Int)) (i:Nat) (r:List Int):(rows t).set i (ownL r)=rows (t.set i r):=by simp [rows,List.map_set]
def Bd (t:List (List Int)):Prop:=t.length≤20∧∀ r∈t,r.length≤20
theorem TabN.bd {n:Nat} {t:List (List Int)} (h:TabN n t) (hn:n≤20):Bd t:=⟨by rw [h.1];exact hn,fun r hr=>by rw [(h.2 r hr).1];exact hn⟩
theorem Bd.set {t:List (List Int)} (h:Bd t) {i:Nat} {r:List Int} (hr:r.length≤20):Bd (t.set i r):=⟨by simpa using h.1,fun x hx=>by
 rcases List.mem_or_eq_of_mem_set hx with h1 | h1
 · exact h.2 x h1
 · rw [h1];exact hr⟩
def S_bad (pg:Pg):Prop:=∀ (c:Rw Int) (s:Int×Int) (n:Nat),Sr c s→0<n→n≤12→∃ (s':Int×Int) (t:List (List Int)),(Sr c s'∧Bd t)∧Call pg 413 [src c s,I n] [src c s',I n] (j1q t)
set_option maxRecDepth 10000 in
theorem t_bad {pg:Pg} (hp:pg.fn 413=some c_spec_l01Bad) (h336:S_nxt pg) (h428:S_tbs pg) (h334:S_unit pg) (h292:S_pick pg):S_bad pg:=by
 intro c s n hs n0 n12
 have hfind:=Call.findA (α:=(Int×Int)×List (List Int)) (Q:=fun Y=>Sr c Y.1∧Bd Y.2) (args:=[src c s,I n]) (args':=fun Y=>[src c Y.1,I n]) (r:=fun Y=>j1q Y.2) hp rfl (by simp [F.lets,c_spec_l01Bad,List.range,List.range.loop]) (by simp [kindOf]) ?_
 · obtain ⟨Y,h1,h2⟩:=hfind
   exact ⟨_,_,h1,h2⟩
 show wp _ _ c_spec_l01Bad.body (postX _ _ _ _ _) _
 generalize hR:postX (fun Y:(Int×Int)×List (List Int)=>Sr c Y.1∧Bd Y.2) c_spec_l01Bad.rs [src c s,I n] (fun Y=>[src c Y.1,I n]) (fun Y=>j1q Y.2)=R
 have hfin:∀ (s':Int×Int) (t:List (List Int)),Sr c s'→Bd t→R .ret (fr [(0,some (.val (src c s'))),(1,some (.val (I n))),(4,some (.val (j1q t)))]):=by
  intro s' X a1 a2
  subst hR
  exact ⟨(s',X),⟨a1,a2⟩,by simp [post,c_spec_l01Bad]⟩
 obtain ⟨s1,t,⟨k1,k2⟩,hc1⟩:=h428 c s n hs n0 (by omega)
 obtain ⟨s2,kd,⟨k3,k3'⟩,hc2⟩:=h336.at k1 (n:=30) (by omega)
 have hbd:=k2.bd (by omega)
 have htl:=k2.1
 have ht0:0<t.length:=by omega
 have hrow0:=(k2.2 _ (List.getElem_mem ht0)).1
 have hg:(rows t)[0]?=some (ownL t[0]):=by rw [rows_get,List.getElem?_eq_getElem ht0];rfl
 simp [c_spec_l01Bad]
 refine callS (ts':=[rawB c,I s1.1,H64 s1.2]) (r:=j1q t) (by simpa using hc1) ?_
 simp
 refine callS (ts':=[rawB c,I s2.1,H64 s2.2]) (r:=I kd) (by simpa using hc2) ?_
 simp
 rcases (by omega:kd=0∨kd=1∨kd=2∨kd=3∨kd=4∨5≤kd) with rfl | rfl | rfl | rfl | rfl | hk
 · simp
   refine j0e (h334 n (by omega)) rfl rfl (fun _=>by simp) ?_
   simp
   have:=hfin s2 (t++[idL n]) k3 ⟨by simp;omega,fun r hr=>by
    rcases List.mem_append.1 hr with h1 | h1
    · exact hbd.2 r h1
    · rw [List.mem_singleton.1 h1];simp [idL];omega⟩
   exact ⟨by unfold roomy;omega,by simpa only [j1q,rows_snoc] using this⟩
 · simp [ht0]
   have:=hfin s2 (t.set 0 (t[0]++[0])) k3 (hbd.set (by simp;omega))
   exact ⟨by unfold roomy;omega,by omega,by simpa only [j1q,← rows_set1,ownL,List.map_append,List.map_cons,List.map_nil] using this⟩
 · obtain ⟨s3,z,⟨j1,_⟩,hc3⟩:=h292 c s2 [-1,n,1099511627776] k3 (by simp) (by simp)
   simp [ht0]
   simp only [ix,List.map_cons,List.map_nil] at hc3
   refine callS (ts':=[rawB c,I s3.1,H64 s3.2]) (r:=I z) (by simpa using hc3) ?_
   have ht00:0<t[0].length:=by omega
   simp [ht0,ht00]
   have:=hfin s3 (t.set 0 (t[0].set 0 z)) j1 (hbd.set (by simp;omega))
   exact ⟨by omega,by simpa only [j1q,← rows_set1,ownL,List.map_set] using this⟩
 · simp
   exact hfin s2 [] k3 ⟨by simp,by simp⟩
 · obtain ⟨s3,t',⟨j1,j2⟩,hc3⟩:=h428 c s2 13 k3 (by omega) (by omega)
   simp
   refine callS (ts':=[rawB c,I s3.1,H64 s3.2]) (r:=j1q t') (by simpa using hc3) ?_
   simp
   exact hfin s3 t' j1 (j2.bd (by omega))
 · have h1:¬kd=0:=by omega
   have h2:¬(kd:Int)=1:=by omega
   have h3:¬(kd:Int)=2:=by omega
   have h4:¬(kd:Int)=3:=by omega
   have h5:¬(kd:Int)=4:=by omega
   simp [h1,h2,h3,h4,h5]
   exact hfin s2 t k3 hbd
def S_spl (pg:Pg) (f:Nat):Prop:=∀ (c:Rw Int) (s:Int×Int) (most:Nat),Sr c s→0<most→most≤12→∃ (s':Int×Int) (X:S2),(Sr c s'∧Bd X.1∧Bd X.2)∧Call pg f [src c s,I most] [src c s',I most] (ownS X)
set_option maxRecDepth 10000 in
theorem t_spl {pg:Pg} (hp:pg.fn 379=some c_spec_l02Spoil) (h336:S_nxt pg) (h412:S_dr2 pg) (h368:S_drw pg) (h428:S_tbs pg) (h413:S_bad pg):S_spl pg 379:=by
 intro c s most hs m0 m12
 have hfind:=Call.findA (α:=(Int×Int)×S2) (Q:=fun Y=>Sr c Y.1∧Bd Y.2.1∧Bd Y.2.2) (args:=[src c s,I most]) (args':=fun Y=>[src c Y.1,I most]) (r:=fun Y=>ownS Y.2) hp rfl (by simp [F.lets,c_spec_l02Spoil,List.range,List.range.loop]) (by simp [kindOf]) ?_
 · obtain ⟨Y,h1,h2⟩:=hfind
   exact ⟨_,_,h1,h2⟩
 show wp _ _ c_spec_l02Spoil.body (postX _ _ _ _ _) _
 generalize hR:postX (fun Y:(Int×Int)×S2=>Sr c Y.1∧Bd Y.2.1∧Bd Y.2.2) c_spec_l02Spoil.rs [src c s,I most] (fun Y=>[src c Y.1,I most]) (fun Y=>ownS Y.2)=R
 have hfin:∀ (s':Int×Int) (X:S2),Sr c s'→Bd X.1→Bd X.2→R .ret (fr [(0,some (.val (src c s'))),(1,some (.val (I most))),(4,some (.val (.mem .own none [j1q X.1,j1q X.2])))]):=by
  intro s' X a1 a2 a3
  subst hR
  exact ⟨(s',X),⟨a1,a2,a3⟩,by simp [post,c_spec_l02Spoil]⟩
 obtain ⟨s1,n,X,⟨k1,n0,nm,hX⟩,hc1⟩:=h412 c s most hs m0 m12
 obtain ⟨s2,kd,⟨k3,k3'⟩,hc2⟩:=h336.at k1 (n:=24) (by omega)
 have hb1:=hX.1.bd (by omega)
 have hb2:=hX.2.bd (by omega)
 have hl1:=hX.1.1
 have hl2:=hX.2.1
 simp [c_spec_l02Spoil]
 refine callS (ts':=[rawB c,I s1.1,H64 s1.2]) (r:=ownS X) (by simpa using hc1) ?_
 simp [hl1]
 refine callS (ts':=[rawB c,I s2.1,H64 s2.2]) (r:=I kd) (by simpa using hc2) ?_
 simp
 rcases (by omega:kd=0∨kd=1∨kd=2∨kd=3∨kd=4∨5≤kd) with rfl | rfl | rfl | rfl | rfl | hk
 · obtain ⟨s3,a,⟨j1,j2⟩,hc3⟩:=h336.at k3 (n:=n) n0
   obtain ⟨s4,p,⟨j3,j4,_⟩,hc4⟩:=h368 c s3 n j1 (by omega)
   simp [hl1]
   refine callS (ts':=[rawB c,I s3.1,H64 s3.2]) (r:=I a) (by simpa using hc3) ?_
   simp
   refine callS (ts':=[rawB c,I s4.1,H64 s4.2]) (r:=ownL p) (by simpa using hc4) ?_
   simp [hl1,j2]
   have:=hfin s4 (X.1.set a p,X.2) j3 (hb1.set (by rw [j4.1];omega)) hb2
   exact ⟨by omega,by simpa only [j1q,← rows_set1,ownL] using this⟩
 · obtain ⟨s3,a,⟨j1,j2⟩,hc3⟩:=h336.at k3 (n:=n) n0
   obtain ⟨s4,b,⟨j3,j4⟩,hc4⟩:=h336.at j1 (n:=n) n0
   obtain ⟨s5,z,⟨j5,j6⟩,hc5⟩:=h336.at j3 (n:=n) n0
   have ha:a<X.2.length:=by omega
   have hrow:=(hX.2.2 _ (List.getElem_mem ha)).1
   have hg:(rows X.2)[a]?=some (ownL X.2[a]):=by rw [rows_get,List.getElem?_eq_getElem ha];rfl
   simp [hl2]
   refine callS (ts':=[rawB c,I s3.1,H64 s3.2]) (r:=I a) (by simpa using hc3) ?_
   simp [hl2,j2,hrow]
   refine callS (ts':=[rawB c,I s4.1,H64 s4.2]) (r:=I b) (by simpa using hc4) ?_
   simp
   refine callS (ts':=[rawB c,I s5.1,H64 s5.2]) (r:=I z) (by simpa using hc5) ?_
   simp [hl2,j2,j4,hrow]
   have:=hfin s5 (X.1,X.2.set a (X.2[a].set b z)) j5 hb1 (hb2.set (by rw [List.length_set,hrow];omega))
   exact ⟨by omega,by simpa only [j1q,← rows_set1,ownL,List.map_set] using this⟩
 · obtain ⟨s3,f,⟨j1,j2⟩,hc3⟩:=h428 c s2 n k3 n0 (by omega)
   obtain ⟨s4,g,⟨j3,j4⟩,hc4⟩:=h428 c s3 n j1 n0 (by omega)
   simp
   refine callS (ts':=[rawB c,I s3.1,H64 s3.2]) (r:=j1q f) (by simpa using hc3) ?_
   simp
   refine callS (ts':=[rawB c,I s4.1,H64 s4.2]) (r:=j1q g) (by simpa using hc4) ?_
   simp
   exact hfin s4 (f,g) j3 (j2.bd (by omega)) (j4.bd (by omega))
 · obtain ⟨s3,t',⟨j1,j2⟩,hc3⟩:=h413 c s2 n k3 n0 (by omega)
   simp
   refine callS (ts':=[rawB c,I s3.1,H64 s3.2]) (r:=j1q t') (by simpa using hc3) ?_
   simp
   exact hfin s3 (X.1,t') j1 hb1 j2
 · obtain ⟨s3,t',⟨j1,j2⟩,hc3⟩:=h413 c s2 n k3 n0 (by omega)
   simp
   refine callS (ts':=[rawB c,I s3.1,H64 s3.2]) (r:=j1q t') (by simpa using hc3) ?_
   simp
   exact hfin s3 (t',X.2) j1 j2 hb2
 · have h1:¬kd=0:=by omega
   have h2:¬(kd:Int)=1:=by omega
   have h3:¬(kd:Int)=2:=by omega
   have h4:¬(kd:Int)=3:=by omega
   have h5:¬(kd:Int)=4:=by omega
   simp [h1,h2,h3,h4,h5]
   exact hfin s2 X k3 hb1 hb2
end Go.Mch
namespace Go.Mch
def CY (n:Nat) (t:List (List Int)):Prop:=TabN n t∧∀ r∈t,r.Nodup
abbrev cyT (t:List (List Int)):T:=.agg [tb t]
abbrev ownC (t:List (List Int)):T:=.agg [j1q t]
theorem CY.has {n:Nat} {t:List (List Int)} (h:CY n t) (h0:0<n) (h12:n≤12) {x y:Nat} (hx:x<n) (hy:y<n):∃ (h1:x<t.length),0≤ixOf t[x] y∧ixOf t[x] y<n:=by
 have h1:x<t.length:=by rw [h.1.1];exact hx
 have h2:=h.1.2 _ (List.getElem_mem h1)
 have hp:=pm_of h2 (h.2 _ (List.getElem_mem h1)) h0 h12
 have:=hp.mem (x:=y) (by rw [h2.1];exact hy)
 have h3:=ixOf_le t[x] y
 rw [h2.1] at h3
 exact ⟨h1,(ixOf_mem _ _).2 this,h3.2⟩
theorem invL_ok {p:List Int} (h:Pm p):RowIn p.length (invL p)∧(invL p).Nodup:=by
 refine ⟨⟨invL_length p,fun v hv=>?_⟩,?_⟩
 · obtain ⟨i,hi,rfl⟩:=List.getElem_of_mem hv
   have hil:i<p.length:=by simpa using hi
   have:=h.lt hil
   rw [invL_get hi]
   omega
 · rw [List.nodup_iff_pairwise_ne,List.pairwise_iff_getElem]
   intro i j hi hj hij he
   have hil:i<p.length:=by simpa using hi
   have hjl:j<p.length:=by simpa using hj
   rw [invL_get hi,invL_get hj] at he
   have h1:=h.at hil
   have h2:=h.at hjl
   have he':invQ p i=invQ p j:=by omega
   rw [he'] at h1
   rw [h1] at h2
   omega
def S_aff (pg:Pg):Prop:=∀ n a b c:Nat,0<n→n≤64→a≤64→b≤64→c≤64→∃ t:List (List Int),TabN n t∧Call pg 424 [I n,I a,I b,I c] [I n,I a,I b,I c] (ownC t)
set_option maxRecDepth 10000 in
theorem t_aff {pg:Pg} (hp:pg.fn 424=some c_spec_l05Affine):S_aff pg:=by
 intro n a b c h0 hn ha hb hc
 refine Call.find hp rfl (by simp) ?_
 show wp _ _ c_spec_l05Affine.body _ _
 generalize hR:(fun (x:X) (e:Env)=>∃ l:List (List Int),TabN n l∧post c_spec_l05Affine.rs [I n,I a,I b,I c] [I n,I a,I b,I c] (ownC l) x e)=R
 simp [c_spec_l05Affine]
 refine j0a (fun k e=>∃ s:List (List Int),(s.length=k∧∀ r∈s,RowIn n r)∧e=fr [(0,some (.val (I n))),(1,some (.val (I a))),(2,some (.val (I b))),(3,some (.val (I c))),(8,some (.val (.mem .own none [nil]))),(9,some (.val (.mem .own none [ownN2 s]))),(10,some (.val (I k)))]) n ?_ ?_ 0 _ (by omega) ⟨[],⟨rfl,by simp⟩,rfl⟩
 · rintro k e hk ⟨s,⟨g3,g4⟩,rfl⟩
   simp [hk]
   refine j0a (fun j e=>∃ q:List Int,(q.length=j∧∀ v∈q,0≤v∧v<n)∧e=fr [(0,some (.val (I n))),(1,some (.val (I a))),(2,some (.val (I b))),(3,some (.val (I c))),(8,some (.val (.mem .own none [nil]))),(9,some (.val (.mem .own none [ownN2 s]))),(10,some (.val (I k))),(11,some (.val (ownL q))),(12,some (.val (I j)))]) n ?_ ?_ 0 _ (by omega) ⟨[],⟨rfl,by simp⟩,rfl⟩
   · rintro j e hj ⟨q,⟨i3,i4⟩,rfl⟩
     obtain ⟨u,hu,hu2⟩:∃ u:Nat,(a:Int)*k=u∧u≤4096:=⟨a*k,by simp,Nat.mul_le_mul ha (by omega:k≤64)⟩
     obtain ⟨v,hv,hv2⟩:∃ v:Nat,(b:Int)*j=v∧v≤4096:=⟨b*j,by simp,Nat.mul_le_mul hb (by omega:j≤64)⟩
     obtain ⟨m,hm,hm2⟩:∃ m:Nat,((u:Int)+v+c).tmod n=m∧m<n:=⟨(u+v+c) % n,by rw [Int.tmod_eq_emod_of_nonneg (by omega),Int.natCast_emod];simp,Nat.mod_lt _ h0⟩
     have hn0:¬n=0:=by omega
     simp [hj,hu,hv,hm,hn0]
     exact ⟨by omega,by omega,by omega,by omega,by unfold roomy;omega,by omega,q++[(m:Int)],⟨by simp [i3],snoc_in i4 (by omega)⟩,by simp only [ownL,List.map_append,List.map_cons,List.map_nil]⟩
   · rintro e ⟨q,⟨i3,i4⟩,rfl⟩
     by_cases hk0:k=0
     · subst hk0
       obtain rfl:s=[]:=List.length_eq_zero_iff.1 g3
       simp
       exact ⟨by unfold roomy;omega,[q],⟨rfl,one_row ⟨i3,i4⟩⟩,rfl⟩
     · rw [ownN2_ne g3 (by omega)]
       simp
       exact ⟨by unfold roomy;omega,by omega,s++[q],TabN.snoc ⟨g3,g4⟩ ⟨i3,i4⟩,by simp only [ownN2_snoc]⟩
 · rintro e ⟨s,⟨g3,g4⟩,rfl⟩
   rw [ownN2_ne g3 h0]
   simp
   subst hR
   exact ⟨s,⟨g3,g4⟩,by simp [post,c_spec_l05Affine]⟩
def S_sqs (pg:Pg):Prop:=∀ (n:Nat) (t:List (List Int)),n≤64→TabN n t→∃ q:List Int,q.length=n∧Call pg 417 [tb t] [tb t] (ownL q)
set_option maxRecDepth 10000 in
theorem t_sqs {pg:Pg} (hp:pg.fn 417=some c_spec_l05Squares):S_sqs pg:=by
 intro n t hn ht
 have htl:=ht.1
 refine Call.find hp rfl (by simp) ?_
 show wp _ _ c_spec_l05Squares.body _ _
 generalize hR:(fun (x:X) (e:Env)=>∃ l:List Int,l.length=n∧post c_spec_l05Squares.rs [tb t] [tb t] (ownL l) x e)=R
 simp [c_spec_l05Squares]
 refine j0a (fun k e=>∃ q:List Int,q.length=k∧e=fr [(0,some (.val (tb t))),(3,some (.val (ownL q))),(4,some (.val (I k)))]) n ?_ ?_ 0 _ (by omega) ⟨[],rfl,rfl⟩
 · rintro k e hk ⟨q,g1,rfl⟩
   obtain ⟨u1,u2,u3,u4,u5⟩:=ht.at hk hk
   simp [hk,htl,u3]
   exact ⟨by unfold roomy;omega,by omega,q++[t[k][k]],by simp [g1],by simp only [ownL,List.map_append,List.map_cons,List.map_nil]⟩
 · rintro e ⟨q,g1,rfl⟩
   simp [htl]
   subst hR
   exact ⟨q,g1,by simp [post,c_spec_l05Squares]⟩
def S_flt (pg:Pg):Prop:=∀ (n:Nat) (t:List (List Int)),n≤64→TabN n t→∃ q:List Int,q.length≤3∧Call pg 418 [tb t] [tb t] (ownL q)
set_option maxRecDepth 10000 in
theorem t_flt {pg:Pg} (hp:pg.fn 418=some c_spec_l05Fault):S_flt pg:=by
 intro n t hn ht
 have htl:=ht.1
 refine Call.find hp rfl (by simp) ?_
 show wp _ _ c_spec_l05Fault.body _ _
 generalize hR:(fun (x:X) (e:Env)=>∃ l:List Int,l.length≤3∧post c_spec_l05Fault.rs [tb t] [tb t] (ownL l) x e)=R
 simp [c_spec_l05Fault,htl]
 refine j0a (fun x e=>e=fr [(0,some (.val (tb t))),(3,some (.val (I n))),(4,some (.val (I x)))]) n ?_ ?_ 0 _ (by omega) rfl
 · rintro x e hx rfl
   simp [hx]
   refine j0a (fun y e=>e=fr [(0,some (.val (tb t))),(3,some (.val (I n))),(4,some (.val (I x))),(5,some (.val (I y)))]) n ?_ ?_ 0 _ (by omega) rfl
   · rintro y e hy rfl
     simp [hy]
     refine j0a (fun z e=>e=fr [(0,some (.val (tb t))),(3,some (.val (I n))),(4,some (.val (I x))),(5,some (.val (I y))),(6,some (.val (I z)))]) n ?_ ?_ 0 _ (by omega) rfl
     · rintro z e hz rfl
       obtain ⟨a1,a2,a3,a4,a5⟩:=ht.at hx hy
       obtain ⟨b1,b2,b3,b4,b5⟩:=ht.at hx hz
       obtain ⟨c1,c2,c3,c4,c5⟩:=ht.at hy hx
       obtain ⟨d1,d2,d3,d4,d5⟩:=ht.at hy hz
       obtain ⟨A,hA⟩:∃ A:Nat,t[x][y]=A:=⟨(t[x][y]).toNat,by omega⟩
       obtain ⟨B,hB⟩:∃ A:Nat,t[x][z]=A:=⟨(t[x][z]).toNat,by omega⟩
       obtain ⟨C,hC⟩:∃ A:Nat,t[y][x]=A:=⟨(t[y][x]).toNat,by omega⟩
       obtain ⟨D,hD⟩:∃ A:Nat,t[y][z]=A:=⟨(t[y][z]).toNat,by omega⟩
       rw [hA] at a4 a5
       rw [hB] at b4 b5
       rw [hC] at c4 c5
       rw [hD] at d4 d5
       have hAn:A<n:=by omega
       have hBn:B<n:=by omega
       have hCn:C<n:=by omega
       have hDn:D<n:=by omega
       obtain ⟨m1,m2,m3,m4,m5⟩:=ht.at hAn hBn
       obtain ⟨n1,n2,n3,n4,n5⟩:=ht.at hCn hDn
       by_cases he:t[A][B]=t[C][D]
       · simp [hz,hx,hy,htl,a3,c3,hA,hB,hC,hD,hAn,hBn,hCn,hDn,m3,n3,he]
         omega
       · simp [hz,hx,hy,htl,a3,c3,hA,hB,hC,hD,hAn,hBn,hCn,hDn,m3,n3,he]
         subst hR
         exact ⟨[(x:Int),y,z],by simp,by simp [post,c_spec_l05Fault]⟩
     · rintro e rfl
       simp
       omega
   · rintro e rfl
     simp
     omega
 · rintro e rfl
   simp
   subst hR
   exact ⟨[],by simp,by simp [post,c_spec_l05Fault]⟩
end Go.Mch
namespace Go.Mch
def S_cyI (pg:Pg):Prop:=∀ (n:Nat) (t:List (List Int)),0<n→n≤12→TabN n t→∃ b:Bool,(b=true→∀ r∈t,r.Nodup)∧Call pg 363 [cyT t] [cyT t] (B b)
set_option maxRecDepth 10000 in
theorem t_cyI {pg:Pg} (hp:pg.fn 363=some c_spec_l05Is) (h46:S_table pg 46) (h410:S_l01Rows pg) (h417:S_sqs pg) (h47:S_perm pg 47) (h418:S_flt pg):S_cyI pg:=by
 intro n t h0 hn ht
 have htl:=ht.1
 have hT:=ht.tab
 have hc1:=h46 t (by omega) (fun r hr=>by have:=(ht.2 r hr).1;omega)
 have hist:isTable t:=⟨by omega,by omega,hT⟩
 have hc2:=h410 t hT (by omega) (by omega)
 obtain ⟨q,q1,hc3⟩:=h417 n t (by omega) ht
 have hc4:=h47 q (by omega)
 obtain ⟨w,w1,hc5⟩:=h418 n t (by omega) ht
 have hw1:w.length≤1048576:=by omega
 simp only [hist,decide_true] at hc1
 by_cases hr:permRows t
 · simp only [hr,decide_true] at hc2
   by_cases hq:isPerm q
   · simp only [hq,decide_true] at hc4
     refine ⟨decide (w.length=0),fun _ r hr'=>(hr r hr').2,Call.intro hp rfl (by simp) ?_⟩
     show wp _ _ c_spec_l05Is.body (post _ _ _ _) _
     simp [c_spec_l05Is]
     refine j0e hc1 rfl rfl (fun _=>rfl) ?_
     simp
     refine j0e hc2 rfl rfl (fun _=>rfl) ?_
     simp
     refine j0e hc3 rfl rfl (fun _=>by simp) ?_
     simp
     refine j0e hc4 rfl rfl (fun _=>rfl) ?_
     simp
     refine j0e hc5 rfl rfl (fun _=>by simp) ?_
     simp
   · simp only [hq,decide_false] at hc4
     refine ⟨false,by simp,Call.intro hp rfl (by simp) ?_⟩
     show wp _ _ c_spec_l05Is.body (post _ _ _ _) _
     simp [c_spec_l05Is]
     refine j0e hc1 rfl rfl (fun _=>rfl) ?_
     simp
     refine j0e hc2 rfl rfl (fun _=>rfl) ?_
     simp
     refine j0e hc3 rfl rfl (fun _=>by simp) ?_
     simp
     refine j0e hc4 rfl rfl (fun _=>rfl) ?_
     simp [j00]
 · simp only [hr,decide_false] at hc2
   refine ⟨false,by simp,Call.intro hp rfl (by simp) ?_⟩
   show wp _ _ c_spec_l05Is.body (post _ _ _ _) _
   simp [c_spec_l05Is]
   refine j0e hc1 rfl rfl (fun _=>rfl) ?_
   simp
   refine j0e hc2 rfl rfl (fun _=>rfl) ?_
   simp [j00]
def S_cyc (pg:Pg):Prop:=∀ (n:Nat) (f s:List (List Int)),0<n→n≤12→CY n f→fits s→∃ t:List (List Int),CY n t∧Call pg 364 [sol f s] [sol f s] (ownC t)
set_option maxRecDepth 10000 in
theorem t_cyc {pg:Pg} (hp:pg.fn 364=some c_spec_l05Cycle) (h304:S_inv pg 304):S_cyc pg:=by
 intro n f s h0 hn hf hs
 have hfl:=hf.1.1
 refine Call.find hp rfl (by simp) ?_
 show wp _ _ c_spec_l05Cycle.body _ _
 generalize hR:(fun (x:X) (e:Env)=>∃ l:List (List Int),CY n l∧post c_spec_l05Cycle.rs [sol f s] [sol f s] (ownC l) x e)=R
 simp [c_spec_l05Cycle]
 refine j0a (fun k e=>∃ t:List (List Int),((t.length=k∧∀ r∈t,RowIn n r)∧∀ r∈t,r.Nodup)∧e=fr [(1,some (.val (.mem .own none [tb f,tb s]))),(2,some (.val (.mem .own none [nil]))),(3,some (.val (.mem .own none [ownN2 t]))),(4,some (.val (I k)))]) n ?_ ?_ 0 _ (by omega) ⟨[],⟨⟨rfl,by simp⟩,by simp⟩,rfl⟩
 · rintro k e hk ⟨t,⟨⟨g1,g2⟩,g3⟩,rfl⟩
   have hkl:k<f.length:=by omega
   have hr:=hf.1.2 _ (List.getElem_mem hkl)
   have hpm:=pm_of hr (hf.2 _ (List.getElem_mem hkl)) h0 hn
   have hc:=h304 f[k] hpm
   obtain ⟨j1,j2⟩:=invL_ok hpm
   rw [hr.1] at j1
   by_cases hk0:k=0
   · subst hk0
     obtain rfl:t=[]:=List.length_eq_zero_iff.1 g1
     simp [hk,hfl]
     refine j0e hc rfl rfl (fun _=>by simp) ?_
     simp
     exact ⟨by unfold roomy;omega,[invL f[0]],⟨⟨rfl,one_row j1⟩,fun r hr=>by rw [List.mem_singleton.1 hr];exact j2⟩,rfl⟩
   · rw [ownN2_ne g1 (by omega)]
     simp [hk,hfl]
     refine j0e hc rfl rfl (fun _=>by simp) ?_
     simp
     refine ⟨by unfold roomy;omega,by omega,t++[invL f[k]],⟨TabN.snoc ⟨g1,g2⟩ j1,fun r hr=>?_⟩,by simp only [ownN2_snoc]⟩
     rcases List.mem_append.1 hr with h1 | h1
     · exact g3 r h1
     · rw [List.mem_singleton.1 h1];exact j2
 · rintro e ⟨t,⟨⟨g1,g2⟩,g3⟩,rfl⟩
   rw [ownN2_ne g1 h0]
   simp [hfl]
   subst hR
   exact ⟨t,⟨⟨g1,g2⟩,g3⟩,by simp [post,c_spec_l05Cycle]⟩
def S_cys (pg:Pg):Prop:=∀ (n:Nat) (t:List (List Int)),0<n→n≤12→CY n t→∃ X:S2,PMN n X.1 X.2∧Call pg 366 [cyT t] [cyT t] (ownS X)
set_option maxRecDepth 10000 in
theorem t_cys {pg:Pg} (hp:pg.fn 366=some c_spec_l05Solution) (h398:S_empty pg) (h69:S_index pg):S_cys pg:=by
 intro n t h0 hn ht
 have htl:=ht.1.1
 refine Call.find hp rfl (by simp) ?_
 show wp _ _ c_spec_l05Solution.body _ _
 generalize hR:(fun (x:X) (e:Env)=>∃ l:S2,PMN n l.1 l.2∧post c_spec_l05Solution.rs [cyT t] [cyT t] (ownS l) x e)=R
 simp [c_spec_l05Solution]
 rw [htl]
 refine j0e (h398 n h0 (by omega)) rfl rfl (fun _=>by simp) ?_
 simp
 refine j0a (fun a e=>∃ F S:List (List Int),PMN n F S∧e=fr [(1,some (.val (.mem .own none [tb t]))),(2,some (.val (.mem .own none [nil,nil]))),(3,some (.val (I n))),(4,some (.val (.mem .own none [j1q F,j1q S]))),(5,some (.val (I a)))]) n ?_ ?_ 0 _ (by omega) ⟨zeroT n n,zeroT n n,⟨zeroT_tabN h0,zeroT_tabN h0⟩,rfl⟩
 · rintro a e ha ⟨F,S,hX,rfl⟩
   have hal:a<t.length:=by omega
   have w1:=hX.1.1
   have w2:=hX.2.1
   have xF:a<F.length:=by omega
   have xS:a<S.length:=by omega
   have rF:=(hX.1.2 _ (List.getElem_mem xF)).1
   have rS:=(hX.2.2 _ (List.getElem_mem xS)).1
   have hg1:(rows F)[a]?=some (ownL F[a]):=by rw [rows_get,List.getElem?_eq_getElem xF];rfl
   have hg2:(rows S)[a]?=some (ownL S[a]):=by rw [rows_get,List.getElem?_eq_getElem xS];rfl
   simp [ha,w1,w2,rF,rS]
   refine j0a (fun b e=>∃ F S:List (List Int),PMN n F S∧e=fr [(1,some (.val (.mem .own none [tb t]))),(2,some (.val (.mem .own none [nil,nil]))),(3,some (.val (I n))),(4,some (.val (.mem .own none [j1q F,j1q S]))),(5,some (.val (I a))),(6,some (.sref 4 [0,a] 1 0 n)),(7,some (.sref 4 [1,a] 1 0 n)),(8,some (.val (I b)))]) n ?_ ?_ 0 _ (by omega) ⟨F,S,hX,by simp⟩
   · clear hg1 hg2 rF rS xF xS w1 w2 hX
     rintro b e hb ⟨F,S,hX,rfl⟩
     have w1:=hX.1.1
     have w2:=hX.2.1
     have xF:a<F.length:=by omega
     have xS:a<S.length:=by omega
     have rF:=(hX.1.2 _ (List.getElem_mem xF)).1
     have rS:=(hX.2.2 _ (List.getElem_mem xS)).1
     have hg1:(rows F)[a]?=some (ownL F[a]):=by rw [rows_get,List.getElem?_eq_getElem xF];rfl
     have hg2:(rows S)[a]?=some (ownL S[a]):=by rw [rows_get,List.getElem?_eq_getElem xS];rfl
     obtain ⟨_,z1,z2⟩:=ht.has h0 hn ha hb
     have hrow:=(ht.1.2 _ (List.getElem_mem hal)).1
     have hc:=h69 t[a] b (by omega)
     obtain ⟨u,hu⟩:∃ u:Nat,ixOf t[a] b=u:=⟨(ixOf t[a] b).toNat,by omega⟩
     rw [hu] at z1 z2 hc
     have hun:u<n:=by omega
     obtain ⟨m1,m2,m3,m4,m5⟩:=ht.1.at hun ha
     simp [hb,ha,htl]
     refine j0e hc rfl rfl (fun _=>rfl) ?_
     simp [hb,ha,htl,w1,w2,rF,rS,hun,m3]
     exact ⟨by omega,by omega,F.set a (F[a].set b u),S.set a (S[a].set b t[u][a]),⟨hX.1.set2 xF ⟨by omega,by omega⟩,hX.2.set2 xS ⟨by omega,by omega⟩⟩,by simp only [j1q,← rows_set2 xF,← rows_set2 xS]⟩
   · rintro e ⟨F,S,hX,rfl⟩
     simp
     exact ⟨by omega,F,S,hX,rfl⟩
 · rintro e ⟨F,S,hX,rfl⟩
   simp
   subst hR
   exact ⟨(F,S),hX,by simp [post,c_spec_l05Solution]⟩
theorem PMN.pm {n:Nat} {f s:List (List Int)} (h:PMN n f s) (h0:0<n) (h12:n≤12):PM f s:=⟨h.1.tab,h.2.tab,by rw [h.1.1,h.2.1],by rw [h.1.1];exact h0,by rw [h.1.1];exact h12⟩
theorem PMN.fits {n:Nat} {f s:List (List Int)} (h:PMN n f s) (h12:n≤12):fits f∧fits s:=⟨⟨by rw [h.1.1];omega,fun r hr=>by rw [(h.1.2 r hr).1];omega⟩,by rw [h.2.1];omega,fun r hr=>by rw [(h.2.2 r hr).1];omega⟩
def S_cyD (pg:Pg) (f:Nat):Prop:=∀ (c:Rw Int) (s:Int×Int) (most:Nat),Sr c s→0<most→most≤12→∃ (s':Int×Int) (n:Nat) (t:List (List Int)),(Sr c s'∧0<n∧n≤most∧CY n t)∧Call pg f [src c s,I most] [src c s',I most] (ownC t)
set_option maxRecDepth 10000 in
theorem t_cyA {pg:Pg} (hp:pg.fn 427=some c_spec_l05Any) (h336:S_nxt pg) (h424:S_aff pg) (h363:S_cyI pg) (h412:S_dr2 pg) (h350:S_nonDeg pg 350) (h351:S_twice pg 351) (h364:S_cyc pg) (h449:S_flp pg):S_cyD pg 427:=by
 intro c s most hs m0 m12
 have hfind:=Call.findA (α:=(Int×Int)×Nat×List (List Int)) (Q:=fun Y=>Sr c Y.1∧0<Y.2.1∧Y.2.1≤most∧CY Y.2.1 Y.2.2) (args:=[src c s,I most]) (args':=fun Y=>[src c Y.1,I most]) (r:=fun Y=>ownC Y.2.2) hp rfl (by simp [F.lets,c_spec_l05Any,List.range,List.range.loop]) (by simp [kindOf]) ?_
 · obtain ⟨Y,h1,h2⟩:=hfind
   exact ⟨_,_,_,h1,h2⟩
 show wp _ _ c_spec_l05Any.body (postX _ _ _ _ _) _
 generalize hR:postX (fun Y:(Int×Int)×Nat×List (List Int)=>Sr c Y.1∧0<Y.2.1∧Y.2.1≤most∧CY Y.2.1 Y.2.2) c_spec_l05Any.rs [src c s,I most] (fun Y=>[src c Y.1,I most]) (fun Y=>ownC Y.2.2)=R
 have hfin:∀ (s':Int×Int) (k:Nat) (t:List (List Int)),Sr c s'→0<k→k≤most→CY k t→R .ret (fr [(0,some (.val (src c s'))),(1,some (.val (I most))),(4,some (.val (.mem .own none [j1q t])))]):=by
  intro s' k X a1 a2 a3 a4
  subst hR
  exact ⟨(s',k,X),⟨a1,a2,a3,a4⟩,by simp [post,c_spec_l05Any]⟩
 obtain ⟨s1,r1,⟨k1,k2⟩,hc1⟩:=h336.at hs (n:=most) m0
 obtain ⟨s2,kd,⟨k3,k4⟩,hc2⟩:=h336.at k1 (n:=3) (by omega)
 obtain ⟨n,hn⟩:∃ n:Nat,(1:Int)+r1=n:=⟨1+r1,by omega⟩
 have hn0:0<n:=by omega
 have hnm:n≤most:=by omega
 simp [c_spec_l05Any]
 refine callS (ts':=[rawB c,I s1.1,H64 s1.2]) (r:=I r1) (by simpa using hc1) ?_
 simp [hn]
 refine ⟨by omega,?_⟩
 refine callS (ts':=[rawB c,I s2.1,H64 s2.2]) (r:=I kd) (by simpa using hc2) ?_
 by_cases hk0:kd=0
 · simp [hk0]
   refine j0a (fun k e=>∃ s':Int×Int,Sr c s'∧e=fr [(0,some (.val (src c s'))),(1,some (.val (I most))),(4,some (.val (.mem .own none [nil]))),(5,some (.val (I n))),(6,some (.val (I k)))]) 30 ?_ ?_ 0 _ (by omega) ⟨s2,k3,rfl⟩
   · rintro k e hk ⟨s3,g1,rfl⟩
     obtain ⟨s4,a1,⟨j1,j2⟩,hd1⟩:=h336.at g1 (n:=n) hn0
     obtain ⟨s5,a2,⟨j3,j4⟩,hd2⟩:=h336.at j1 (n:=n) hn0
     obtain ⟨s6,a3,⟨j5,j6⟩,hd3⟩:=h336.at j3 (n:=n) hn0
     obtain ⟨t,ht,hd4⟩:=h424 n a1 a2 a3 hn0 (by omega) (by omega) (by omega) (by omega)
     obtain ⟨b,hb,hd5⟩:=h363 n t hn0 (by omega) ht
     have hk':(k:Int)<30:=by omega
     simp [hk']
     refine callS (ts':=[rawB c,I s4.1,H64 s4.2]) (r:=I a1) (by simpa using hd1) ?_
     simp
     refine callS (ts':=[rawB c,I s5.1,H64 s5.2]) (r:=I a2) (by simpa using hd2) ?_
     simp
     refine callS (ts':=[rawB c,I s6.1,H64 s6.2]) (r:=I a3) (by simpa using hd3) ?_
     simp
     refine j0e hd4 rfl rfl (fun _=>by simp) ?_
     simp
     refine j0e hd5 rfl rfl (fun _=>rfl) ?_
     cases b with
     | true =>
      simp
      exact hfin s6 n t j5 hn0 hnm ⟨ht,hb rfl⟩
     | false =>
      simp
      exact ⟨by omega,s6.1,s6.2,j5,rfl⟩
   · rintro e ⟨s3,g1,rfl⟩
     simp
     refine j0a (fun k e=>∃ s':Int×Int,Sr c s'∧e=fr [(0,some (.val (src c s'))),(1,some (.val (I most))),(4,some (.val (.mem .own none [nil]))),(5,some (.val (I n))),(8,some (.val (I k)))]) 8 ?_ ?_ 0 _ (by omega) ⟨s3,g1,rfl⟩
     · rintro k e hk ⟨s3,g1,rfl⟩
       obtain ⟨s4,m,X,⟨j1,j2,j3,j4⟩,hd1⟩:=h412 c s3 n g1 hn0 (by omega)
       have hpm:=j4.pm j2 (by omega)
       have hfit:=j4.fits (by omega)
       have hk':(k:Int)<8:=by omega
       have hd2:=h350 X.1 X.2 hpm
       have hd3:=h351 X.1 X.2 hpm
       simp [hk']
       refine callS (ts':=[rawB c,I s4.1,H64 s4.2]) (r:=ownS X) (by simpa using hd1) ?_
       simp
       refine j0e hd2 rfl rfl (fun _=>rfl) ?_
       by_cases hg:nonDeg X.1 X.2
       · simp [hg]
         refine j0e hd3 rfl rfl (fun _=>rfl) ?_
         generalize dec (isInv X.1 X.2)=b at *
         cases b with
         | true =>
          obtain ⟨t,ht,hd4⟩:=h364 m X.1 X.2 j2 (by omega) ⟨j4.1,fun r hr=>(hg.1 r hr).2⟩ hfit.2
          simp
          refine j0e hd4 rfl rfl (fun _=>by simp) ?_
          simp
          exact hfin s4 m t j1 j2 (by omega) ht
         | false =>
          simp
          exact ⟨by omega,s4.1,s4.2,j1,rfl⟩
       · simp [hg,j00]
         exact ⟨by omega,s4.1,s4.2,j1,rfl⟩
     · rintro e ⟨s3,g1,rfl⟩
       obtain ⟨X,⟨j1,j2⟩,hd1⟩:=h449 n hn0 (by omega)
       have hfit:=j1.fits (by omega)
       obtain ⟨t,ht,hd2⟩:=h364 n X.1 X.2 hn0 (by omega) ⟨j1.1,fun r hr=>by rw [j2 r hr];exact (idL_rowIn n).2⟩ hfit.2
       simp
       refine j0e hd1 rfl rfl (fun _=>by simp) ?_
       simp
       refine j0e hd2 rfl rfl (fun _=>by simp) ?_
       simp
       exact hfin s3 n t g1 hn0 hnm ht
 · simp [hk0]
   refine j0a (fun k e=>∃ s':Int×Int,Sr c s'∧e=fr [(0,some (.val (src c s'))),(1,some (.val (I most))),(4,some (.val (.mem .own none [nil]))),(5,some (.val (I n))),(8,some (.val (I k)))]) 8 ?_ ?_ 0 _ (by omega) ⟨s2,k3,rfl⟩
   · rintro k e hk ⟨s3,g1,rfl⟩
     obtain ⟨s4,m,X,⟨j1,j2,j3,j4⟩,hd1⟩:=h412 c s3 n g1 hn0 (by omega)
     have hpm:=j4.pm j2 (by omega)
     have hfit:=j4.fits (by omega)
     have hk':(k:Int)<8:=by omega
     have hd2:=h350 X.1 X.2 hpm
     have hd3:=h351 X.1 X.2 hpm
     simp [hk']
     refine callS (ts':=[rawB c,I s4.1,H64 s4.2]) (r:=ownS X) (by simpa using hd1) ?_
     simp
     refine j0e hd2 rfl rfl (fun _=>rfl) ?_
     by_cases hg:nonDeg X.1 X.2
     · simp [hg]
       refine j0e hd3 rfl rfl (fun _=>rfl) ?_
       generalize dec (isInv X.1 X.2)=b at *
       cases b with
       | true =>
        obtain ⟨t,ht,hd4⟩:=h364 m X.1 X.2 j2 (by omega) ⟨j4.1,fun r hr=>(hg.1 r hr).2⟩ hfit.2
        simp
        refine j0e hd4 rfl rfl (fun _=>by simp) ?_
        simp
        exact hfin s4 m t j1 j2 (by omega) ht
       | false =>
        simp
        exact ⟨by omega,s4.1,s4.2,j1,rfl⟩
     · simp [hg,j00]
       exact ⟨by omega,s4.1,s4.2,j1,rfl⟩
   · rintro e ⟨s3,g1,rfl⟩
     obtain ⟨X,⟨j1,j2⟩,hd1⟩:=h449 n hn0 (by omega)
     have hfit:=j1.fits (by omega)
     obtain ⟨t,ht,hd2⟩:=h364 n X.1 X.2 hn0 (by omega) ⟨j1.1,fun r hr=>by rw [j2 r hr];exact (idL_rowIn n).2⟩ hfit.2
     simp
     refine j0e hd1 rfl rfl (fun _=>by simp) ?_
     simp
     refine j0e hd2 rfl rfl (fun _=>by simp) ?_
     simp
     exact hfin s3 n t g1 hn0 hnm ht
theorem nodup_inj {p:List Int} (h:p.Nodup) {i j:Nat} (hi:i<p.length) (hj:j<p.length) (he:p.getD i 0=p.getD j 0):i=j:=by
 simp only [List.getD_eq_getElem?_getD,List.getElem?_eq_getElem hi,List.getElem?_eq_getElem hj,Option.getD_some] at he
 exact (List.getElem_inj h).1 he
theorem imT_nodup {n:Nat} {t:List (List Int)} {p:List Int} (ht:CY n t) (hp:Pm p) (hl:p.length=n):∀ r∈imT t p,r.Nodup:=by
 intro r hr
 obtain ⟨a,ha,rfl⟩:=List.mem_map.1 hr
 simp only [List.mem_range] at ha
 have htl:=ht.1.1
 have hA:=hp.lt (x:=a) (by omega)
 have hAt:invQ p a<t.length:=by omega
 have hrow:=ht.1.2 _ (List.getElem_mem hAt)
 have hnd:=ht.2 _ (List.getElem_mem hAt)
 rw [List.nodup_iff_pairwise_ne,List.pairwise_iff_getElem]
 intro i j hi hj hij he
 have hil:i<n:=by simp at hi;omega
 have hjl:j<n:=by simp at hj;omega
 simp only [List.getElem_map,List.getElem_range] at he
 unfold imG at he
 have hI:=hp.lt (x:=i) (by omega)
 have hJ:=hp.lt (x:=j) (by omega)
 obtain ⟨u1,u2,u3,u4,u5⟩:=ht.1.at (i:=invQ p a) (j:=invQ p i) (by omega) (by omega)
 obtain ⟨v1,v2',v3,v4,v5⟩:=ht.1.at (i:=invQ p a) (j:=invQ p j) (by omega) (by omega)
 have e1:=get_v2 u1 u2
 have e2:=get_v2 v1 v2'
 rw [e1] at u4 u5
 rw [e2] at v4 v5
 have h1:=nodup_inj hp.pm.2 (by omega) (by omega) he
 have h2:v2 t (invQ p a) (invQ p i)=v2 t (invQ p a) (invQ p j):=by omega
 rw [← e1,← e2] at h2
 have h3:=(List.getElem_inj hnd).1 h2
 have h4:=hp.at (x:=i) (by omega)
 have h5:=hp.at (x:=j) (by omega)
 rw [h3] at h4
 omega
set_option maxRecDepth 10000 in
theorem t_cyDr {pg:Pg} (hp:pg.fn 378=some c_spec_l05Draw) (h336:S_nxt pg) (h427:S_cyD pg 427) (h368:S_drw pg) (h367:S_image pg 367):S_cyD pg 378:=by
 intro c s most hs m0 m12
 have hfind:=Call.findA (α:=(Int×Int)×Nat×List (List Int)) (Q:=fun Y=>Sr c Y.1∧0<Y.2.1∧Y.2.1≤most∧CY Y.2.1 Y.2.2) (args:=[src c s,I most]) (args':=fun Y=>[src c Y.1,I most]) (r:=fun Y=>ownC Y.2.2) hp rfl (by simp [F.lets,c_spec_l05Draw,List.range,List.range.loop]) (by simp [kindOf]) ?_
 · obtain ⟨Y,h1,h2⟩:=hfind
   exact ⟨_,_,_,h1,h2⟩
 show wp _ _ c_spec_l05Draw.body (postX _ _ _ _ _) _
 generalize hR:postX (fun Y:(Int×Int)×Nat×List (List Int)=>Sr c Y.1∧0<Y.2.1∧Y.2.1≤most∧CY Y.2.1 Y.2.2) c_spec_l05Draw.rs [src c s,I most] (fun Y=>[src c Y.1,I most]) (fun Y=>ownC Y.2.2)=R
 have hfin:∀ (s':Int×Int) (k:Nat) (t:List (List Int)),Sr c s'→0<k→k≤most→CY k t→R .ret (fr [(0,some (.val (src c s'))),(1,some (.val (I most))),(4,some (.val (.mem .own none [j1q t])))]):=by
  intro s' k X a1 a2 a3 a4
  subst hR
  exact ⟨(s',k,X),⟨a1,a2,a3,a4⟩,by simp [post,c_spec_l05Draw]⟩
 obtain ⟨s1,n,t,⟨k1,k2,k3,k4⟩,hc1⟩:=h427 c s most hs m0 m12
 obtain ⟨s2,r,⟨k5,_⟩,hc2⟩:=h336.at k1 (n:=3) (by omega)
 obtain ⟨s3,p,⟨k6,k7,k8⟩,hc3⟩:=h368 c s2 n k5 (by omega)
 have hpm:=pm_of k7 k8 k2 (by omega)
 have hl1:=k4.1.1
 have hc4:=h367 t p k4.1.tab hpm (by rw [k7.1,hl1])
 simp [c_spec_l05Draw]
 refine callS (ts':=[rawB c,I s1.1,H64 s1.2]) (r:=ownC t) (by simpa using hc1) ?_
 simp
 refine callS (ts':=[rawB c,I s2.1,H64 s2.2]) (r:=I r) (by simpa using hc2) ?_
 by_cases hr:0<r
 · simp [hr,hl1]
   refine callS (ts':=[rawB c,I s3.1,H64 s3.2]) (r:=ownL p) (by simpa using hc3) ?_
   simp [hl1]
   refine j0e hc4 rfl rfl (fun _=>by simp) ?_
   simp
   refine hfin s3 n (imT t p) k6 k2 k3 ⟨imT_tabN k4.1 hpm k7.1,?_⟩
   exact imT_nodup k4 hpm k7.1
 · simp [hr]
   exact hfin s2 n t k5 k2 k3 k4
set_option maxRecDepth 10000 in
theorem t_spl7 {pg:Pg} (hp:pg.fn 268=some c_spec_l07Spoil) (h336:S_nxt pg) (h378:S_cyD pg 378) (h366:S_cys pg) (h379:S_spl pg 379):S_spl pg 268:=by
 intro c s most hs m0 m12
 have hfind:=Call.findA (α:=(Int×Int)×S2) (Q:=fun Y=>Sr c Y.1∧Bd Y.2.1∧Bd Y.2.2) (args:=[src c s,I most]) (args':=fun Y=>[src c Y.1,I most]) (r:=fun Y=>ownS Y.2) hp rfl (by simp [F.lets,c_spec_l07Spoil,List.range,List.range.loop]) (by simp [kindOf]) ?_
 · obtain ⟨Y,h1,h2⟩:=hfind
   exact ⟨_,_,h1,h2⟩
 show wp _ _ c_spec_l07Spoil.body (postX _ _ _ _ _) _
 generalize hR:postX (fun Y:(Int×Int)×S2=>Sr c Y.1∧Bd Y.2.1∧Bd Y.2.2) c_spec_l07Spoil.rs [src c s,I most] (fun Y=>[src c Y.1,I most]) (fun Y=>ownS Y.2)=R
 have hfin:∀ (s':Int×Int) (X:S2),Sr c s'→Bd X.1→Bd X.2→R .ret (fr [(0,some (.val (src c s'))),(1,some (.val (I most))),(4,some (.val (.mem .own none [j1q X.1,j1q X.2])))]):=by
  intro s' X a1 a2 a3
  subst hR
  exact ⟨(s',X),⟨a1,a2,a3⟩,by simp [post,c_spec_l07Spoil]⟩
 obtain ⟨s1,r,⟨k1,_⟩,hc1⟩:=h336.at hs (n:=3) (by omega)
 simp [c_spec_l07Spoil]
 refine callS (ts':=[rawB c,I s1.1,H64 s1.2]) (r:=I r) (by simpa using hc1) ?_
 by_cases hr:r=0
 · obtain ⟨s2,n,t,⟨k2,k3,k4,k5⟩,hc2⟩:=h378 c s1 most k1 m0 m12
   obtain ⟨X,hX,hc3⟩:=h366 n t k3 (by omega) k5
   simp [hr]
   refine callS (ts':=[rawB c,I s2.1,H64 s2.2]) (r:=ownC t) (by simpa using hc2) ?_
   simp
   refine j0e hc3 rfl rfl (fun _=>by simp) ?_
   simp
   exact hfin s2 X k2 (hX.1.bd (by omega)) (hX.2.bd (by omega))
 · obtain ⟨s2,X,⟨k2,k3,k4⟩,hc2⟩:=h379 c s1 most k1 m0 m12
   simp [hr]
   refine callS (ts':=[rawB c,I s2.1,H64 s2.2]) (r:=ownS X) (by simpa using hc2) ?_
   simp
   exact hfin s2 X k2 k3 k4
end Go.Mch
namespace Go.Mch
def S_big (pg:Pg):Prop:=∀ c:Rw Int,Call pg 128 [rawB c] [rawB c] (B (decide ((4096:Int)<(lst c).length)))
theorem t_big {pg:Pg} (hp:pg.fn 128=some c_laws_big):S_big pg:=by
 intro c
 refine Call.intro hp rfl (by simp) ?_
 show wp _ _ c_laws_big.body (post [.t 2] _ _ _) _
 simp [c_laws_big]
def S_likeI (pg:Pg):Prop:=∀ a b:Rw Int,(lst a).length≤1048576→Call pg 141 [rawI a,rawI b] [rawI a,rawI b] (B (decide (lst a=lst b)))
theorem t_likeI {pg:Pg} (hp:pg.fn 141=some c_laws_likeInts):S_likeI pg:=by
 intro a b ha
 refine Call.intro hp rfl (by simp) ?_
 show wp _ _ c_laws_likeInts.body (post [.t 4] _ _ _) _
 by_cases hl:(lst a).length=(lst b).length
 · simp [c_laws_likeInts,hl]
   refine j0a (fun k e=>(∀ i,i<k→(lst a)[i]?=(lst b)[i]?)∧e=fr [(0,some (.val (rawI a))),(1,some (.val (rawI b))),(5,some (.val (I k)))]) (lst a).length ?_ ?_ 0 _ (by omega) ?_
   · rintro k e hk ⟨h1,rfl⟩
     have hk2:k<(lst b).length:=by omega
     by_cases hne:(lst a)[k]=(lst b)[k]
     · simp [hk,hk2,hne]
       refine ⟨by omega,fun i hi=>?_⟩
       rcases Nat.lt_or_ge i k with h2 | h2
       · exact h1 i h2
       · have:i=k:=by omega
         subst this
         rw [List.getElem?_eq_getElem hk,List.getElem?_eq_getElem hk2,hne]
     · simp [hk,hk2,hne]
       intro h2
       exact hne (by simp [h2])
   · rintro e ⟨h1,rfl⟩
     simp [hl]
     apply List.ext_getElem?
     intro i
     rcases Nat.lt_or_ge i (lst a).length with h2 | h2
     · exact h1 i h2
     · rw [List.getElem?_eq_none h2,List.getElem?_eq_none (by omega)]
   · exact ⟨fun i hi=>by omega,by simp⟩
 · have:lst a≠lst b:=fun h=>hl (by rw [h])
   have h2:((lst a).length:Int)≠(lst b).length:=by omega
   simp [c_laws_likeInts,h2,this]

def S_likeT (pg:Pg):Prop:=∀ a b:Rw (Rw Int),small a→Call pg 137 [rawT a,rawT b] [rawT a,rawT b] (B (decide ((lst a).map lst=(lst b).map lst)))
theorem t_likeT {pg:Pg} (hp:pg.fn 137=some c_laws_likeRows5) (h141:S_likeI pg):S_likeT pg:=by
 intro a b ⟨ha,hr⟩
 refine Call.intro hp rfl (by simp) ?_
 show wp _ _ c_laws_likeRows5.body (post [.t 4] _ _ _) _
 by_cases hl:(lst a).length=(lst b).length
 · simp [c_laws_likeRows5,hl]
   refine j0a (fun k e=>(∀ i,i<k→((lst a).map lst)[i]?=((lst b).map lst)[i]?)∧e=fr [(0,some (.val (rawT a))),(1,some (.val (rawT b))),(5,some (.val (I k)))]) (lst a).length ?_ ?_ 0 _ (by omega) ?_
   · rintro k e hk ⟨h1,rfl⟩
     have hk2:k<(lst b).length:=by omega
     simp [hk,hk2]
     refine j0e (h141 _ _ (hr _ (List.getElem_mem hk))) rfl rfl (fun _=>rfl) ?_
     by_cases hne:lst (lst a)[k]=lst (lst b)[k]
     · simp [hne]
       refine ⟨by omega,fun i hi=>?_⟩
       rcases Nat.lt_or_ge i k with h2 | h2
       · have:=h1 i h2
         simpa using this
       · have:i=k:=by omega
         subst this
         simp [hk,hk2,hne]
     · simp [hne]
       intro h2
       have h3:=congrArg (fun l=>l[k]?) h2
       simp [hk,hk2] at h3
       exact hne h3
   · rintro e ⟨h1,rfl⟩
     simp [hl]
     apply List.ext_getElem?
     intro i
     rcases Nat.lt_or_ge i (lst a).length with h2 | h2
     · exact h1 i h2
     · rw [List.getElem?_eq_none (by simpa using h2),List.getElem?_eq_none (by simp;omega)]
   · exact ⟨fun i hi=>by omega,by simp⟩
 · have:(lst a).map lst≠(lst b).map lst:=fun h=>hl (by have:=congrArg List.length h;simpa using this)
   have h2:((lst a).length:Int)≠(lst b).length:=by omega
   simp [c_laws_likeRows5,h2,this]

def S_same9 (pg:Pg):Prop:=∀ a b:Rw (Rw Int),small a→Call pg 178 [rawT a,rawT b] [rawT a,rawT b] (B (decide ((lst a).map lst=(lst b).map lst)))
theorem S_likeT.tb {pg:Pg} (h:S_likeT pg) (X Y:List (List Int)) (hs:smallT X):Call pg 137 [tb X,tb Y] [tb X,tb Y] (B (decide (X=Y))):=by
 have:=h (ryT (some X)) (ryT (some Y)) (small_ry hs)
 simp only [rawT_ry,lst_ry] at this
 exact this
end Go.Mch
namespace Go.Mch
theorem pairN_div {n x y:Nat} (hy:y<n):(x*n+y) / n=x∧(x*n+y) % n=y:=by
 have hn:0<n:=by omega
 refine ⟨?_,?_⟩
 · rw [Nat.add_comm,Nat.add_mul_div_right _ _ hn,Nat.div_eq_of_lt hy,Nat.zero_add]
 · rw [Nat.add_comm,Nat.add_mul_mod_self_right,Nat.mod_eq_of_lt hy]
theorem pairN_eq {n x y x' y':Nat} (hy:y<n) (hy':y'<n) (h:x*n+y=x'*n+y'):x=x'∧y=y':=by
 have h1:=pairN_div (x:=x) hy
 have h2:=pairN_div (x:=x') hy'
 rw [h] at h1
 exact ⟨h1.1.symm.trans h2.1,h1.2.symm.trans h2.2⟩
def ldN (f s:List (List Int)) (a:Nat):Nat:=σN f (a / f.length) (a % f.length)*f.length+τN s (a % f.length) (a / f.length)
theorem inj_ld {f s:List (List Int)} (h:PM f s):Inj f s↔∀ a b,a<f.length*f.length→b<f.length*f.length→ldN f s a=ldN f s b→a=b:=by
 constructor
 · intro hi a b ha hb he
   apply Classical.byContradiction
   intro hne
   obtain ⟨e1,e2⟩:=pairN_eq (h.v2s (a / f.length) (a % f.length)).2 (h.v2s (b / f.length) (b % f.length)).2 he
   have a1:=(h.v2f (a / f.length) (a % f.length)).1
   have a2:=(h.v2f (b / f.length) (b % f.length)).1
   have a3:=(h.v2s (a / f.length) (a % f.length)).1
   have a4:=(h.v2s (b / f.length) (b % f.length)).1
   exact hi a ha b hb ⟨hne,by rw [← a1,← a2,e1],by rw [← a3,← a4,e2]⟩
 · intro hi a ha b hb ⟨hne,e1,e2⟩
   refine hne (hi a b ha hb ?_)
   unfold ldN σN τN
   rw [e1,e2]

def S_ndI (pg:Pg):Prop:=∀ f s:List (List Int),isPairMap f s→Call pg 159 [sol f s] [sol f s] (.tup [B (decide (nonDeg f s)),I 0])
theorem t_ndI {pg:Pg} (hp:pg.fn 159=some c_impl_IsNondegenerate) (h59:S_pairMap pg 59) (h285:S_nonDeg pg 285):S_ndI pg:=by
 intro f s hpm
 have h:=PM.of hpm
 have h12:=h.small
 have hfs:fits s:=⟨by have:=h.len;omega,fun r hr=>by have:=(h.ts r hr).1;have:=h.len;omega⟩
 refine Call.intro hp rfl (by simp) ?_
 show wp _ _ c_impl_IsNondegenerate.body (post [.t 2,.t 3] _ _ _) _
 simp [c_impl_IsNondegenerate]
 refine j0e (h59 f s h.fitsF hfs) rfl rfl (fun _=>rfl) ?_
 simp [hpm]
 refine j0e (h285 f s h) rfl rfl (fun _=>rfl) ?_
 simp
def S_ivI (pg:Pg):Prop:=∀ f s:List (List Int),isPairMap f s→Call pg 160 [sol f s] [sol f s] (.tup [B (dec (isInv f s)),I 0])
theorem t_ivI {pg:Pg} (hp:pg.fn 160=some c_impl_IsInvolutive) (h59:S_pairMap pg 59) (h298:S_twice pg 298):S_ivI pg:=by
 intro f s hpm
 have h:=PM.of hpm
 have h12:=h.small
 have hfs:fits s:=⟨by have:=h.len;omega,fun r hr=>by have:=(h.ts r hr).1;have:=h.len;omega⟩
 refine Call.intro hp rfl (by simp) ?_
 show wp _ _ c_impl_IsInvolutive.body (post [.t 2,.t 3] _ _ _) _
 simp [c_impl_IsInvolutive]
 refine j0e (h59 f s h.fitsF hfs) rfl rfl (fun _=>rfl) ?_
 simp [hpm]
 refine j0e (h298 f s h) rfl rfl (fun _=>rfl) ?_
 simp
end Go.Mch
namespace Go.Mch

structure Rck (n:Nat) (T:Nat→Nat→Nat):Prop where
 r:∀ x y,x<n→y<n→T x y<n
 i:∀ x y y',x<n→y<n→y'<n→T x y=T x y'→y=y'
 sd:∀ x y z,x<n→y<n→z<n→T x (T y z)=T (T x y) (T x z)
structure Aut (n:Nat) (T:Nat→Nat→Nat) (P Q:Nat→Nat):Prop where
 p:∀ x,x<n→P x<n
 q:∀ x,x<n→Q x<n
 pq:∀ x,x<n→P (Q x)=x
 qp:∀ x,x<n→Q (P x)=x
 a:∀ x y,x<n→y<n→P (T x y)=T (P x) (P y)
theorem Aut.back {n:Nat} {T:Nat→Nat→Nat} {P Q:Nat→Nat} (h:Aut n T P Q) (ht:Rck n T) {x y:Nat} (hx:x<n) (hy:y<n):Q (T x y)=T (Q x) (Q y):=by
 have qx:=h.q x hx
 have qy:=h.q y hy
 have e:=h.a (Q x) (Q y) qx qy
 rw [h.pq x hx,h.pq y hy] at e
 rw [← e,h.qp _ (ht.r _ _ qx qy)]
theorem tw_nd {n:Nat} {T:Nat→Nat→Nat} {P Q:Nat→Nat} (h:Aut n T P Q) (ht:Rck n T):Nd n (fun _ y=>P y) (fun y x=>Q (T (P y) x)):=by
 have rt:∀ y x,y<n→x<n→Q (T (P y) x)<n:=fun y x hy hx=>h.q _ (ht.r _ _ (h.p _ hy) hx)
 have iS:∀ y y',y<n→y'<n→P y=P y'→y=y':=fun y y' h1 h2 he=>by
  have:=congrArg Q he
  rwa [h.qp y h1,h.qp y' h2] at this
 have it:∀ x y y',x<n→y<n→y'<n→Q (T (P x) y)=Q (T (P x) y')→y=y':=fun x y y' hx h1 h2 he=>by
  have:=congrArg P he
  rw [h.pq _ (ht.r _ _ (h.p _ hx) h1),h.pq _ (ht.r _ _ (h.p _ hx) h2)] at this
  exact ht.i _ _ _ (h.p _ hx) h1 h2 this
 refine ⟨fun _ y _ hy=>h.p y hy,rt,fun _ y y' _ h1 h2 he=>iS y y' h1 h2 he,it,fun x w _ hw=>⟨Q w,h.q w hw,h.pq w hw⟩,fun x w hx hw=>surj_of_inj (fun y hy=>rt x y hx hy) (fun y y' h1 h2=>it x y y' hx h1 h2) w hw,fun _ _ _ _ _ _=>rfl,?_,?_⟩
 · intro x y z hx hy hz
   show Q (T (P (P z)) (P y))=P (Q (T (P z) y))
   have pz:=h.p z hz
   rw [h.pq _ (ht.r _ _ pz hy),← h.a _ _ pz hy,h.qp _ (ht.r _ _ pz hy)]
 · intro x y z hx hy hz
   show Q (T (P z) (Q (T (P y) x)))=Q (T (P (Q (T (P z) y))) (Q (T (P (P z)) x)))
   have py:=h.p y hy
   have pz:=h.p z hz
   have ppz:=h.p _ pz
   have qx:=h.q x hx
   have qy:=h.q y hy
   have qqx:=h.q _ qx
   have t1:=ht.r _ _ py hx
   have t2:=ht.r _ _ pz hy
   have t3:=ht.r _ _ ppz hx
   rw [h.pq _ t2,h.back ht pz (h.q _ t1),h.qp z hz,h.back ht t2 (h.q _ t3),h.back ht pz hy,h.qp z hz]
   rw [h.back ht py hx,h.qp y hy,h.back ht ppz hx,h.qp _ pz,h.back ht (x:=y) (y:=Q x) hy qx,h.back ht (x:=P z) (y:=Q x) pz qx,h.qp z hz]
   exact ht.sd z (Q y) (Q (Q x)) hz qy qqx

theorem rck_of {t:List (List Int)} (h:isRk t):Rck t.length (σN t):=by
 have ht:Tab t:=h.1.2.2
 have h0:0<t.length:=h.1.1
 have hv:∀ x y,((σN t x y:Nat):Int)=v2 t x y∧σN t x y<t.length:=fun x y=>by
  have h1:=ht.nonneg x y
  have h2:=ht.lt h0 x y
  unfold σN
  omega
 refine ⟨fun x y _ _=>(hv x y).2,fun x y y' hx h1 h2 he=>?_,fun x y z hx hy hz=>congrArg Int.toNat (h.2.2 x y z hx hy hz)⟩
 have hr:=h.2.1 t[x] (List.getElem_mem hx)
 have hl:=(ht t[x] (List.getElem_mem hx)).1
 have e:t.getD x []=t[x]:=by simp [hx]
 refine row_inj hr (by omega) (by omega) ?_
 have a1:=(hv x y).1
 have a2:=(hv x y').1
 simp only [v2,e] at a1 a2
 omega
theorem v2_int {t:List (List Int)} (h:isRk t) (x y:Nat):v2 t x y=(σN t x y:Int):=by
 have h1:=(show Tab t from h.1.2.2).nonneg x y
 unfold σN
 omega
def pN (p:List Int) (x:Nat):Nat:=(p.getD x 0).toNat
theorem pN_at {p:List Int} (h:Pm p) {x:Nat} (hx:x<p.length):p.getD x 0=(pN p x:Int)∧pN p x<p.length∧p[x]=(pN p x:Int):=by
 have hr:=h.inL _ (List.getElem_mem hx)
 have e:p.getD x 0=p[x]:=by simp [hx]
 unfold pN
 rw [e]
 omega
theorem aut_of {t:List (List Int)} {p:List Int} (h:isRk t) (hl:p.length=t.length) (hp:j1m p) (he:imT t p=t):Pm p∧Aut t.length (σN t) (pN p) (invQ p):=by
 have ht:Tab t:=h.1.2.2
 have pm:Pm p:=⟨hp,by have:=h.1.1;omega,by have:=h.1.2.1;omega⟩
 have qp:∀ x,x<t.length→invQ p (pN p x)=x:=fun x hx=>by
  have hxp:x<p.length:=by omega
  have:=pm.back hxp
  rwa [(pN_at pm hxp).2.2,Int.toNat_natCast] at this
 have pl:∀ x,x<t.length→pN p x<t.length:=fun x hx=>by have:=(pN_at pm (x:=x) (by omega)).2.1;omega
 refine ⟨pm,⟨pl,fun x hx=>by have:=pm.lt (x:=x) (by omega);omega,fun x hx=>?_,qp,fun x y hx hy=>?_⟩⟩
 · have:=pm.at (x:=x) (by omega)
   rw [pN,this]
   simp
 · have hk:=rck_of h
   have px:=pl x hx
   have py:=pl y hy
   have e:v2 (imT t p) (pN p x) (pN p y)=imG t p (pN p x) (pN p y):=v2_tabL px py
   rw [he,imG,qp x hx,qp y hy,v2_int h x y,Int.toNat_natCast] at e
   unfold pN σN at *
   rw [e]
theorem tw_tabs {t:List (List Int)} {p:List Int} (h:isRk t) (hl:p.length=t.length) (hp:j1m p) (he:imT t p=t) :
 twF p=tabL t.length (fun _ y=>(pN p y:Int))∧twS t p=tabL t.length fun x y=>(invQ p (σN t (pN p y) x):Int):=by
 obtain ⟨pm,ha⟩:=aut_of h hl hp he
 constructor
 · unfold twF
   rw [hl]
   exact tabL_congr fun x y hx hy=>(pN_at pm (x:=y) (by omega)).1
 · unfold twS
   rw [hl]
   refine tabL_congr fun x y hx hy=>?_
   unfold twH
   rfl
theorem inj_nd {f s:List (List Int)} (h:PM f s) (hn:∀ x y x' y',x<f.length→y<f.length→x'<f.length→y'<f.length→σN f x y=σN f x' y'→τN s y x=τN s y' x'→x=x'∧y=y'):Inj f s:=by
 rw [inj_ld h]
 intro a b ha hb he
 have h0:=h.pos
 have a1:a / f.length<f.length:=(Nat.div_lt_iff_lt_mul h0).2 ha
 have b1:b / f.length<f.length:=(Nat.div_lt_iff_lt_mul h0).2 hb
 have a2:a % f.length<f.length:=Nat.mod_lt _ h0
 have b2:b % f.length<f.length:=Nat.mod_lt _ h0
 unfold ldN at he
 have l1:=(h.v2s (a / f.length) (a % f.length)).2
 have l2:=(h.v2s (b / f.length) (b % f.length)).2
 have e1:=congrArg (· / f.length) he
 have e2:=congrArg (· % f.length) he
 simp only [Nat.mul_add_mod_of_lt l1,Nat.mul_add_mod_of_lt l2] at e2
 simp only [Nat.mul_comm _ f.length,Nat.mul_add_div h0,Nat.div_eq_of_lt l1,Nat.div_eq_of_lt l2,Nat.add_zero] at e1
 obtain ⟨h1,h2⟩:=hn _ _ _ _ a1 a2 b1 b2 e1 e2
 have q1:=Nat.div_add_mod a f.length
 have q2:=Nat.div_add_mod b f.length
 rw [h1,h2] at q1
 omega
theorem pair_of {f s:List (List Int)} (h:PM f s):isPairMap f s :=
 ⟨⟨by have:=h.pos;omega,by have:=h.small;omega,h.tf⟩,⟨by have:=h.pos;have:=h.len;omega,by have:=h.small;have:=h.len;omega,h.ts⟩,h.len.symm⟩
theorem reg_of {f s:List (List Int)} (h:Rg f s) (hi:Inj f s):isReg f s:=⟨⟨pair_of h.1,hi,h.2.1⟩,h.2.2⟩
theorem tw_reg {t:List (List Int)} {p:List Int} (h:isRk t) (hl:p.length=t.length) (hp:j1m p) (he:imT t p=t):isReg (twF p) (twS t p)∧raT (twF p) (twS t p)=t:=by
 obtain ⟨pm,ha⟩:=aut_of h hl hp he
 have hk:=rck_of h
 have nd:=tw_nd ha hk
 have h0:=h.1.1
 have h12:=h.1.2.1
 obtain ⟨e1,e2⟩:=tw_tabs h hl hp he
 have rg:=rg_tab nd (by omega) (by omega)
 have rg2:Rg (twF p) (twS t p):=by rw [e1,e2];exact rg
 have fl:(twF p).length=t.length:=by rw [e1];simp
 have s1:∀ x y,x<t.length→y<t.length→σN (twF p) x y=pN p y:=fun x y hx hy=>by
  unfold σN;rw [e1,v2_tabL hx hy];simp
 have s2:∀ x y,x<t.length→y<t.length→τN (twS t p) y x=invQ p (σN t (pN p y) x):=fun x y hx hy=>by
  unfold τN;rw [e2,v2_tabL hx hy];simp
 refine ⟨reg_of rg2 (inj_nd rg2.1 ?_),?_⟩
 · rw [fl]
   intro x y x' y' hx hy hx' hy' g1 g2
   rw [s1 _ _ hx hy,s1 _ _ hx' hy'] at g1
   obtain rfl:y=y':=nd.is x _ _ hx hy hy' g1
   rw [s2 _ _ hx hy,s2 _ _ hx' hy'] at g2
   exact ⟨nd.it y _ _ hy hx hx' g2,rfl⟩
 · have ht:Tab t:=h.1.2.2
   rw [raT,fl,tab_eq (t:=t) (n:=t.length) rfl fun r hr=>(ht r hr).1]
   simp only [tabL_length]
   refine tabL_congr fun x y hx hy=>?_
   have er:(twF p).getD y []=p:=by
    rw [e1]
    have hy':y<(tabL t.length fun _ y=>(pN p y:Int)).length:=by simpa using hy
    rw [List.getD_eq_getElem?_getD,List.getElem?_eq_getElem hy']
    show ((List.range t.length).map fun x=>(List.range t.length).map fun y=>((pN p y:Nat):Int))[y]'(by simpa using hy)=p
    rw [List.getElem_map]
    apply List.ext_getElem
    · simp [hl]
    · intro i g1 g2
      simp [(pN_at pm g2).2.2]
   have et:tabL t.length (v2 t)=t:=(tab_eq (t:=t) (n:=t.length) rfl fun r hr=>(ht r hr).1).symm
   rw [et]
   have qx:=ha.q x hx
   unfold raV
   rw [er]
   have k1:v2 (twS t p) y (invQ p x)=(invQ p (σN t (pN p (invQ p x)) y):Int):=by rw [e2];exact v2_tabL hy qx
   rw [show (ixOf p (x:Int)).toNat=invQ p x from rfl,k1,ha.pq x hx,Int.toNat_natCast]
   have k2:v2 (twF p) x (invQ p (σN t x y))=(pN p (invQ p (σN t x y)):Int):=by rw [e1];exact v2_tabL hx (ha.q _ (hk.r _ _ hx hy))
   rw [k2,ha.pq _ (hk.r _ _ hx hy)]
   exact (v2_int h x y).symm
end Go.Mch
namespace Go.Mch

def ra (f s:List (List Int)) (x y:Nat):Nat:=σN (raT f s) x y
theorem ra_v {f s:List (List Int)} (h:PM f s) {x y:Nat} (hx:x<f.length) (hy:y<f.length):v2 (raT f s) x y=raV f s x y∧(ra f s x y:Int)=raV f s x y∧ra f s x y<f.length:=by
 have e:v2 (raT f s) x y=raV f s x y:=v2_tabL hx hy
 have hr:=raV_in h x y
 unfold ra σN
 rw [e]
 exact ⟨rfl,by omega,by omega⟩
theorem ixOf_row {f s:List (List Int)} (h:PM f s) (hn:permRows f) {a b:Nat} (ha:a<f.length) (hb:b<f.length):ixOf (f.getD a []) (σN f a b:Int)=b:=by
 have e:f.getD a []=f[a]:=by simp [ha]
 have hr:=hn _ (List.getElem_mem ha)
 have hl:=h.tf.row ha
 have h1:=(h.v2f a b).1
 rw [e]
 have hm:(σN f a b:Int)∈f[a]:=by
  rw [h1,v2,e,List.getD_eq_getElem?_getD,List.getElem?_eq_getElem (by omega)]
  exact List.getElem_mem _
 obtain ⟨i1,i2⟩:=ixOf_in hm
 have hg:=ixOf_getD f[a] (σN f a b:Int) i1
 have:(ixOf f[a] (σN f a b:Int)).toNat=b:=by
  refine row_inj hr (by omega) (by omega) ?_
  rw [hg,h1,v2,e]
 omega
theorem ra_at {f s:List (List Int)} (h:Rg f s) {a b:Nat} (ha:a<f.length) (hb:b<f.length):ra f s (σN f a b) a=σN f (σN f a b) (τN s b a):=by
 have e:=(ra_v h.1 (h.1.v2f a b).2 ha).2.1
 unfold raV at e
 rw [ixOf_row h.1 h.2.2.1 ha hb,Int.toNat_natCast] at e
 have h2:=h.1.v2s a b
 have h3:=h.1.v2f (σN f a b) (τN s b a)
 rw [← h2.1,Int.toNat_natCast,← h3.1] at e
 omega
theorem ra_lt {f s:List (List Int)} (h:PM f s) (x y:Nat):ra f s x y<f.length:=by
 have ht:=raT_tab h
 have h0:=h.pos
 have:=ht.lt (by simpa using h0) x y
 have:=ht.nonneg x y
 simp only [raT_length] at *
 unfold ra σN
 omega
theorem ra_aut {f s:List (List Int)} (h:Rg f s) {c x y:Nat} (hc:c<f.length) (hx:x<f.length) (hy:y<f.length):σN f c (ra f s x y)=ra f s (σN f c x) (σN f c y):=by
 have nd:=nd_of h
 obtain ⟨b,hb,rfl⟩:=nd.ss y x hy hx
 have tcy:=nd.rt y c hy hc
 have e1:=nd.e1 c y b hc hy hb
 have e2:=nd.e2 c y b hc hy hb
 have hb':=nd.rs (τN s y c) b tcy hb
 have ha':=nd.rs c y hc hy
 rw [ra_at h hy hb,← e1,ra_at h ha' hb',e2]
 have hx':=nd.rs y b hy hb
 have tb:=nd.rt b y hb hy
 have e3:=nd.e1 c (σN f y b) (τN s b y) hc hx' tb
 rw [← e3,e1]


theorem g2_nat {f s:List (List Int)} (h:PM f s) (x y:Int):g2 f x y=(σN f x.toNat y.toNat:Int)∧g2 s x y=(τN s y.toNat x.toNat:Int):=⟨(h.v2f _ _).1.symm,(h.v2s _ _).1.symm⟩
theorem g2_ra {f s:List (List Int)} (h:PM f s) (x y:Int):g2 (raT f s) x y=(ra f s x.toNat y.toNat:Int):=by
 have:=(raT_tab h).nonneg x.toNat y.toNat
 unfold g2 ra σN
 omega
theorem gm_cons (f:List (List Int)) (x:Int) (w:List Int):gmL f (x::w)=x::(gmL f w).map (g2 f x):=by
 unfold gmL
 rw [List.length_cons,List.range_succ_eq_map]
 simp
theorem gm_nil (f:List (List Int)):gmL f []=[]:=rfl
@[simp] theorem gm_length (f:List (List Int)) (w:List Int):(gmL f w).length=w.length:=by simp [gmL]
theorem gm_app (f:List (List Int)) (u w:List Int):gmL f (u++w)=gmL f u++(gmL f w).map fun x=>u.foldr (g2 f) x:=by
 induction u with
 | nil=>simp [gm_nil]
 | cons a u ih=>simp [gm_cons,ih]
theorem gm_in {f s:List (List Int)} (h:PM f s) {w:List Int} (hw:inN f.length w):inN f.length (gmL f w):=by
 induction w with
 | nil=>exact hw
 | cons a w ih =>
  rw [gm_cons]
  intro v hv
  rcases List.mem_cons.1 hv with rfl | hv
  · exact hw _ List.mem_cons_self
  · obtain ⟨x,_,rfl⟩:=List.mem_map.1 hv
    exact h.gF _ _
theorem dW_mid (f s:List (List Int)) (u v:List Int) (a b:Int):dW f s (u++a::b::v) u.length=u++g2 f a b::g2 s a b::v:=by
 simp [dW,List.getD_eq_getElem?_getD]
theorem rW_mid (t:List (List Int)) (u v:List Int) (a b:Int):rW t (u++a::b::v) u.length=u++b::g2 t b a::v:=by
 simp [rW,List.getD_eq_getElem?_getD]
theorem cut_at {w:List Int} {k:Nat} (hk:k+1<w.length):∃ u a b v,w=u++a::b::v∧u.length=k:=by
 refine ⟨w.take k,w[k],w[k+1],w.drop (k+2),?_,by simp;omega⟩
 rw [← List.drop_eq_getElem_cons (i:=k+1),← List.drop_eq_getElem_cons,List.take_append_drop]
theorem fold_aut {f s:List (List Int)} (h:Rg f s):∀ (u:List Int) (x y:Int),inN f.length u→(0≤x∧x<f.length)→(0≤y∧y<f.length) →
 u.foldr (g2 f) (g2 (raT f s) x y)=g2 (raT f s) (u.foldr (g2 f) x) (u.foldr (g2 f) y):=by
 intro u x y hu hx hy
 induction u with
 | nil=>rfl
 | cons a u ih =>
  have hu':inN f.length u:=fun v hv=>hu v (List.mem_cons_of_mem _ hv)
  have ha:=hu a List.mem_cons_self
  have hX:=foldg_in h.1 u hx
  have hY:=foldg_in h.1 u hy
  simp only [List.foldr_cons]
  rw [ih hu']
  generalize u.foldr (g2 f) x=X at *
  generalize u.foldr (g2 f) y=Y at *
  rw [g2_ra h.1,(g2_nat h.1 a _).1,Int.toNat_natCast,ra_aut h (by omega) (by omega) (by omega),(g2_nat h.1 a X).1,(g2_nat h.1 a Y).1,g2_ra h.1,Int.toNat_natCast,Int.toNat_natCast]
theorem gm_move {f s:List (List Int)} (h:Rg f s) {w:List Int} (hw:inN f.length w) {k:Nat} (hk:k+1<w.length):gmL f (dW f s w k)=rW (raT f s) (gmL f w) k:=by
 obtain ⟨u,a,b,v,rfl,rfl⟩:=cut_at hk
 have hu:inN f.length u:=fun v hv=>hw v (by simp [hv])
 have ha:=hw a (by simp)
 have hb:=hw b (by simp)
 have hv:inN f.length v:=fun x hx=>hw x (by simp [hx])
 have nd:=nd_of h
 obtain ⟨A,rfl⟩:∃ A:Nat,a=A:=⟨a.toNat,by omega⟩
 obtain ⟨B,rfl⟩:∃ B:Nat,b=B:=⟨b.toNat,by omega⟩
 have hA:A<f.length:=by omega
 have hB:B<f.length:=by omega
 rw [dW_mid,gm_app,gm_app]
 simp only [gm_cons,List.map_cons]
 have hl:(gmL f u).length=u.length:=by simp
 rw [← hl,rW_mid]
 have e0:=(g2_nat h.1 A B).1
 have e1:=(g2_nat h.1 A B).2
 simp only [Int.toNat_natCast] at e0 e1
 have e2:g2 (raT f s) (u.foldr (g2 f) (g2 f A B)) (u.foldr (g2 f) A)=u.foldr (g2 f) (g2 f (g2 f A B) (g2 s A B)):=by
  rw [← fold_aut h u _ _ hu (h.1.gF _ _) ha,e0,e1,g2_ra h.1,(g2_nat h.1 _ _).1]
  simp only [Int.toNat_natCast]
  rw [ra_at h hA hB]
 rw [e2,e0,e1]
 simp only [List.map_map]
 congr 3
 refine List.map_congr_left fun x hx=>?_
 simp only [Function.comp]
 have hx:=gm_in h.1 hv x hx
 obtain ⟨X,rfl⟩:∃ X:Nat,x=X:=⟨x.toNat,by omega⟩
 have e3:=nd.e1 A B X hA hB (by omega)
 rw [(g2_nat h.1 (τN s B A:Int) X).1,(g2_nat h.1 (σN f A B:Int) _).1,(g2_nat h.1 (B:Int) X).1,(g2_nat h.1 (A:Int) _).1]
 simp only [Int.toNat_natCast]
 rw [e3]
theorem gb_fold {f s:List (List Int)} (h:PM f s) (hn:permRows f):∀ (u:List Int) (x:Int),inN f.length u→(0≤x∧x<f.length)→u.foldl (fun x o=>ixOf (f.getD o.toNat []) x) (u.foldr (g2 f) x)=x:=by
 intro u x hu hx
 induction u with
 | nil=>rfl
 | cons a u ih =>
  have hu':inN f.length u:=fun v hv=>hu v (List.mem_cons_of_mem _ hv)
  have ha:=hu a List.mem_cons_self
  have hX:=foldg_in h u hx
  simp only [List.foldr_cons,List.foldl_cons]
  rw [(g2_nat h a _).1,ixOf_row h hn (by omega) (by omega),Int.toNat_of_nonneg hX.1]
  exact ih hu'
theorem gb_gm {f s:List (List Int)} (h:PM f s) (hn:permRows f) {w:List Int} (hw:inN f.length w):∀ k,k≤w.length→gbL f (gmL f w) k=w.take k:=by
 intro k hk
 induction k with
 | zero=>simp [gbL]
 | succ k ih =>
  have hk':k<w.length:=by omega
  rw [gbL,ih (by omega),List.take_succ_eq_append_getElem hk']
  congr 2
  have e:(gmL f w).getD k 0=(w.take k).foldr (g2 f) w[k]:=by
   rw [List.getD_eq_getElem?_getD,List.getElem?_eq_getElem (by simpa using hk')]
   simp [gmL,hk']
  rw [e]
  exact gb_fold h hn _ _ (fun v hv=>hw v (List.mem_of_mem_take hv)) (hw _ (List.getElem_mem hk'))
theorem row_sur {f s:List (List Int)} (h:Rg f s) {a:Int} (ha:0≤a∧a<f.length):∀ w:List Int,inN f.length w→∃ v,inN f.length v∧v.length=w.length∧v.map (g2 f a)=w:=by
 have nd:=nd_of h
 intro w
 induction w with
 | nil=>intro _;exact ⟨[],by intro x hx;simp at hx,rfl,rfl⟩
 | cons b w ih =>
  intro hw
  obtain ⟨v,v1,v2,v3⟩:=ih fun x hx=>hw x (List.mem_cons_of_mem _ hx)
  have hb:=hw b List.mem_cons_self
  obtain ⟨y,y1,y2⟩:=nd.ss a.toNat b.toNat (by omega) (by omega)
  refine ⟨(y:Int)::v,fun x hx=>?_,by simp [v2],?_⟩
  · rcases List.mem_cons.1 hx with rfl | hx
    · omega
    · exact v1 x hx
  · rw [List.map_cons,v3,(g2_nat h.1 _ _).1,Int.toNat_natCast,y2,Int.toNat_of_nonneg hb.1]
theorem gm_sur {f s:List (List Int)} (h:Rg f s):∀ (n:Nat) (w:List Int),w.length=n→inN f.length w→∃ v,inN f.length v∧v.length=w.length∧gmL f v=w:=by
 intro n
 induction n with
 | zero=>intro w hl _;exact ⟨[],by intro x hx;simp at hx,by simp [hl],by rw [List.length_eq_zero_iff.1 hl];rfl⟩
 | succ n ih =>
  intro w hl hw
  obtain ⟨a,w,rfl⟩:∃ a v,w=a::v:=by cases w with
   | nil=>simp at hl
   | cons a v=>exact ⟨a,v,rfl⟩
  have ha:=hw a List.mem_cons_self
  obtain ⟨u,u1,u2,u3⟩:=row_sur h ha w fun x hx=>hw x (List.mem_cons_of_mem _ hx)
  simp only [List.length_cons] at hl
  obtain ⟨v,v1,v2,v3⟩:=ih u (by omega) u1
  refine ⟨a::v,fun x hx=>?_,by simp [v2,u2],by rw [gm_cons,v3,u3]⟩
  rcases List.mem_cons.1 hx with rfl | hx
  · exact ha
  · exact v1 x hx
theorem gm_inj {f s:List (List Int)} (h:Rg f s) {v w:List Int} (hv:inN f.length v) (hw:inN f.length w) (he:gmL f v=gmL f w):v=w:=by
 have hl:=congrArg List.length he
 simp only [gm_length] at hl
 have h1:=gb_gm h.1 h.2.2.1 hv v.length (Nat.le_refl _)
 have h2:=gb_gm h.1 h.2.2.1 hw w.length (Nat.le_refl _)
 rw [List.take_length] at h1 h2
 rw [← h1,← h2,he,hl]


theorem ra_sd {f s:List (List Int)} (h:Rg f s) {p q r:Nat} (hp:p<f.length) (hq:q<f.length) (hr:r<f.length):ra f s r (ra f s q p)=ra f s (ra f s r q) (ra f s r p):=by
 have hw:inN f.length [(p:Int),q,r]:=w3_in hp hq hr
 obtain ⟨w,w1,w2,w3⟩:=gm_sur h 3 _ rfl hw
 obtain ⟨x,y,z,rfl⟩:∃ x y z,w=[x,y,z]:=by
  match w,w2 with
  | [x,y,z],_=>exact ⟨x,y,z,rfl⟩
 have hx:=w1 x (by simp)
 have hy:=w1 y (by simp)
 have hz:=w1 z (by simp)
 have hyb:=h.2.1 x.toNat y.toNat z.toNat (by omega) (by omega) (by omega)
 unfold ybAt at hyb
 rw [Int.toNat_of_nonneg hx.1,Int.toNat_of_nonneg hy.1,Int.toNat_of_nonneg hz.1] at hyb
 have he:=congrArg (gmL f) hyb
 have i1:=fun i=>dW_in h.1 w1 i
 have i2:=fun i j=>dW_in h.1 (i1 i) j
 rw [gm_move h (i2 0 1) (by simp),gm_move h (i1 0) (by simp),gm_move h w1 (by simp),gm_move h (i2 1 0) (by simp),gm_move h (i1 1) (by simp),gm_move h w1 (by simp),w3] at he
 have e:∀ a b:Int,g2 (raT f s) a b=(ra f s a.toNat b.toNat:Int):=g2_ra h.1
 simp [rW,e] at he
 omega
theorem ra_inj {f s:List (List Int)} (h:Rg f s) (hi:Inj f s) {x y y':Nat} (hx:x<f.length) (hy:y<f.length) (hy':y'<f.length) (he:ra f s x y=ra f s x y'):y=y':=by
 have nd:=nd_of h
 obtain ⟨b,hb,hbx⟩:=nd.ss y x hy hx
 obtain ⟨c,hc,hcx⟩:=nd.ss y' x hy' hx
 have e1:=ra_at h hy hb
 have e2:=ra_at h hy' hc
 rw [hbx] at e1
 rw [hcx] at e2
 rw [e1,e2] at he
 have he:=nd.is x _ _ hx (nd.rt b y hb hy) (nd.rt c y' hc hy') he
 refine (inj_pair hi hy hb hy' hc ?_ ?_).1
 · rw [← (h.1.v2f y b).1,← (h.1.v2f y' c).1,hbx,hcx]
 · rw [← (h.1.v2s y b).1,← (h.1.v2s y' c).1,he]
theorem ra_rck {f s:List (List Int)} (h:Rg f s) (hi:Inj f s):isRk (raT f s):=by
 have h0:=h.1.pos
 have h12:=h.1.small
 refine ⟨⟨by simp;omega,by simp;omega,raT_tab h.1⟩,?_,?_⟩
 · intro r hr
   have:raT f s=tabL f.length fun x y=>(ra f s x y:Int):=tabL_congr fun x y hx hy=>(ra_v h.1 hx hy).2.1.symm
   rw [this] at hr
   simp only [tabL,List.mem_map,List.mem_range] at hr
   obtain ⟨x,hx,rfl⟩:=hr
   exact permuted_row (fun y _=>ra_lt h.1 x y) fun y y' h1 h2 he=>ra_inj h hi hx h1 h2 he
 · intro x y z hx hy hz
   simp only [raT_length] at hx hy hz
   have hv:∀ a b:Nat,v2 (raT f s) a b=(ra f s a b:Int):=fun a b=>by
    have:=(raT_tab h.1).nonneg a b
    unfold ra σN
    omega
   unfold sdAt
   simp only [hv,Int.toNat_natCast]
   rw [ra_sd h hz hy hx]
end Go.Mch
namespace Go.Mch

def visW (st:List Bool×List Nat) (w:Nat):List Bool×List Nat:=if st.1.getD w false then st else (st.1.set w true,st.2++[w])
def left (st:List Bool×List Nat):Nat:=st.1.count false+st.2.length
@[simp] theorem visW_length (st:List Bool×List Nat) (w:Nat):(visW st w).1.length=st.1.length:=by unfold visW;split <;> simp
theorem visL_length (ws:List Nat) (st:List Bool×List Nat):(ws.foldl visW st).1.length=st.1.length:=by
 induction ws generalizing st with
 | nil=>rfl
 | cons w ws ih=>simp [ih]
theorem count_set {l:List Bool}:∀ {w:Nat},w<l.length→l.getD w false=false→(l.set w true).count false+1=l.count false:=by
 induction l with
 | nil=>intro w h;simp at h
 | cons b l ih =>
  intro w h h2
  cases w with
  | zero=>simp at h2;subst h2;simp
  | succ w =>
   have:=ih (w:=w) (by simpa using h) (by simpa using h2)
   cases b <;> simp <;> omega
theorem visW_left {st:List Bool×List Nat} {w:Nat} (h:w<st.1.length):left (visW st w)=left st:=by
 unfold visW
 split
 · rfl
 · rename_i h2
   have:=count_set h (by simpa using h2)
   simp only [left,List.length_append,List.length_cons,List.length_nil]
   omega
theorem visL_left {ws:List Nat}:∀ {st:List Bool×List Nat},(∀ w∈ws,w<st.1.length)→left (ws.foldl visW st)=left st:=by
 induction ws with
 | nil=>intro st _;rfl
 | cons w ws ih =>
  intro st h
  simp only [List.foldl_cons]
  rw [ih (fun v hv=>by simp;exact h v (by simp [hv])),visW_left (h w (by simp))]
def bfsF (nb:Nat→List Nat):Nat→List Bool→List Nat→List Bool
 | 0,s,_=>s
 | _+1,s,[]=>s
 | f+1,s,v::q=>bfsF nb f ((nb v).foldl visW (s,q)).1 ((nb v).foldl visW (s,q)).2
def orbC (nb:Nat→List Nat) (N:Nat):Nat→List Bool×Int
 | 0=>(List.replicate N false,0)
 | k+1=>if (orbC nb N k).1.getD k false then orbC nb N k else (bfsF nb (N+1) ((orbC nb N k).1.set k true) [k],(orbC nb N k).2+1)
theorem bfsF_length (nb:Nat→List Nat):∀ (f:Nat) (s:List Bool) (q:List Nat),(bfsF nb f s q).length=s.length
 | 0,_,_=>rfl
 | _+1,_,[]=>rfl
 | f+1,s,v::q=>by rw [bfsF,bfsF_length nb f,visL_length]
@[simp] theorem orbC_length (nb:Nat→List Nat) (N k:Nat):(orbC nb N k).1.length=N:=by
 induction k with
 | zero=>simp [orbC]
 | succ k ih=>unfold orbC;split <;> simp [ih,bfsF_length]

def digT (n m v:Nat):List Int:=(List.range m).map fun j=>((v / n ^ (m-1-j) % n:Nat):Int)
@[simp] theorem digT_length (n m v:Nat):(digT n m v).length=m:=by simp [digT]
theorem digT_rng {n m v:Nat} (hn:0<n):inN n (digT n m v):=fun x hx=>by
 simp only [digT,List.mem_map,List.mem_range] at hx
 obtain ⟨j,_,rfl⟩:=hx
 have:=Nat.mod_lt (v / n ^ (m-1-j)) hn
 omega
def numT (n:Nat) (w:List Int):Int:=w.foldl (fun a x=>a*n+x) 0
theorem numT_snoc (n:Nat) (w:List Int) (x:Int):numT n (w++[x])=numT n w*n+x:=by simp [numT]
theorem numT_rng {n:Nat} {w:List Int} (hw:inN n w):∀ k,k≤w.length→0≤numT n (w.take k)∧numT n (w.take k)<((n ^ k:Nat):Int):=by
 intro k
 induction k with
 | zero=>intro _;simp [numT]
 | succ k ih =>
  intro hk
  obtain ⟨h1,h2⟩:=ih (by omega)
  have hx:=hw _ (List.getElem_mem (show k<w.length by omega))
  rw [List.take_succ_eq_append_getElem (by omega),numT_snoc,Nat.pow_succ,Int.natCast_mul]
  constructor
  · have:=Int.mul_nonneg h1 (show (0:Int)≤n by omega)
    omega
  · have h3:numT n (w.take k)+1≤((n ^ k:Nat):Int):=by omega
    have:=Int.mul_le_mul_of_nonneg_right h3 (show (0:Int)≤n by omega)
    rw [Int.add_mul,Int.one_mul] at this
    omega
def nbT (f s:List (List Int)) (m v:Nat):List Nat:=(List.range (m-1)).map fun i=>(numT f.length (dW f s (digT f.length m v) i)).toNat
theorem num_mv {f s:List (List Int)} (h:PM f s) {m v:Nat} (i:Nat):0≤numT f.length (dW f s (digT f.length m v) i)∧numT f.length (dW f s (digT f.length m v) i)<((f.length ^ m:Nat):Int):=by
 have:=numT_rng (dW_in h (digT_rng (n:=f.length) (m:=m) (v:=v) h.pos) i) m (by simp [dW_length])
 rwa [List.take_of_length_le (by simp [dW_length])] at this
theorem nbT_rng {f s:List (List Int)} (h:PM f s) {m v:Nat}:∀ w∈nbT f s m v,w<f.length ^ m:=fun w hw=>by
 simp only [nbT,List.mem_map,List.mem_range] at hw
 obtain ⟨i,_,rfl⟩:=hw
 have:=num_mv h (m:=m) (v:=v) i
 omega

def digP (n m v c:Nat):List Int:=(List.range m).map fun j=>if m-c≤j then ((v / n ^ (m-1-j) % n:Nat):Int) else 0
@[simp] theorem digP_length (n m v c:Nat):(digP n m v c).length=m:=by simp [digP]
theorem digP_zero (n m v:Nat):digP n m v 0=List.replicate m 0:=by
 apply List.ext_getElem
 · simp
 · intro i h1 h2
   have:¬m≤i:=by simpa using h1
   simp [digP,this]
theorem digP_all (n m v:Nat):digP n m v m=digT n m v:=by
 apply List.map_congr_left
 intro j _
 rw [if_pos (by omega)]
theorem digP_succ {n m v c:Nat} (hc:c<m):(digP n m v c).set (m-1-c) ((v / n ^ c % n:Nat):Int)=digP n m v (c+1):=by
 apply List.ext_getElem
 · simp
 · intro i h1 h2
   simp only [digP_length] at h2
   simp only [List.getElem_set,digP,List.getElem_map,List.getElem_range]
   by_cases hi:m-1-c=i
   · rw [if_pos hi,if_pos (by omega),show m-1-i=c from by omega]
   · rw [if_neg hi]
     by_cases h3:m-c≤i
     · rw [if_pos h3,if_pos (by omega)]
     · rw [if_neg h3,if_neg (by omega)]
theorem div_le' (v c n:Nat):v / n ^ c≤v:=Nat.div_le_self _ _
def S_digI (pg:Pg):Prop:=∀ n m v:Nat,0<n→n≤1048576→m≤1048576→v≤1048576→Call pg 262 [I n,I m,I v] [I n,I m,I v] (.mem .own (some 1) ((digT n m v).map I))
theorem t_tupleOf {pg:Pg} (hp:pg.fn 262=some c_impl_tupleOf):S_digI pg:=by
 intro n m v hn hn2 hm hv
 refine Call.intro hp rfl (by simp) ?_
 show wp _ _ c_impl_tupleOf.body (post [.t 6] _ _ _) _
 have hn1:¬n=0:=by omega
 simp [c_impl_tupleOf]
 refine ⟨by unfold roomy;omega,by omega,?_⟩
 refine j0a (fun c e=>e=fr [(0,some (.val (I n))),(2,some (.val (I ((v / n ^ c:Nat):Int)))),(7,some (.val (.mem .own (some 1) ((digP n m v c).map I)))),(8,some (.val (I ((m:Int)-1-c))))]) m ?_ ?_ 0 _ (by omega) ?_
 · rintro c e hc rfl
   have hj:(m:Int)-1-c=((m-1-c:Nat):Int):=by omega
   have hs:=digP_succ (n:=n) (v:=v) hc
   have hd:=div_le' v c n
   have hd2:=div_le' v (c+1) n
   have hmod:((v / n ^ c:Nat):Int).tmod n=((v / n ^ c % n:Nat):Int):=by
    rw [Int.tmod_eq_emod_of_nonneg (Int.natCast_nonneg _)];exact (Int.natCast_emod ..).symm
   have hdiv:((v / n ^ c:Nat):Int).tdiv n=((v / n ^ (c+1):Nat):Int):=by
    rw [Int.tdiv_eq_ediv_of_nonneg (Int.natCast_nonneg _),Nat.pow_succ,← Nat.div_div_eq_div_mul];exact (Int.natCast_ediv ..).symm
   rw [hj]
   rw [show (m:Int)-1-((c+1:Nat):Int)=((m-1-c:Nat):Int)-1 from by omega,← hs]
   have hjm:m-1-c<m:=by omega
   generalize m-1-c=j at *
   generalize v / n ^ c % n=a at *
   generalize v / n ^ (c+1)=b at *
   generalize v / n ^ c=g at *
   simp [hn1,hmod,hdiv,hjm]
   omega
 · rintro e rfl
   have hneg:¬((m:Int)≤(m:Int)-1):=by omega
   simp [digP_all,hneg]
 · simp [digP_zero]

def S_numI (pg:Pg):Prop:=∀ (n:Nat) (w:List Int),inN n w→n≤1048576→w.length≤1048576→n ^ w.length≤1048576→Call pg 263 [I n,ix w] [I n,ix w] (I (numT n w))
theorem pow_le_len {n:Nat} {w:List Int} (hw:inN n w) (h:n ^ w.length≤1048576) {k:Nat} (hk:k≤w.length):n ^ k≤1048576:=by
 rcases Nat.eq_zero_or_pos n with h0 | h0
 · subst h0
   cases k with
   | zero=>simp
   | succ k=>simp
 · exact Nat.le_trans (Nat.pow_le_pow_right h0 hk) h
theorem num_step {n:Nat} {w:List Int} (hw:inN n w) (hn:n≤1048576) (h:n ^ w.length≤1048576) {k:Nat} (hk:k<w.length) :
 0≤numT n (w.take k)*n∧numT n (w.take k)*n≤1099511627776∧0≤w[k]∧w[k]<n∧numT n (w.take (k+1))=numT n (w.take k)*n+w[k]:=by
 obtain ⟨h1,h2⟩:=numT_rng hw k (by omega)
 have h3:=pow_le_len hw h (show k≤w.length by omega)
 have hx:=hw _ (List.getElem_mem hk)
 refine ⟨Int.mul_nonneg h1 (by omega),?_,hx.1,hx.2,by rw [List.take_succ_eq_append_getElem hk,numT_snoc]⟩
 have:numT n (w.take k)*n≤1048576*1048576:=Int.mul_le_mul (by omega) (by omega) (by omega) (by omega)
 omega
theorem t_numberOf {pg:Pg} (hp:pg.fn 263=some c_impl_numberOf):S_numI pg:=by
 intro n w hw hn hl h
 refine Call.intro hp rfl (by simp) ?_
 show wp _ _ c_impl_numberOf.body (post [.t 4] _ _ _) _
 simp [c_impl_numberOf]
 refine j0a (fun k e=>e=fr [(0,some (.val (I n))),(5,some (.val (I (numT n (w.take k))))),(8,some (.val (ix w))),(9,some (.val (I w.length))),(10,some (.val (I k)))]) w.length ?_ ?_ 0 _ (by omega) ?_
 · rintro k e hk rfl
   obtain ⟨a1,a2,a3,a4,a5⟩:=num_step hw hn h hk
   simp [hk,a5]
   omega
 · rintro e rfl
   simp
 · simp [numT]


def ctOk (f:List (List Int)) (p:Int):Prop:=(0≤p∧p≤12)∧f.length ^ p.toNat≤5000
instance (f:List (List Int)) (p:Int):Decidable (ctOk f p):=by unfold ctOk;infer_instance
theorem pow_step {n k m:Nat} (hn:0<n) (hk:k<m) (h:5000<n ^ (k+1)):¬n ^ m≤5000:=by
 have:=Nat.pow_le_pow_right hn (show k+1≤m by omega)
 omega

end Go.Mch
namespace Go.Mch

def Rt (nb:Nat→List Nat) (a b:Nat):Prop:=∀ S:Nat→Prop,S a→(∀ x y,S x→y∈nb x→S y)→S b
theorem Rt.refl (nb:Nat→List Nat) (a:Nat):Rt nb a a:=fun _ h _=>h
theorem Rt.trans {nb:Nat→List Nat} {a b c:Nat} (h:Rt nb a b) (h2:Rt nb b c):Rt nb a c:=fun S hs hc=>h2 S (h S hs hc) hc
theorem Rt.step {nb:Nat→List Nat} {a b c:Nat} (h:Rt nb a b) (h2:c∈nb b):Rt nb a c:=fun S hs hc=>hc _ _ (h S hs hc) h2
theorem Rt.rng {nb:Nat→List Nat} {N a b:Nat} (hn:∀ x,x<N→∀ y∈nb x,y<N) (h:Rt nb a b) (ha:a<N):b<N:=h (fun x=>x<N) ha fun x y hx hy=>hn x hx y hy

def seen (st:List Bool) (v:Nat):Prop:=st.getD v false=true
theorem seen_set {st:List Bool} {w v:Nat} (hw:w<st.length):seen (st.set w true) v↔v=w∨seen st v:=by
 unfold seen
 by_cases h:w=v
 · subst h
   simp [List.getD_eq_getElem?_getD,List.getElem?_set_self hw]
 · have h2:¬v=w:=fun e=>h e.symm
   simp [List.getD_eq_getElem?_getD,List.getElem?_set_ne h,h2]
theorem vis_seen {st:List Bool×List Nat} {w v:Nat} (hw:w<st.1.length):seen (visW st w).1 v↔v=w∨seen st.1 v:=by
 unfold visW
 split
 · rename_i h
   constructor
   · exact Or.inr
   · rintro (rfl | h2)
     · exact h
     · exact h2
 · exact seen_set hw
theorem visL_seen {ws:List Nat}:∀ {st:List Bool×List Nat} {v:Nat},(∀ w∈ws,w<st.1.length)→(seen (ws.foldl visW st).1 v↔v∈ws∨seen st.1 v):=by
 induction ws with
 | nil=>intro st v _;simp
 | cons w ws ih =>
  intro st v h
  simp only [List.foldl_cons]
  rw [ih (fun x hx=>by simp;exact h x (by simp [hx])),vis_seen (h w (by simp))]
  simp only [List.mem_cons]
  constructor
  · rintro (h1 | h1 | h1)
    · exact Or.inl (Or.inr h1)
    · exact Or.inl (Or.inl h1)
    · exact Or.inr h1
  · rintro ((h1 | h1) | h1)
    · exact Or.inr (Or.inl h1)
    · exact Or.inl h1
    · exact Or.inr (Or.inr h1)
theorem visL_q {ws:List Nat}:∀ {st:List Bool×List Nat},(∀ w∈ws,w<st.1.length)→(∀ v∈st.2,v∈(ws.foldl visW st).2)∧(∀ v∈(ws.foldl visW st).2,v∈st.2∨v∈ws)∧(∀ v,seen (ws.foldl visW st).1 v→seen st.1 v∨v∈(ws.foldl visW st).2):=by
 induction ws with
 | nil=>intro st _;exact ⟨fun v h=>h,fun v h=>Or.inl h,fun v h=>Or.inl h⟩
 | cons w ws ih =>
  intro st h
  simp only [List.foldl_cons]
  obtain ⟨h1,h2,h3⟩:=ih (st:=visW st w) (fun x hx=>by simp;exact h x (by simp [hx]))
  have k1:∀ v∈st.2,v∈(visW st w).2:=fun v hv=>by unfold visW;split <;> simp [hv]
  have k2:∀ v∈(visW st w).2,v∈st.2∨v=w:=fun v hv=>by
   unfold visW at hv
   split at hv
   · exact Or.inl hv
   · rcases List.mem_append.1 hv with hv | hv
     · exact Or.inl hv
     · exact Or.inr (List.mem_singleton.1 hv)
  have k3:∀ v,seen (visW st w).1 v→seen st.1 v∨v∈(visW st w).2:=fun v hv=>by
   by_cases hs:seen st.1 w
   · have:visW st w=st:=by unfold visW;exact if_pos hs
     rw [this] at hv
     exact Or.inl hv
   · rcases (vis_seen (h w (by simp))).1 hv with rfl | hv
     · refine Or.inr ?_
       have:visW st v=(st.1.set v true,st.2++[v]):=by unfold visW;exact if_neg hs
       rw [this]
       simp
     · exact Or.inl hv
  refine ⟨fun v hv=>h1 v (k1 v hv),fun v hv=>?_,fun v hv=>?_⟩
  · rcases h2 v hv with hv | hv
    · rcases k2 v hv with hv | hv
      · exact Or.inl hv
      · exact Or.inr (by simp [hv])
    · exact Or.inr (by simp [hv])
  · rcases h3 v hv with hv | hv
    · rcases k3 v hv with hv | hv
      · exact Or.inl hv
      · exact Or.inr (h1 v hv)
    · exact Or.inr hv
theorem bfs_spec {nb:Nat→List Nat} {N:Nat} (hn:∀ x,x<N→∀ y∈nb x,y<N):∀ (k:Nat) (st:List Bool) (q:List Nat),st.length=N→(∀ v∈q,v<N∧seen st v)→(∀ v,seen st v→v∈q∨∀ w∈nb v,seen st w)→left (st,q)≤k →
 (∀ v,seen st v→seen (bfsF nb k st q) v)∧(∀ v w,seen (bfsF nb k st q) v→w∈nb v→seen (bfsF nb k st q) w)∧(∀ v,seen (bfsF nb k st q) v→seen st v∨∃ u∈q,Rt nb u v):=by
 intro k
 induction k with
 | zero =>
  intro st q hl hq hc hk
  have:q=[]:=by
   cases q with
   | nil=>rfl
   | cons a q=>simp [left] at hk
  subst this
  refine ⟨fun v h=>h,fun v w h hw=>?_,fun v h=>Or.inl h⟩
  rcases hc v h with h1 | h1
  · simp at h1
  · exact h1 w hw
 | succ k ih =>
  intro st q hl hq hc hk
  cases q with
  | nil =>
   refine ⟨fun v h=>h,fun v w h hw=>?_,fun v h=>Or.inl h⟩
   rcases hc v h with h1 | h1
   · simp at h1
   · exact h1 w hw
  | cons a q =>
   have ha:=hq a (by simp)
   have hw:∀ w∈nb a,w<(st,q).1.length:=fun w hw=>by simp only [hl];exact hn a ha.1 w hw
   obtain ⟨q1,q2,q3⟩:=visL_q hw
   have hs:=fun v=>visL_seen (v:=v) hw
   have hlen:=visL_length (nb a) (st,q)
   have hleft:=visL_left hw
   rw [bfsF]
   generalize (nb a).foldl visW (st,q)=Y at *
   simp only at q1 q3 hs hlen
   obtain ⟨g1,g2,g3⟩:=ih Y.1 Y.2 (by omega) (fun v hv=>by
    rcases q2 v hv with h1 | h1
    · exact ⟨(hq v (by simp [h1])).1,(hs v).2 (Or.inr (hq v (by simp [h1])).2)⟩
    · exact ⟨hn a ha.1 v h1,(hs v).2 (Or.inl h1)⟩) (fun v hv=>by
    rcases q3 v hv with h1 | h1
    · rcases hc v h1 with h2 | h2
      · rcases List.mem_cons.1 h2 with rfl | h2
        · exact Or.inr fun w hw=>(hs w).2 (Or.inl hw)
        · exact Or.inl (q1 v h2)
      · exact Or.inr fun w hw=>(hs w).2 (Or.inr (h2 w hw))
    · exact Or.inl h1) (by
    have:left (Y.1,Y.2)=left Y:=rfl
    rw [this,hleft]
    simp only [left,List.length_cons] at hk ⊢
    omega)
   refine ⟨fun v h=>g1 v ((hs v).2 (Or.inr h)),g2,fun v h=>?_⟩
   rcases g3 v h with h1 | ⟨u,hu,h1⟩
   · rcases (hs v).1 h1 with h2 | h2
     · exact Or.inr ⟨a,by simp,(Rt.refl nb a).step h2⟩
     · exact Or.inl h2
   · rcases q2 u hu with h2 | h2
     · exact Or.inr ⟨u,by simp [h2],h1⟩
     · exact Or.inr ⟨a,by simp,((Rt.refl nb a).step h2).trans h1⟩
noncomputable def frs (R:Nat→Nat→Prop) (k:Nat):List Nat:=(List.range k).filter fun v=>dec (∀ u,u<v→¬R u v)
theorem frs_mem {R:Nat→Nat→Prop} {k v:Nat}:v∈frs R k↔v<k∧∀ u,u<v→¬R u v:=by
 unfold frs
 rw [List.mem_filter,List.mem_range]
 by_cases h:∀ u,u<v→¬R u v
 · simp only [j1d h];exact ⟨fun g=>⟨g.1,h⟩,fun g=>⟨g.1,trivial⟩⟩
 · simp only [j02 h];exact ⟨fun g=>absurd g.2 (by simp),fun g=>absurd g.2 h⟩
theorem frs_succ (R:Nat→Nat→Prop) (k:Nat):(frs R (k+1)).length=(frs R k).length+if dec (∀ u,u<k→¬R u k) then 1 else 0:=by
 unfold frs
 rw [List.range_succ,List.filter_append,List.length_append]
 congr 1
 by_cases h:∀ u,u<k→¬R u k
 · simp [j1d h]
 · simp [j02 h]
theorem orbC_spec {nb:Nat→List Nat} {N:Nat} (hn:∀ x,x<N→∀ y∈nb x,y<N):∀ k,k≤N→(∀ v,seen (orbC nb N k).1 v↔∃ u,u<k∧Rt nb u v)∧(orbC nb N k).2=((frs (Rt nb) k).length:Int):=by
 intro k
 induction k with
 | zero =>
  intro _
  refine ⟨fun v=>⟨fun h=>?_,fun ⟨u,hu,_⟩=>by omega⟩,by simp [orbC,frs]⟩
  unfold seen orbC at h
  simp [List.getD_eq_getElem?_getD,List.getElem?_replicate] at h
  split at h <;> simp at h
 | succ k ih =>
  intro hk
  obtain ⟨i1,i2⟩:=ih (by omega)
  have hl:=orbC_length nb N k
  rw [frs_succ]
  by_cases hs:seen (orbC nb N k).1 k
  · have e:orbC nb N (k+1)=orbC nb N k:=by rw [orbC];exact if_pos hs
    rw [e]
    obtain ⟨u,hu,hr⟩:=(i1 k).1 hs
    have hno:¬∀ u,u<k→¬Rt nb u k:=fun h=>h u hu hr
    refine ⟨fun v=>⟨fun h=>?_,fun ⟨w,hw,h⟩=>?_⟩,by rw [i2];simp [j02 hno]⟩
    · obtain ⟨w,hw,h⟩:=(i1 v).1 h
      exact ⟨w,by omega,h⟩
    · by_cases hwk:w=k
      · subst hwk
        exact (i1 v).2 ⟨u,hu,hr.trans h⟩
      · exact (i1 v).2 ⟨w,by omega,h⟩
  · have e:orbC nb N (k+1)=(bfsF nb (N+1) ((orbC nb N k).1.set k true) [k],(orbC nb N k).2+1):=by rw [orbC];exact if_neg hs
    rw [e]
    have hkl:k<(orbC nb N k).1.length:=by omega
    have hset:=fun v=>seen_set (v:=v) hkl
    have hcnt:=count_set hkl (by unfold seen at hs;simpa using hs)
    have hle:(orbC nb N k).1.count false≤N:=Nat.le_trans List.count_le_length (Nat.le_of_eq hl)
    obtain ⟨g1,g2,g3⟩:=bfs_spec hn (N+1) ((orbC nb N k).1.set k true) [k] (by simp [hl]) (fun v hv=>by
     rw [List.mem_singleton.1 hv]
     exact ⟨by omega,(hset k).2 (Or.inl rfl)⟩) (fun v hv=>by
     rcases (hset v).1 hv with rfl | h1
     · exact Or.inl (by simp)
     · refine Or.inr fun w hw=>(hset w).2 (Or.inr ?_)
       obtain ⟨u,hu,hr⟩:=(i1 v).1 h1
       exact (i1 w).2 ⟨u,hu,hr.step hw⟩) (by simp only [left,List.length_cons,List.length_nil];omega)
    have hno:∀ u,u<k→¬Rt nb u k:=fun u hu hr=>hs ((i1 k).2 ⟨u,hu,hr⟩)
    refine ⟨fun v=>⟨fun h=>?_,fun ⟨w,hw,h⟩=>?_⟩,by show (orbC nb N k).2+1=_;rw [i2];simp [j1d hno]⟩
    · rcases g3 v h with h1 | ⟨u,hu,h1⟩
      · rcases (hset v).1 h1 with rfl | h1
        · exact ⟨v,by omega,Rt.refl nb v⟩
        · obtain ⟨u,hu,hr⟩:=(i1 v).1 h1
          exact ⟨u,by omega,hr⟩
      · rw [List.mem_singleton.1 hu] at h1
        exact ⟨k,by omega,h1⟩
    · by_cases hwk:w=k
      · subst hwk
        exact h (seen _) (g1 w ((hset w).2 (Or.inl rfl))) fun x y hx hy=>g2 x y hx hy
      · exact g1 v ((hset v).2 (Or.inr ((i1 v).2 ⟨w,by omega,h⟩)))
structure Eqr (N:Nat) (R:Nat→Nat→Prop):Prop where
 r:∀ a,R a a
 s:∀ a b,a<N→R a b→R b a
 t:∀ a b c,R a b→R b c→R a c
 g:∀ a b,a<N→R a b→b<N
theorem frs_nodup (R:Nat→Nat→Prop) (k:Nat):(frs R k).Nodup:=List.Pairwise.filter _ List.nodup_range
theorem frs_le {N:Nat} {R R':Nat→Nat→Prop} (h:Eqr N R) (h':Eqr N R') (φ:Nat→Nat) (hr:∀ x,x<N→φ x<N) (hφ:∀ x y,x<N→y<N→R' (φ x) (φ y)→R x y):(frs R N).length≤(frs R' N).length:=by
 have ex:∀ x,x<N→∃ k,k<N+1∧R' k (φ x):=fun x hx=>⟨φ x,by have:=hr x hx;omega,h'.r _⟩
 let g:Nat→Nat:=fun x=>if hx:x<N then Classical.choose (least (ex x hx)) else 0
 have hg:∀ x,x<N→R' (g x) (φ x)∧∀ i,i<g x→¬R' i (φ x):=fun x hx=>by
  have:=Classical.choose_spec (least (ex x hx))
  simp only [g,hx,dif_pos]
  exact this.2
 have hgn:∀ x,x<N→g x<N:=fun x hx=>by
  obtain ⟨h1,h2⟩:=hg x hx
  have h3:=hr x hx
  rcases Nat.lt_or_ge (φ x) (g x) with h4 | h4
  · exact absurd (h'.r _) (h2 _ h4)
  · omega
 have:=len_le_of_sub ((frs R N).map g) (frs R' N) ?_ ?_
 · simpa using this
 · rw [List.Nodup,List.pairwise_map]
   refine (frs_nodup R N).imp_of_mem ?_
   intro a b ha hb hab he
   obtain ⟨a1,a2⟩:=frs_mem.1 ha
   obtain ⟨b1,b2⟩:=frs_mem.1 hb
   have g1:=(hg a a1).1
   have g2:=(hg b b1).1
   rw [he] at g1
   have hR:=hφ a b a1 b1 (h'.t _ _ _ (h'.s _ _ (hgn b b1) g1) g2)
   rcases Nat.lt_trichotomy a b with h1 | h1 | h1
   · exact b2 a h1 hR
   · exact hab h1
   · exact a2 b h1 (h.s _ _ a1 hR)
 · intro v hv
   obtain ⟨x,hx,rfl⟩:=List.mem_map.1 hv
   obtain ⟨x1,_⟩:=frs_mem.1 hx
   obtain ⟨g1,g2⟩:=hg x x1
   refine frs_mem.2 ⟨hgn x x1,fun u hu hR=>g2 u hu (h'.t _ _ _ hR g1)⟩
end Go.Mch
namespace Go.Mch


theorem digT_succ {n m v:Nat}:digT n (m+1) v=digT n m (v / n)++[((v % n:Nat):Int)]:=by
 unfold digT
 rw [List.range_succ,List.map_append]
 congr 1
 · refine List.map_congr_left fun j hj=>?_
   have hj:=List.mem_range.1 hj
   rw [Nat.div_div_eq_div_mul,show m+1-1-j=(m-1-j)+1 by omega,Nat.pow_succ,Nat.mul_comm n]
 · simp
theorem num_dig {n:Nat} (hn:0<n):∀ (m v:Nat),v<n ^ m→numT n (digT n m v)=v:=by
 intro m
 induction m with
 | zero=>intro v hv;simp at hv;subst hv;rfl
 | succ m ih =>
  intro v hv
  have h1:v / n<n ^ m:=by rw [Nat.div_lt_iff_lt_mul hn,← Nat.pow_succ];exact hv
  rw [digT_succ,numT_snoc,ih _ h1]
  have:=Nat.div_add_mod v n
  rw [← Int.natCast_mul,← Int.natCast_add,Nat.mul_comm,this]
theorem dig_num {n:Nat} (hn:0<n):∀ (m:Nat) (w:List Int),w.length=m→inN n w→digT n m (numT n w).toNat=w:=by
 intro m
 induction m with
 | zero=>intro w hl _;rw [List.length_eq_zero_iff.1 hl];rfl
 | succ m ih =>
  intro w hl hw
  obtain ⟨u,x,rfl⟩:∃ u x,w=u++[x]:=⟨w.take m,w[m],by rw [← List.take_succ_eq_append_getElem (by omega),List.take_of_length_le (by omega)]⟩
  have hu:inN n u:=fun v hv=>hw v (by simp [hv])
  have hx:=hw x (by simp)
  have hul:u.length=m:=by simpa using hl
  have hr:=numT_rng hu u.length (Nat.le_refl _)
  rw [List.take_length] at hr
  rw [digT_succ,numT_snoc]
  have e:=ih u hul hu
  generalize numT n u=a at *
  obtain ⟨A,rfl⟩:∃ A:Nat,a=A:=⟨a.toNat,by omega⟩
  obtain ⟨X,rfl⟩:∃ X:Nat,x=X:=⟨x.toNat,by omega⟩
  have hX:X<n:=by omega
  have e1:((A:Int)*n+X).toNat=n*A+X:=by rw [← Int.natCast_mul,← Int.natCast_add,Int.toNat_natCast,Nat.mul_comm]
  rw [e1,Nat.mul_add_div hn,Nat.div_eq_of_lt hX,Nat.mul_add_mod,Nat.mod_eq_of_lt hX,Nat.add_zero]
  rw [Int.toNat_natCast] at e
  rw [e]
theorem numT_lt {n m:Nat} {w:List Int} (hw:inN n w) (hl:w.length=m):0≤numT n w∧(numT n w).toNat<n ^ m:=by
 have hr:=numT_rng hw w.length (Nat.le_refl _)
 rw [List.take_length,hl] at hr
 omega
theorem num_inj {n m:Nat} (hn:0<n) {w w':List Int} (h:inN n w) (h':inN n w') (hl:w.length=m) (hl':w'.length=m) (he:(numT n w).toNat=(numT n w').toNat):w=w':=by
 rw [← dig_num hn m w hl h,← dig_num hn m w' hl' h',he]
theorem dig_inj {n m:Nat} (hn:0<n) {v v':Nat} (h:v<n ^ m) (h':v'<n ^ m) (he:digT n m v=digT n m v'):v=v':=by
 have h1:=num_dig hn m v h
 have h2:=num_dig hn m v' h'
 rw [he,h2] at h1
 omega


theorem onto_fin {N:Nat} {g:Nat→Nat} (S:Nat→Prop) (hr:∀ x,x<N→g x<N) (hi:∀ x y,x<N→y<N→g x=g y→x=y) (hS:∀ x,x<N→S x→S (g x)) {y:Nat} (hy:y<N) (hSy:S y):∃ x,x<N∧S x∧g x=y:=by
 apply Classical.byContradiction
 intro hno
 have hm:∀ v,v∈(List.range N).filter (fun v=>dec (S v))↔v<N∧S v:=fun v=>by
  rw [List.mem_filter,List.mem_range]
  by_cases h:S v
  · simp [h]
  · simp [h]
 have:=len_le_of_sub (y::((List.range N).filter fun v=>dec (S v)).map g) ((List.range N).filter fun v=>dec (S v)) ?_ ?_
 · simp at this
   omega
 · rw [List.nodup_cons]
   constructor
   · intro h
     obtain ⟨x,hx,he⟩:=List.mem_map.1 h
     obtain ⟨h1,h2⟩:=(hm x).1 hx
     exact hno ⟨x,h1,h2,he⟩
   · rw [List.Nodup,List.pairwise_map]
     refine (List.Pairwise.filter _ (List.nodup_range (n:=N))).imp_of_mem ?_
     intro a b ha hb hab he
     exact hab (hi a b ((hm a).1 ha).1 ((hm b).1 hb).1 he)
 · intro v hv
   rcases List.mem_cons.1 hv with rfl | hv
   · exact (hm v).2 ⟨hy,hSy⟩
   · obtain ⟨x,hx,rfl⟩:=List.mem_map.1 hv
     obtain ⟨h1,h2⟩:=(hm x).1 hx
     exact (hm _).2 ⟨hr x h1,hS x h1 h2⟩
theorem rt_sym {N k:Nat} {nb:Nat→List Nat} {g:Nat→Nat→Nat} (hnb:∀ x,nb x=(List.range k).map fun i=>g i x) (hr:∀ i x,x<N→g i x<N) (hi:∀ i x y,i<k→x<N→y<N→g i x=g i y→x=y):Eqr N (Rt nb):=by
 have hmem:∀ x y,y∈nb x↔∃ i,i<k∧g i x=y:=fun x y=>by rw [hnb];simp
 have hrng:∀ x,x<N→∀ y∈nb x,y<N:=fun x hx y hy=>by
  obtain ⟨i,_,rfl⟩:=(hmem x y).1 hy
  exact hr i x hx
 have one:∀ x y,x<N→y∈nb x→Rt nb y x:=fun x y hx hy=>by
  obtain ⟨i,hik,rfl⟩:=(hmem x y).1 hy
  obtain ⟨z,z1,z2,z3⟩:=onto_fin (g:=g i) (Rt nb (g i x)) (hr i) (fun a b ha hb he=>hi i a b hik ha hb he) (fun a _ h=>h.step ((hmem a _).2 ⟨i,hik,rfl⟩)) (hr i x hx) (Rt.refl nb _)
  rwa [hi i z x hik z1 hx z3] at z2
 refine ⟨Rt.refl nb,fun a b ha h=>?_,fun a b c=>Rt.trans,fun a b ha h=>h.rng hrng ha⟩
 exact (h (fun z=>z<N∧Rt nb z a) ⟨ha,Rt.refl nb a⟩ fun x y hx hy=>⟨hrng x hx.1 y hy,(one x y hx.1 hy).trans hx.2⟩).2
theorem dW_inj {f s:List (List Int)} (_h:PM f s) (hi:Inj f s) {w w':List Int} (hw:inN f.length w) (hw':inN f.length w') (hl:w.length=w'.length) {i:Nat} (hk:i+1<w.length) (he:dW f s w i=dW f s w' i):w=w':=by
 obtain ⟨u,a,b,v,rfl,rfl⟩:=cut_at hk
 obtain ⟨u',a',b',v',rfl,hu⟩:=cut_at (w:=w') (k:=u.length) (by omega)
 have ha:=hw a (by simp)
 have hb:=hw b (by simp)
 have ha':=hw' a' (by simp)
 have hb':=hw' b' (by simp)
 have e2:=dW_mid f s u' v' a' b'
 rw [hu] at e2
 rw [dW_mid,e2] at he
 obtain ⟨h1,h2⟩:=List.append_inj he hu.symm
 simp only [List.cons.injEq] at h2
 obtain ⟨h3,h4,h5⟩:=h2
 obtain ⟨h6,h7⟩:=inj_pair hi (x:=a.toNat) (y:=b.toNat) (x':=a'.toNat) (y':=b'.toNat) (by omega) (by omega) (by omega) (by omega) h3 h4
 have:a=a':=by omega
 have:b=b':=by omega
 subst h1 h5
 simp [*]
theorem nbT_eqr {f s:List (List Int)} (h:PM f s) (hi:Inj f s) (m:Nat):Eqr (f.length ^ m) (Rt (nbT f s m)):=by
 refine rt_sym (k:=m-1) (g:=fun i v=>(numT f.length (dW f s (digT f.length m v) i)).toNat) (fun _=>rfl) (fun i v _=>?_) (fun i v v' hik hv hv' he=>?_)
 · have:=num_mv h (m:=m) (v:=v) i
   omega
 · have d1:=digT_rng (n:=f.length) (m:=m) (v:=v) h.pos
   have d2:=digT_rng (n:=f.length) (m:=m) (v:=v') h.pos
   have:=num_inj (m:=m) h.pos (dW_in h d1 i) (dW_in h d2 i) (by simp) (by simp) he
   exact dig_inj h.pos hv hv' (dW_inj h hi d1 d2 (by simp) (by simp;omega) this)


theorem same_orbits {f s F S:List (List Int)} (h:Rg f s) (hi:Inj f s) (H:PM F S) (Hi:Inj F S) (hl:F.length=f.length) (hm:∀ (w:List Int) (k:Nat),inN f.length w→k+1<w.length→dW F S w k=rW (raT f s) w k) (m:Nat) :
 (orbC (nbT F S m) (F.length ^ m) (F.length ^ m)).2=(orbC (nbT f s m) (f.length ^ m) (f.length ^ m)).2:=by
 have E1:=nbT_eqr h.1 hi m
 have E2:=nbT_eqr H Hi m
 have c1:=(orbC_spec (fun x _=>nbT_rng h.1 (m:=m) (v:=x)) (f.length ^ m) (Nat.le_refl _)).2
 have c2:=(orbC_spec (fun x _=>nbT_rng H (m:=m) (v:=x)) (F.length ^ m) (Nat.le_refl _)).2
 rw [c1,c2]
 have hN:F.length ^ m=f.length ^ m:=by rw [hl]
 rw [hN] at E2 ⊢
 clear c1 c2
 have h0:=h.1.pos
 have dr:∀ v,inN f.length (digT f.length m v):=fun v=>digT_rng h0
 have gr:∀ v,inN f.length (gmL f (digT f.length m v)):=fun v=>gm_in h.1 (dr v)
 let φ:Nat→Nat:=fun v=>(numT f.length (gmL f (digT f.length m v))).toNat
 have hφ:∀ v,φ v<f.length ^ m:=fun v=>(numT_lt (gr v) (by simp)).2
 have hdφ:∀ v,digT f.length m (φ v)=gmL f (digT f.length m v):=fun v=>dig_num h0 m _ (by simp) (gr v)
 have iφ:∀ v v',v<f.length ^ m→v'<f.length ^ m→φ v=φ v'→v=v':=fun v v' hv hv' he=>by
  have:=congrArg (digT f.length m) he
  rw [hdφ,hdφ] at this
  exact dig_inj h0 hv hv' (gm_inj h (dr v) (dr v') this)
 have step:∀ v i,i<m-1→(numT F.length (dW F S (digT F.length m (φ v)) i)).toNat=φ (numT f.length (dW f s (digT f.length m v) i)).toNat:=fun v i him=>by
  have hk:i+1<(digT f.length m v).length:=by simp;omega
  show _=(numT f.length (gmL f (digT f.length m (numT f.length (dW f s (digT f.length m v) i)).toNat))).toNat
  rw [dig_num h0 m _ (by simp) (dW_in h.1 (dr v) i),gm_move h (dr v) hk,hl,hdφ,hm _ _ (gr v) (by simp;omega)]
 have mem1:∀ x y,y∈nbT f s m x↔∃ i,i<m-1∧(numT f.length (dW f s (digT f.length m x) i)).toNat=y:=fun x y=>by unfold nbT;simp
 have mem2:∀ x y,y∈nbT F S m x↔∃ i,i<m-1∧(numT F.length (dW F S (digT F.length m x) i)).toNat=y:=fun x y=>by unfold nbT;simp
 have fwd:∀ a b,a<f.length ^ m→Rt (nbT f s m) a b→Rt (nbT F S m) (φ a) (φ b):=fun a b ha hr=>by
  refine hr (fun v=>Rt (nbT F S m) (φ a) (φ v)) (Rt.refl _ _) fun x y hx hy=>?_
  obtain ⟨i,him,rfl⟩:=(mem1 x y).1 hy
  refine hx.step ((mem2 _ _).2 ⟨i,him,step x i him⟩)
 have bwd:∀ a b,a<f.length ^ m→b<f.length ^ m→Rt (nbT F S m) (φ a) (φ b)→Rt (nbT f s m) a b:=fun a b ha hb hr=>by
  obtain ⟨v,v1,v2,v3⟩:=hr (fun w=>∃ v,v<f.length ^ m∧φ v=w∧Rt (nbT f s m) a v) ⟨a,ha,rfl,Rt.refl _ _⟩ (by
   rintro x y ⟨v,v1,rfl,v3⟩ hy
   obtain ⟨i,him,rfl⟩:=(mem2 _ y).1 hy
   refine ⟨_,?_,(step v i him).symm,v3.step ((mem1 v _).2 ⟨i,him,rfl⟩)⟩
   exact nbT_rng h.1 (m:=m) (v:=v) _ ((mem1 v _).2 ⟨i,him,rfl⟩))
  rwa [iφ v b v1 hb v2] at v3
 have sur:=surj_of_inj (n:=f.length ^ m) (g:=φ) (fun v _=>hφ v) (fun v v' hv hv' he=>iφ v v' hv hv' he)
 let ψ:Nat→Nat:=fun v=>if hv:v<f.length ^ m then Classical.choose (sur v hv) else 0
 have hψ:∀ v,v<f.length ^ m→ψ v<f.length ^ m∧φ (ψ v)=v:=fun v hv=>by
  have:=Classical.choose_spec (sur v hv)
  simp only [ψ,hv,dif_pos]
  exact this
 have l1:=frs_le E1 E2 φ (fun x _=>hφ x) bwd
 have l2:=frs_le E2 E1 ψ (fun x hx=>(hψ x hx).1) fun x y hx hy hr=>by
  have:=fwd _ _ (hψ x hx).1 hr
  rwa [(hψ x hx).2,(hψ y hy).2] at this
 rw [Nat.le_antisymm l2 l1]


theorem idP {n:Nat} (h0:0<n) (h12:n≤12):Pm (idL n)∧∀ x,x<n→pN (idL n) x=x∧invQ (idL n) x=x:=by
 have hl:(idL n).length=n:=by simp [idL]
 have pm:Pm (idL n):=⟨permuted_row (g:=fun y=>y) (fun y hy=>hy) (fun y y' _ _ he=>he),by omega,by omega⟩
 have hp:∀ x,x<n→pN (idL n) x=x:=fun x hx=>by simp [pN,idL,hx]
 refine ⟨pm,fun x hx=>⟨hp x hx,?_⟩⟩
 have:=pm.back (i:=x) (by omega)
 rwa [(pN_at pm (x:=x) (by omega)).2.2,hp x hx,Int.toNat_natCast] at this
theorem imT_id {t:List (List Int)} (h:isRk t):imT t (idL t.length)=t:=by
 have ht:Tab t:=h.1.2.2
 obtain ⟨pm,hq⟩:=idP (n:=t.length) (by have:=h.1.1;omega) (by have:=h.1.2.1;omega)
 have hl:(idL t.length).length=t.length:=by simp [idL]
 have e:=tab_eq (t:=t) (n:=t.length) rfl fun r hr=>(ht r hr).1
 conv=>rhs;rw [e]
 refine tabL_congr fun x y hx hy=>?_
 have hlt:=(rck_of h).r x y hx hy
 unfold imG
 rw [(hq x hx).2,(hq y hy).2]
 have:=(pN_at pm (x:=σN t x y) (by omega)).1
 rw [(hq _ hlt).1] at this
 show (idL t.length).getD (σN t x y) 0=_
 rw [this,v2_int h]
theorem tw_id {t:List (List Int)} (h:isRk t):isReg (twF (idL t.length)) (twS t (idL t.length))∧raT (twF (idL t.length)) (twS t (idL t.length))=t∧(twF (idL t.length)).length=t.length ∧
 ∀ (w:List Int) (k:Nat),inN t.length w→k+1<w.length→dW (twF (idL t.length)) (twS t (idL t.length)) w k=rW t w k:=by
 obtain ⟨pm,hq⟩:=idP (n:=t.length) (by have:=h.1.1;omega) (by have:=h.1.2.1;omega)
 have hl:(idL t.length).length=t.length:=by simp [idL]
 obtain ⟨h1,h2⟩:=tw_reg h hl pm.pm (imT_id h)
 obtain ⟨e1,e2⟩:=tw_tabs h hl pm.pm (imT_id h)
 refine ⟨h1,h2,by rw [e1];simp,fun w k hw hk=>?_⟩
 obtain ⟨u,a,b,v,rfl,rfl⟩:=cut_at hk
 have ha:=hw a (by simp)
 have hb:=hw b (by simp)
 rw [dW_mid,rW_mid]
 have hA:a.toNat<t.length:=by omega
 have hB:b.toNat<t.length:=by omega
 have g1:g2 (twF (idL t.length)) a b=b:=by
  unfold g2
  rw [e1,v2_tabL hA hB,(hq _ hB).1]
  omega
 have g2':g2 (twS t (idL t.length)) a b=g2 t b a:=by
  unfold g2
  rw [e2,v2_tabL hA hB,(hq _ hB).1,(hq _ ((rck_of h).r _ _ hB hA)).2,v2_int h]
 rw [g1,g2']
end Go.Mch
namespace Go.Mch

noncomputable def clV (f s:List (List Int)) (k v:Nat):List (List Int):=lso (cO f s (digT f.length k v) 5000)
def markL (n:Nat) (seen:List Bool) (X:List (List Int)):List Bool:=X.foldl (fun l x=>l.set (numT n x).toNat true) seen
@[simp] theorem markL_length (n:Nat) (X:List (List Int)):∀ seen:List Bool,(markL n seen X).length=seen.length:=by
 induction X with
 | nil=>intro _;rfl
 | cons x X ih=>intro seen;simp only [markL,List.foldl_cons] at ih ⊢;rw [ih];simp
theorem markL_snoc (n:Nat) (seen:List Bool) (X:List (List Int)) (x:List Int):markL n seen (X++[x])=(markL n seen X).set (numT n x).toNat true:=by simp [markL]
noncomputable def nrmS (f s:List (List Int)) (k:Nat):Nat→List Bool×List (List Int)
 | 0=>(List.replicate (f.length ^ k) false,[])
 | v+1=>if (nrmS f s k v).1.getD v false then nrmS f s k v else (markL f.length (nrmS f s k v).1 (clV f s k v),(nrmS f s k v).2++[digT f.length k v])
@[simp] theorem nrmS_length (f s:List (List Int)) (k v:Nat):(nrmS f s k v).1.length=f.length ^ k:=by
 induction v with
 | zero=>simp [nrmS]
 | succ v ih=>unfold nrmS;split <;> simp [ih]
theorem nrmS_words (f s:List (List Int)) (k v:Nat):(nrmS f s k v).2.length≤v∧∀ x∈(nrmS f s k v).2,∃ u,x=digT f.length k u:=by
 induction v with
 | zero=>simp [nrmS]
 | succ v ih =>
  unfold nrmS
  split
  · exact ⟨by omega,ih.2⟩
  · refine ⟨by simp;omega,fun x hx=>?_⟩
    rcases List.mem_append.1 hx with h1 | h1
    · exact ih.2 x h1
    · rw [List.mem_singleton] at h1;exact ⟨v,h1⟩
noncomputable def nrm (f s:List (List Int)) (k:Nat):List (List Int):=(nrmS f s k (f.length ^ k)).2
theorem nrm_len (f s:List (List Int)) (k:Nat):(nrm f s k).length≤f.length ^ k:=(nrmS_words f s k _).1
theorem nrm_row {f s:List (List Int)} {k:Nat} {x:List Int} (hx:x∈nrm f s k):x.length=k:=by
 obtain ⟨u,rfl⟩:=(nrmS_words f s k _).2 x hx
 simp
theorem cl_spec {f s:List (List Int)} (h:isSol f s) (k v:Nat):(clV f s k v).length≤5000∧∀ x∈clV f s k v,inN f.length x∧x.length=k∧(numT f.length x).toNat<f.length ^ k∧0≤numT f.length x:=by
 have h0:=(PM.of h.1).pos
 unfold clV
 cases hg:cO f s (digT f.length k v) 5000 with
 | none=>simp
 | some Z =>
  have hZ:=cO_len h (digT_rng h0) hg
  refine ⟨hZ.1,fun x hx=>?_⟩
  obtain ⟨h1,h2⟩:=hZ.2.1 x hx
  rw [digT_length] at h2
  have:=numT_rng h1 k (by omega)
  rw [List.take_of_length_le (by omega)] at this
  exact ⟨h1,h2,by omega,this.1⟩
theorem grp_lso (o:Option (List (List Int))):(o=none∧grpT o=.tup [nil,B false])∨∃ X,o=some X∧grpT o=.tup [.mem .own (some 1) (rows X),B true]:=by
 cases o with
 | none=>exact .inl ⟨rfl,rfl⟩
 | some X=>exact .inr ⟨X,rfl,rfl⟩
end Go.Mch
namespace Go.Mch


theorem cmpL_fst:∀ (u u' r r':List Int),u.length=u'.length→cmpL u u'<0→cmpL (u++r) (u'++r')<0
 | [],[],_,_,_,h=>by simp [cmpW] at h
 | [],_::_,_,_,h,_=>by simp at h
 | _::_,[],_,_,h,_=>by simp at h
 | a::u,b::u',r,r',h,h2=>by
  have ih:=cmpL_fst u u' r r' (by simpa using h)
  simp only [cmpW,List.cons_append] at h2 ⊢
  by_cases hz:cmpI a b=0
  · simp only [hz,ne_eq,not_true_eq_false,if_false] at h2 ⊢
    exact ih h2
  · simp only [ne_eq,hz,not_false_eq_true,if_true] at h2 ⊢
    exact h2
theorem dig_lt {n:Nat} (hn:0<n):∀ (k v v':Nat),v<v'→v'<n ^ k→cmpL (digT n k v) (digT n k v')<0:=by
 intro k
 induction k with
 | zero=>intro v v' h1 h2;simp at h2;omega
 | succ k ih =>
  intro v v' h1 h2
  have q2:v' / n<n ^ k:=by rw [Nat.div_lt_iff_lt_mul hn,← Nat.pow_succ];exact h2
  rw [digT_succ,digT_succ]
  rcases Nat.lt_or_ge (v / n) (v' / n) with h | h
  · exact cmpL_fst _ _ _ _ (by simp) (ih _ _ h q2)
  · have he:v / n=v' / n:=Nat.le_antisymm (Nat.div_le_div_right (by omega)) h
    rw [he,cmpL_app]
    have d1:=Nat.div_add_mod v n
    have d2:=Nat.div_add_mod v' n
    rw [he] at d1
    have:((v % n:Nat):Int)<((v' % n:Nat):Int):=by omega
    have hlt:=cmpI_lt.2 this
    simp only [cmpW]
    rw [if_pos (by omega)]
    exact hlt


theorem Eqw.refl' (f s:List (List Int)) (w:List Int):Eqw f s w w:=TR.start _ _ _
theorem rt_eqw {f s:List (List Int)} (h:isSol f s) {k v u:Nat} (hv:v<f.length ^ k) (hu:u<f.length ^ k):Rt (nbT f s k) v u↔Eqw f s (digT f.length k v) (digT f.length k u):=by
 have hpm:=PM.of h.1
 have h0:=hpm.pos
 have E:=nbT_eqr hpm h.2.1 k
 have mem1:∀ x y,y∈nbT f s k x↔∃ i,i<k-1∧(numT f.length (dW f s (digT f.length k x) i)).toNat=y:=fun x y=>by unfold nbT;simp
 constructor
 · intro hr
   refine hr (fun x=>Eqw f s (digT f.length k v) (digT f.length k x)) (Eqw.refl' f s _) fun x y hx hy=>?_
   obtain ⟨i,hi,rfl⟩:=(mem1 x y).1 hy
   rw [dig_num h0 k _ (by simp) (dW_in hpm (digT_rng h0) i)]
   have:=TR.step _ _ _ hx (i:=2*i) (by simp only [digT_length];omega)
   rwa [cMv_0] at this
 · intro hr
   have key:=hr (fun w=>(inN f.length w∧w.length=k)∧Rt (nbT f s k) v (numT f.length w).toNat) ⟨⟨digT_rng h0,by simp⟩,by rw [num_dig h0 k v hv,Int.toNat_natCast];exact Rt.refl _ _⟩ ?_
   · have:=key.2
     rwa [num_dig h0 k u hu,Int.toNat_natCast] at this
   · rintro w ⟨⟨w1,w2⟩,w3⟩ p hp
     simp only [digT_length] at hp
     have m1:=cMv_in hpm h.2.1 w1 p
     have m2:(cMv f s w p).length=k:=by simp [w2]
     refine ⟨⟨m1,m2⟩,?_⟩
     have step:∀ (x:List Int) (i:Nat),inN f.length x→x.length=k→i<k-1→Rt (nbT f s k) (numT f.length x).toNat (numT f.length (dW f s x i)).toNat:=fun x i x1 x2 hi=>by
      refine (Rt.refl _ _).step ((mem1 _ _).2 ⟨i,hi,?_⟩)
      rw [dig_num h0 k x x2 x1]
     by_cases he:p % 2=0
     · have e:cMv f s w p=dW f s w (p / 2):=by rw [cMv,if_pos he]
       rw [e]
       exact w3.trans (step w (p / 2) w1 w2 (by omega))
     · have e:cMv f s w p=dW (invF f s) (invS f s) w (p / 2):=by rw [cMv,if_neg he]
       rw [e] at m1 m2 ⊢
       have hb:dW f s (dW (invF f s) (invS f s) w (p / 2)) (p / 2)=w:=dW_back (by omega) fun a b ha hb=>by
        have ga:=inN_getD w1 (i:=p / 2) (by omega)
        have gb:=inN_getD w1 (i:=p / 2+1) (by omega)
        rw [ha,hb]
        exact (inv_g2 hpm h.2.1 ga gb).2
       have s1:=step _ (p / 2) m1 m2 (by omega)
       rw [hb] at s1
       exact w3.trans (E.s _ _ (numT_lt m1 m2).2 s1)
noncomputable def clsN (f s:List (List Int)) (k v:Nat):List Nat:=(List.range (f.length ^ k)).filter fun u=>dec (Rt (nbT f s k) v u)
theorem clsN_mem {f s:List (List Int)} {k v u:Nat}:u∈clsN f s k v↔u<f.length ^ k∧Rt (nbT f s k) v u:=by
 unfold clsN
 rw [List.mem_filter,List.mem_range]
 by_cases h:Rt (nbT f s k) v u
 · simp [h]
 · simp [h]
noncomputable def clsW (f s:List (List Int)) (k v:Nat):List (List Int):=(clsN f s k v).map (digT f.length k)
@[simp] theorem clsW_length (f s:List (List Int)) (k v:Nat):(clsW f s k v).length=(clsN f s k v).length:=by simp [clsW]
theorem clsW_orb {f s:List (List Int)} (h:isSol f s) {k v:Nat} (hv:v<f.length ^ k):Orb (cMv f s) (2*((digT f.length k v).length-1)) (digT f.length k v) (clsW f s k v):=by
 have hpm:=PM.of h.1
 have h0:=hpm.pos
 refine ⟨?_,fun x=>?_⟩
 · unfold Srt clsW
   rw [List.pairwise_map]
   have hp:(clsN f s k v).Pairwise (·<·):=List.Pairwise.filter _ List.pairwise_lt_range
   refine hp.imp_of_mem ?_
   intro a b ha hb hab
   exact dig_lt h0 k a b hab (clsN_mem.1 hb).1
 · unfold clsW
   rw [List.mem_map]
   constructor
   · rintro ⟨u,hu,rfl⟩
     obtain ⟨u1,u2⟩:=clsN_mem.1 hu
     exact (rt_eqw h hv u1).1 u2
   · intro hx
     obtain ⟨x1,x2⟩:=CR_in hpm h.2.1 (digT_rng h0) hx
     rw [digT_length] at x2
     have hl:=numT_lt x1 x2
     refine ⟨(numT f.length x).toNat,clsN_mem.2 ⟨hl.2,(rt_eqw h hv hl.2).2 ?_⟩,dig_num h0 k x x2 x1⟩
     rw [dig_num h0 k x x2 x1]
     exact hx
theorem cO_cls {f s:List (List Int)} (h:isSol f s) {k v lim:Nat} (hv:v<f.length ^ k):cO f s (digT f.length k v) lim=if (clsN f s k v).length≤lim then some (clsW f s k v) else none:=by
 have ho:=clsW_orb h hv
 split
 · rename_i hl
   exact orbO_some ho (by simpa using hl)
 · rename_i hl
   cases hz:cO f s (digT f.length k v) lim with
   | none=>rfl
   | some Z =>
    obtain ⟨z1,z2⟩:=orbO_spec hz
    have:=z1.unique ho
    rw [this,clsW_length] at z2
    exact absurd z2 hl
theorem clsN_le (f s:List (List Int)) (k v:Nat):(clsN f s k v).length≤f.length ^ k:=by
 have:=List.length_filter_le (fun u=>dec (Rt (nbT f s k) v u)) (List.range (f.length ^ k))
 simpa [clsN] using this
theorem frs_last (R:Nat→Nat→Prop) (k:Nat):frs R (k+1)=if dec (∀ u,u<k→¬R u k) then frs R k++[k] else frs R k:=by
 unfold frs
 rw [List.range_succ,List.filter_append]
 by_cases h:∀ u,u<k→¬R u k
 · simp [j1d h]
 · simp [j02 h]
theorem mark_seen (n:Nat) (X:List (List Int)):∀ (st:List Bool) (u:Nat),(∀ x∈X,(numT n x).toNat<st.length)→(seen (markL n st X) u↔seen st u∨∃ x∈X,(numT n x).toNat=u):=by
 induction X with
 | nil=>intro st u _;simp [markL]
 | cons x X ih =>
  intro st u hl
  have e:markL n st (x::X)=markL n (st.set (numT n x).toNat true) X:=rfl
  rw [e,ih _ u (fun y hy=>by simp;exact hl y (by simp [hy])),seen_set (hl x (by simp))]
  constructor
  · rintro ((h | h) | ⟨y,hy,h⟩)
    · exact Or.inr ⟨x,by simp,h.symm⟩
    · exact Or.inl h
    · exact Or.inr ⟨y,by simp [hy],h⟩
  · rintro (h | ⟨y,hy,h⟩)
    · exact Or.inl (Or.inr h)
    · rcases List.mem_cons.1 hy with rfl | hy
      · exact Or.inl (Or.inl h.symm)
      · exact Or.inr ⟨y,hy,h⟩
theorem nrmS_spec {f s:List (List Int)} (h:isSol f s) {k:Nat} (h5:f.length ^ k≤5000):∀ v,v≤f.length ^ k→(∀ u,u<f.length ^ k→(seen (nrmS f s k v).1 u↔∃ w,w<v∧Rt (nbT f s k) w u))∧(nrmS f s k v).2=(frs (Rt (nbT f s k)) v).map (digT f.length k):=by
 have hpm:=PM.of h.1
 have h0:=hpm.pos
 have E:=nbT_eqr hpm h.2.1 k
 intro v
 induction v with
 | zero =>
  intro _
  refine ⟨fun u hu=>⟨fun hs=>?_,fun ⟨w,hw,_⟩=>by omega⟩,by simp [nrmS,frs]⟩
  unfold seen nrmS at hs
  simp [List.getD_eq_getElem?_getD,List.getElem?_replicate] at hs
  split at hs <;> simp at hs
 | succ v ih =>
  intro hv
  obtain ⟨i1,i2⟩:=ih (by omega)
  have hvN:v<f.length ^ k:=by omega
  have hl:=nrmS_length f s k v
  rw [frs_last]
  by_cases hs:seen (nrmS f s k v).1 v
  · have e:nrmS f s k (v+1)=nrmS f s k v:=by rw [nrmS];exact if_pos hs
    obtain ⟨w,hw,hr⟩:=(i1 v hvN).1 hs
    have hno:¬∀ u,u<v→¬Rt (nbT f s k) u v:=fun g=>g w hw hr
    rw [e,j02 hno]
    refine ⟨fun u hu=>⟨fun g=>?_,fun ⟨x,hx,g⟩=>?_⟩,by simpa using i2⟩
    · obtain ⟨x,hx,g⟩:=(i1 u hu).1 g
      exact ⟨x,by omega,g⟩
    · by_cases hxv:x=v
      · subst hxv
        exact (i1 u hu).2 ⟨w,hw,hr.trans g⟩
      · exact (i1 u hu).2 ⟨x,by omega,g⟩
  · have e:nrmS f s k (v+1)=(markL f.length (nrmS f s k v).1 (clV f s k v),(nrmS f s k v).2++[digT f.length k v]):=by rw [nrmS];exact if_neg hs
    have hno:∀ u,u<v→¬Rt (nbT f s k) u v:=fun u hu g=>hs ((i1 v hvN).2 ⟨u,hu,g⟩)
    have hcl:clV f s k v=clsW f s k v:=by
     unfold clV
     rw [cO_cls h hvN,if_pos (by have:=clsN_le f s k v;omega)]
     rfl
    rw [e,j1d hno,hcl]
    have hx:∀ x∈clsW f s k v,∃ u,(u<f.length ^ k∧Rt (nbT f s k) v u)∧x=digT f.length k u∧(numT f.length x).toNat=u:=fun x hx=>by
     obtain ⟨u,hu,rfl⟩:=List.mem_map.1 hx
     obtain ⟨u1,u2⟩:=clsN_mem.1 hu
     exact ⟨u,⟨u1,u2⟩,rfl,by rw [num_dig h0 k u u1,Int.toNat_natCast]⟩
    have hm:=fun u=>mark_seen f.length (clsW f s k v) (nrmS f s k v).1 u fun x hxx=>by
     obtain ⟨u,⟨u1,_⟩,_,u3⟩:=hx x hxx
     rw [u3,hl]
     exact u1
    refine ⟨fun u hu=>?_,by simp [i2]⟩
    show seen (markL f.length (nrmS f s k v).1 (clsW f s k v)) u↔_
    rw [hm u,i1 u hu]
    constructor
    · rintro (⟨w,hw,g⟩ | ⟨x,hxx,rfl⟩)
      · exact ⟨w,by omega,g⟩
      · obtain ⟨u,⟨u1,u2⟩,_,u3⟩:=hx x hxx
        exact ⟨v,by omega,by rw [u3];exact u2⟩
    · rintro ⟨w,hw,g⟩
      by_cases hwv:w=v
      · subst hwv
        exact Or.inr ⟨digT f.length k u,List.mem_map.2 ⟨u,clsN_mem.2 ⟨hu,g⟩,rfl⟩,by rw [num_dig h0 k u hu,Int.toNat_natCast]⟩
      · exact Or.inl ⟨w,by omega,g⟩
theorem nrm_frs {f s:List (List Int)} (h:isSol f s) {k:Nat} (h5:f.length ^ k≤5000):nrm f s k=(frs (Rt (nbT f s k)) (f.length ^ k)).map (digT f.length k):=(nrmS_spec h h5 _ (Nat.le_refl _)).2


def sumL (l:List Nat):Nat:=l.foldr (·+·) 0
theorem sumL_app (a b:List Nat):sumL (a++b)=sumL a+sumL b:=by
 induction a with
 | nil=>simp [sumL]
 | cons x a ih=>simp only [sumL,List.cons_append,List.foldr_cons] at ih ⊢;omega
theorem filter_or {l:List Nat} {P Q:Nat→Bool} (h:∀ x∈l,¬(P x=true∧Q x=true)):(l.filter fun x=>P x||Q x).length=(l.filter P).length+(l.filter Q).length:=by
 induction l with
 | nil=>rfl
 | cons x l ih =>
  have ih:=ih fun y hy=>h y (by simp [hy])
  have hx:=h x (by simp)
  cases hp:P x <;> cases hq:Q x <;> simp [hp,hq,ih] at hx ⊢ <;> omega
theorem sum_cls {f s:List (List Int)} (h:isSol f s) (k:Nat):sumL ((frs (Rt (nbT f s k)) (f.length ^ k)).map fun v=>(clsN f s k v).length)=f.length ^ k:=by
 have hpm:=PM.of h.1
 have E:=nbT_eqr hpm h.2.1 k
 have key:∀ j,j≤f.length ^ k→sumL ((frs (Rt (nbT f s k)) j).map fun v=>(clsN f s k v).length)=((List.range (f.length ^ k)).filter fun u=>dec (∃ w,w<j∧Rt (nbT f s k) w u)).length:=by
  intro j
  induction j with
  | zero =>
   intro _
   have:∀ u,dec (∃ w,w<0∧Rt (nbT f s k) w u)=false:=fun u=>j02 fun ⟨w,hw,_⟩=>by omega
   have e:(List.range (f.length ^ k)).filter (fun _=>false)=[]:=List.filter_eq_nil_iff.2 (by simp)
   simp only [this,e]
   simp [frs,sumL]
  | succ j ih =>
   intro hj
   have ih:=ih (by omega)
   rw [frs_last]
   by_cases hn:∀ u,u<j→¬Rt (nbT f s k) u j
   · rw [j1d hn,if_pos rfl,List.map_append,sumL_app,ih]
     have e:∀ u,dec (∃ w,w<j+1∧Rt (nbT f s k) w u)=(dec (∃ w,w<j∧Rt (nbT f s k) w u)||dec (Rt (nbT f s k) j u)):=fun u=>by
      by_cases h1:∃ w,w<j∧Rt (nbT f s k) w u
      · obtain ⟨w,hw,g⟩:=id h1
        rw [j1d h1,j1d ⟨w,by omega,g⟩];rfl
      · by_cases h2:Rt (nbT f s k) j u
        · rw [j1d h2,j1d ⟨j,by omega,h2⟩];simp
        · rw [j02 h1,j02 h2]
          exact j02 fun ⟨w,hw,g⟩=>by
           by_cases hwj:w=j
           · subst hwj;exact h2 g
           · exact h1 ⟨w,by omega,g⟩
     simp only [e]
     rw [filter_or]
     · simp [sumL,clsN]
     · rintro u hu ⟨a,b⟩
       have hu':=List.mem_range.1 hu
       have h1:∃ w,w<j∧Rt (nbT f s k) w u:=Classical.byContradiction fun g=>by rw [j02 g] at a;cases a
       have h2:Rt (nbT f s k) j u:=Classical.byContradiction fun g=>by rw [j02 g] at b;cases b
       obtain ⟨w,hw,g⟩:=h1
       exact hn w hw (g.trans (E.s _ _ (by omega) h2))
   · rw [j02 hn,if_neg (by simp),ih]
     have hn':∃ w,w<j∧Rt (nbT f s k) w j:=Classical.byContradiction fun g=>hn fun u hu r=>g ⟨u,hu,r⟩
     obtain ⟨w0,hw0,g0⟩:=hn'
     have e:∀ u,dec (∃ w,w<j+1∧Rt (nbT f s k) w u)=dec (∃ w,w<j∧Rt (nbT f s k) w u):=fun u=>by
      by_cases h1:∃ w,w<j∧Rt (nbT f s k) w u
      · obtain ⟨w,hw,g⟩:=id h1
        rw [j1d h1,j1d ⟨w,by omega,g⟩]
      · rw [j02 h1]
        exact j02 fun ⟨w,hw,g⟩=>by
         by_cases hwj:w=j
         · subst hwj;exact h1 ⟨w0,hw0,g0.trans g⟩
         · exact h1 ⟨w,by omega,g⟩
     simp only [e]
 rw [key _ (Nat.le_refl _)]
 have:∀ u∈List.range (f.length ^ k),dec (∃ w,w<f.length ^ k∧Rt (nbT f s k) w u)=true:=fun u hu=>j1d ⟨u,List.mem_range.1 hu,Rt.refl _ _⟩
 rw [List.filter_eq_self.2 this]
 simp
end Go.Mch
