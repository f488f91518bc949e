/- Our texts YjO YjP YjQ YjR YjS YjD YjE YjT YjU YjF YjG YjV YjW YjX YkA YkB YkE YkF YkH YkM YlB YlC YlD YlE YlF YlG YlH YlI YlK YlM YnA YlO YlV YlW YlX YlY YlN YmA YmB YjB YmC YnB YnC,end to end. -/
import Derived.Test.YtkcgdmjdkbgmkaaGreatP1
import Derived.Test.YtkcgdmjdkbgmkaaGreatYeD
namespace Go.Mch

structure PV (X Y:List (List Int)) (a b i j:Nat):Prop where
 pi:PI X Y a b
 l:∀ k,a<k→k<i→bef (gt Y k) (gt Y a)
 r:∀ k,j<k→k<b→¬bef (gt Y k) (gt Y a)
 h1:a<i
 h2:i≤j+1
 h3:j<b
def PtQ (X Y:List (List Int)) (a b m:Nat):Prop:=PI X Y a b∧a≤m∧m<b∧(∀ k,a≤k→k<m→bef (gt Y k) (gt Y m))∧∀ k,m<k→k<b→bef (gt Y m) (gt Y k)
section
variable {X Y:List (List Int)} {a b i j:Nat}
theorem PV.len (h:PV X Y a b i j):Y.length=X.length:=h.pi.len
theorem PV.facts (h:PV X Y a b i j) (hb:b≤X.length) (hab:a+2≤b):Y.length=X.length∧a<Y.length∧a<i∧i≤j+1∧j<b:=⟨h.pi.len,by have:=h.pi.len;omega,h.h1,h.h2,h.h3⟩
theorem PV.left (h:PV X Y a b i j) (hij:i≤j) (hb:bef (gt Y i) (gt Y a)):PV X Y a b (i+1) j :=
 ⟨h.pi,fun k h1 h2=>by
  by_cases hk:k=i
  · subst hk;exact hb
  · exact h.l k h1 (by omega),h.r,by have:=h.h1;omega,by omega,h.h3⟩
theorem PV.right (h:PV X Y a b i j) (hij:i≤j) (hb:¬bef (gt Y j) (gt Y a)):PV X Y a b i (j-1) :=
 ⟨h.pi,h.l,fun k h1 h2=>by
  by_cases hk:k=j
  · subst hk;exact hb
  · exact h.r k (by omega) h2,h.h1,by have:=h.h1;omega,by have:=h.h3;omega⟩
theorem PV.swap (h:PV X Y a b i j) (hij:i<j) (hj:bef (gt Y j) (gt Y a)) (hi:¬bef (gt Y i) (gt Y a)) (hb:b≤X.length):PV X (swL Y i j) a b (i+1) (j-1):=by
 have hl:=h.len
 have h1:=h.h1
 have h3:=h.h3
 have hg:=gt_swL (X:=Y) (i:=i) (j:=j) (by omega) (by omega)
 have ha:tau i j a=a:=by unfold tau;rw [if_neg (by omega),if_neg (by omega)]
 refine ⟨h.pi.swap hb (by omega) (by omega),fun k k1 k2=>?_,fun k k1 k2=>?_,by omega,by omega,by omega⟩
 · rw [hg,hg,ha]
   by_cases hk:k=i
   · subst hk
     have:tau k j k=j:=by unfold tau;rw [if_neg (by omega),if_pos rfl]
     rw [this];exact hj
   · have:tau i j k=k:=by unfold tau;rw [if_neg (by omega),if_neg hk]
     rw [this];exact h.l k k1 (by omega)
 · rw [hg,hg,ha]
   by_cases hk:k=j
   · subst hk
     have:tau i k k=i:=by unfold tau;rw [if_pos rfl]
     rw [this];exact hi
   · have:tau i j k=k:=by unfold tau;rw [if_neg hk,if_neg (by omega)]
     rw [this];exact h.r k (by omega) k2
theorem PV.fin (h:PV X Y a b i j) (hji:j<i) (hb:b≤X.length):PtQ X (swL Y j a) a b j:=by
 have hl:=h.len
 have h1:=h.h1
 have h2:=h.h2
 have h3:=h.h3
 have hg:=gt_swL (X:=Y) (i:=j) (j:=a) (by omega) (by omega)
 have hj:tau j a j=a:=by
  unfold tau
  by_cases he:j=a
  · rw [if_pos he,he]
  · rw [if_neg he,if_pos rfl]
 refine ⟨h.pi.swap hb (by omega) (by omega),by omega,h3,fun k k1 k2=>?_,fun k k1 k2=>?_⟩
 · rw [hg,hg,hj]
   by_cases hk:k=a
   · have:tau j a k=j:=by unfold tau;rw [if_pos hk]
     rw [this];exact h.l j (by omega) hji
   · have:tau j a k=k:=by unfold tau;rw [if_neg hk,if_neg (by omega)]
     rw [this];exact h.l k (by omega) (by omega)
 · rw [hg,hg,hj]
   have:tau j a k=k:=by unfold tau;rw [if_neg (by omega),if_neg (by omega)]
   rw [this]
   exact h.pi.dj.or (by omega) (by omega) (by omega) (h.r k k1 k2)
end
def S_part (pg:Pg):Prop:=∀ (X:List (List Int)) (a b p:Nat),Sm X→Dj X→a<p→p<b→b≤X.length →
 ∃ (Y:List (List Int)) (m:Nat) (ap:Bool),PtQ X Y a b m∧Call pg 440 [ownR X,I a,I b,I p,.fn 314 []] [ownR Y,I a,I b,I p,.fn 314 []] (.tup [I m,.sc (.bool ap)])
set_option maxRecDepth 10000 in
theorem t_partition {pg:Pg} (hp:pg.fn 440=some j06) (h314:S_cmpL pg):S_part pg:=by
 intro X a b p hS hD hap hpb hb
 have hX1:=hS.1
 have hab2:a+2≤b:=by omega
 have hfind:=Call.findA (α:=List (List Int)×Nat×Bool) (Q:=fun z=>PtQ X z.1 a b z.2.1) (args:=[ownR X,I a,I b,I p,.fn 314 []]) (args':=fun z=>[ownR z.1,I a,I b,I p,.fn 314 []]) (r:=fun z=>.tup [I z.2.1,.sc (.bool z.2.2)]) hp rfl (by simp [F.lets,j06,List.range,List.range.loop]) (kind_own _ _) ?_
 · obtain ⟨z,h1,h2⟩:=hfind
   exact ⟨z.1,z.2.1,z.2.2,h1,h2⟩
 show wp _ _ j06.body (postX _ [.t 10,.t 11] _ _ _) _
 generalize hR:postX (fun z:List (List Int)×Nat×Bool=>PtQ X z.1 a b z.2.1) [.t 10,.t 11] [ownR X,I a,I b,I p,.fn 314 []] (fun z=>[ownR z.1,I a,I b,I p,.fn 314 []]) (fun z=>T.tup [I z.2.1,.sc (.bool z.2.2)])=R
 have hal0:a<X.length:=by omega
 have hpl0:p<X.length:=by omega
 have e1:=gt_at hal0
 have e2:=gt_at hpl0
 have n1:(a == p)=false:=by simp;omega
 have n2:(p == a)=false:=by simp;omega
 have n3:¬a=p:=by omega
 have hg0:PV X (swL X a p) a b (a+1) (b-1):=⟨(PI.refl hD a b).swap hb (by omega) (by omega),fun k h1 h2=>by omega,fun k h1 h2=>by omega,by omega,by omega,by omega⟩
 obtain ⟨Y0,hY0⟩:∃ Y0,swL X a p=Y0:=⟨_,rfl⟩
 obtain ⟨j0,hj0⟩:∃ j0:Nat,(b-1:Nat)=j0:=⟨_,rfl⟩
 have hj0':(b:Int)-1=j0:=by omega
 rw [hY0,hj0] at hg0
 simp [j06,hal0,hpl0,e1,e2,n1,n3,hj0']
 rw [rows_swL,hY0]
 repeat (refine And.intro (by omega) ?_)
 clear e1 e2 n1 n2 n3
 generalize hK1:Go.Mch.X.out 0 _=K1
 have hk1:∀ s:Nat,PV X Y0 a b s j0→(a+1)≤s→(j0<s∨¬bef (gt Y0 s) (gt Y0 a))→K1 (.ext 0) (fr [(0,some (.val (ownR Y0))),(1,some (.val (I a))),(2,some (.val (I b))),(3,some (.val (I p))),(4,some (.val (.fn 314 []))),(12,some (.val (I s))),(13,some (.val (I j0))),(47,some (.val (.sc (.bool false))))]):=by
  intro s g1 hss hx1
  rw [← hK1]
  have hlen1:=g1.len
  simp
  generalize hK2:Go.Mch.X.out 2 _=K2
  have hk2:∀ r:Nat,PV X Y0 a b s r→r≤j0→(r<s∨bef (gt Y0 r) (gt Y0 a))→K2 (.ext 2) (fr [(0,some (.val (ownR Y0))),(1,some (.val (I a))),(2,some (.val (I b))),(3,some (.val (I p))),(4,some (.val (.fn 314 []))),(12,some (.val (I s))),(13,some (.val (I r))),(66,some (.val (.sc (.bool false))))]):=by
   intro r g2 hjj hx2
   rw [← hK2]
   obtain ⟨hY,hal,hj1,hj2,hj3⟩:=g2.facts hb hab2
   simp
   by_cases hij0:r<s
   · skip
     have hjl:r<(Y0).length:=by omega
     have e1:=gt_at hjl
     have e2:=gt_at hal
     have hji:r<s:=by omega
     by_cases hja:r=a
     · have hrs:=rows_self hal
       have hq:=g2.fin hji hb
       rw [hja,swL_self hal] at hq
       subst hja
       simp [hji,hal,e2,hrs]
       repeat (refine And.intro (by omega) ?_)
       rw [← hR]
       exact ⟨(Y0,r,true),hq,by simp [post]⟩
     · have n1:(r == a)=false:=by simp;omega
       have n2:(a == r)=false:=by simp;omega
       simp [hji,hal,hjl,e1,e2,n1,hja]
       rw [rows_swL]
       repeat (refine And.intro (by omega) ?_)
       rw [← hR]
       exact ⟨(swL (Y0) r a,r,true),g2.fin hji hb,by simp [post]⟩
   · skip
     have hij:s≤r:=by omega
     have hnb:=hx1.resolve_left (by omega)
     have hb1:=hx2.resolve_left (by omega)
     have hne:s≠r:=fun h=>hnb (by rw [h];exact hb1)
     have hjl:r<(Y0).length:=by omega
     have hil:s<(Y0).length:=by omega
     have e1:=gt_at hjl
     have e2:=gt_at hil
     have n1:(r == s)=false:=by simp;omega
     have n2:(s == r)=false:=by simp;omega
     have n3:¬r<s:=by omega
     have hjr:(r:Int)-1=((r-1:Nat):Int):=by omega
     have hsw:=g2.swap (by omega) hb1 hnb hb
     simp [n3,hil,hjl,e1,e2,n2,hne,hjr]
     rw [rows_swL]
     repeat (refine And.intro (by omega) ?_)
     refine j0m (α:=List (List Int)×Nat×Nat) (fun z=>z.2.2+1-z.2.1) (fun z e=>PV X z.1 a b z.2.1 z.2.2∧e=fr [(0,some (.val (ownR z.1))),(1,some (.val (I a))),(2,some (.val (I b))),(3,some (.val (I p))),(4,some (.val (.fn 314 []))),(12,some (.val (I z.2.1))),(13,some (.val (I z.2.2)))]) ?_ (swL Y0 s r,s+1,r-1) _ ⟨hsw,by simp⟩
     clear hal hj1 hj2 hj3 hjl hil e1 e2 n1 n2 n3 hjr hsw hnb hb1 hne hij hij0 hx1 hx2 hss hjj g1 g2
     rintro ⟨Y,i,j⟩ e ⟨g,rfl⟩
     simp only at g
     simp
     generalize hK3:Go.Mch.X.out 6 _=K3
     have hk3:∀ s:Nat,PV X Y a b s j→i≤s→(j<s∨¬bef (gt Y s) (gt Y a))→K3 (.ext 6) (fr [(0,some (.val (ownR Y))),(1,some (.val (I a))),(2,some (.val (I b))),(3,some (.val (I p))),(4,some (.val (.fn 314 []))),(12,some (.val (I s))),(13,some (.val (I j))),(120,some (.val (.sc (.bool false))))]):=by
      intro s g3 hss hx3
      rw [← hK3]
      have hlen3:=g3.len
      simp
      generalize hK4:Go.Mch.X.out 8 _=K4
      have hk4:∀ r:Nat,PV X Y a b s r→r≤j→(r<s∨bef (gt Y r) (gt Y a))→K4 (.ext 8) (fr [(0,some (.val (ownR Y))),(1,some (.val (I a))),(2,some (.val (I b))),(3,some (.val (I p))),(4,some (.val (.fn 314 []))),(12,some (.val (I s))),(13,some (.val (I r))),(139,some (.val (.sc (.bool false))))]):=by
       intro r g4 hjj hx4
       rw [← hK4]
       obtain ⟨hY,hal,hj1,hj2,hj3⟩:=g4.facts hb hab2
       simp
       by_cases hij0:r<s
       · skip
         have hjl:r<(Y).length:=by omega
         have e1:=gt_at hjl
         have e2:=gt_at hal
         have hji:r<s:=by omega
         by_cases hja:r=a
         · have hrs:=rows_self hal
           have hq:=g4.fin hji hb
           rw [hja,swL_self hal] at hq
           subst hja
           simp [hji,hal,e2,hrs]
           repeat (refine And.intro (by omega) ?_)
           rw [← hR]
           exact ⟨(Y,r,false),hq,by simp [post]⟩
         · have n1:(r == a)=false:=by simp;omega
           have n2:(a == r)=false:=by simp;omega
           simp [hji,hal,hjl,e1,e2,n1,hja]
           rw [rows_swL]
           repeat (refine And.intro (by omega) ?_)
           rw [← hR]
           exact ⟨(swL (Y) r a,r,false),g4.fin hji hb,by simp [post]⟩
       · skip
         have hij:s≤r:=by omega
         have hnb:=hx3.resolve_left (by omega)
         have hb1:=hx4.resolve_left (by omega)
         have hne:s≠r:=fun h=>hnb (by rw [h];exact hb1)
         have hjl:r<(Y).length:=by omega
         have hil:s<(Y).length:=by omega
         have e1:=gt_at hjl
         have e2:=gt_at hil
         have n1:(r == s)=false:=by simp;omega
         have n2:(s == r)=false:=by simp;omega
         have n3:¬r<s:=by omega
         have hjr:(r:Int)-1=((r-1:Nat):Int):=by omega
         have hsw:=g4.swap (by omega) hb1 hnb hb
         simp [n3,hil,hjl,e1,e2,n2,hne,hjr]
         rw [rows_swL]
         repeat (refine And.intro (by omega) ?_)
         exact ⟨swL Y s r,s+1,r-1,by omega,hsw,by simp⟩
      clear hK4
      refine j0m (α:=Nat) (fun z=>z) (fun z e=>(PV X Y a b s z∧z≤j)∧(e=fr [(0,some (.val (ownR Y))),(1,some (.val (I a))),(2,some (.val (I b))),(3,some (.val (I p))),(4,some (.val (.fn 314 []))),(12,some (.val (I s))),(13,some (.val (I z))),(120,some (.val (.sc (.bool false))))]∨e=fr [(0,some (.val (ownR Y))),(1,some (.val (I a))),(2,some (.val (I b))),(3,some (.val (I p))),(4,some (.val (.fn 314 []))),(12,some (.val (I s))),(13,some (.val (I z)))])) ?_ j _ ⟨⟨g3,Nat.le_refl _⟩,.inl (by simp)⟩
      rintro r e ⟨⟨g,gj⟩,hee⟩
      obtain ⟨hY,hal,hj1,hj2,hj3⟩:=g.facts hb hab2
      have hSY:=hS.pi g.pi
      by_cases hij:s≤r
      · have hjl:r<(Y).length:=by omega
        have e1:=gt_at hjl
        have e2:=gt_at hal
        have hc:=h314 (gt Y r) (gt Y a) (hSY.2 _)
        rcases hee with rfl | rfl
        all_goals
         simp [hij,hjl,hal,e1,e2]
         repeat (refine And.intro (by omega) ?_)
         refine j0e hc rfl rfl (fun _=>rfl) ?_
         by_cases hbf:bef (gt Y r) (gt Y a)
         · have hb':cmpL (gt Y r) (gt Y a)<0:=hbf
           simp [hb']
           exact hk4 r g gj (.inr hbf)
         · have hb':¬cmpL (gt Y r) (gt Y a)<0:=hbf
           have hjr:((r-1:Nat):Int)=(r:Int)-1:=by omega
           simp [hb']
           exact ⟨by omega,r-1,by omega,⟨g.right hij hbf,by omega⟩,.inr (by rw [hjr])⟩
      · rcases hee with rfl | rfl
        all_goals
         simp [hij,j01]
         exact hk4 r g gj (.inl (by omega))
     clear hK3
     refine j0m (α:=Nat) (fun z=>b-z) (fun z e=>(PV X Y a b z j∧i≤z)∧e=fr [(0,some (.val (ownR Y))),(1,some (.val (I a))),(2,some (.val (I b))),(3,some (.val (I p))),(4,some (.val (.fn 314 []))),(12,some (.val (I z))),(13,some (.val (I j)))]) ?_ i _ ⟨⟨g,Nat.le_refl _⟩,by simp⟩
     rintro s e ⟨⟨g,gs⟩,rfl⟩
     obtain ⟨hY,hal,hj1,hj2,hj3⟩:=g.facts hb hab2
     have hSY:=hS.pi g.pi
     by_cases hij:s≤j
     · have hij':(s:Int)≤j:=by omega
       have hil:s<(Y).length:=by omega
       have e1:=gt_at hil
       have e2:=gt_at hal
       have hc:=h314 (gt Y s) (gt Y a) (hSY.2 _)
       simp [hij,hil,hal,e1,e2]
       repeat (refine And.intro (by omega) ?_)
       refine j0e hc rfl rfl (fun _=>rfl) ?_
       by_cases hbf:bef (gt Y s) (gt Y a)
       · have hb':cmpL (gt Y s) (gt Y a)<0:=hbf
         simp [hb']
         exact ⟨by omega,s+1,by omega,⟨g.left hij hbf,by omega⟩,by simp⟩
       · have hb':¬cmpL (gt Y s) (gt Y a)<0:=hbf
         simp [hb']
         exact hk3 s g gs (.inr hbf)
     · simp [hij,j01]
       exact hk3 s g gs (.inl (by omega))
  clear hK2
  refine j0m (α:=Nat) (fun z=>z) (fun z e=>(PV X Y0 a b s z∧z≤j0)∧(e=fr [(0,some (.val (ownR Y0))),(1,some (.val (I a))),(2,some (.val (I b))),(3,some (.val (I p))),(4,some (.val (.fn 314 []))),(12,some (.val (I s))),(13,some (.val (I z))),(47,some (.val (.sc (.bool false))))]∨e=fr [(0,some (.val (ownR Y0))),(1,some (.val (I a))),(2,some (.val (I b))),(3,some (.val (I p))),(4,some (.val (.fn 314 []))),(12,some (.val (I s))),(13,some (.val (I z)))])) ?_ j0 _ ⟨⟨g1,Nat.le_refl _⟩,.inl (by simp)⟩
  rintro r e ⟨⟨g,gj⟩,hee⟩
  obtain ⟨hY,hal,hj1,hj2,hj3⟩:=g.facts hb hab2
  have hSY:=hS.pi g.pi
  by_cases hij:s≤r
  · have hjl:r<(Y0).length:=by omega
    have e1:=gt_at hjl
    have e2:=gt_at hal
    have hc:=h314 (gt Y0 r) (gt Y0 a) (hSY.2 _)
    rcases hee with rfl | rfl
    all_goals
     simp [hij,hjl,hal,e1,e2]
     repeat (refine And.intro (by omega) ?_)
     refine j0e hc rfl rfl (fun _=>rfl) ?_
     by_cases hbf:bef (gt Y0 r) (gt Y0 a)
     · have hb':cmpL (gt Y0 r) (gt Y0 a)<0:=hbf
       simp [hb']
       exact hk2 r g gj (.inr hbf)
     · have hb':¬cmpL (gt Y0 r) (gt Y0 a)<0:=hbf
       have hjr:((r-1:Nat):Int)=(r:Int)-1:=by omega
       simp [hb']
       exact ⟨by omega,r-1,by omega,⟨g.right hij hbf,by omega⟩,.inr (by rw [hjr])⟩
  · rcases hee with rfl | rfl
    all_goals
     simp [hij,j01]
     exact hk2 r g gj (.inl (by omega))
 clear hK1
 refine j0m (α:=Nat) (fun z=>b-z) (fun z e=>(PV X Y0 a b z j0∧(a+1)≤z)∧e=fr [(0,some (.val (ownR Y0))),(1,some (.val (I a))),(2,some (.val (I b))),(3,some (.val (I p))),(4,some (.val (.fn 314 []))),(12,some (.val (I z))),(13,some (.val (I j0)))]) ?_ (a+1) _ ⟨⟨hg0,Nat.le_refl _⟩,by simp⟩
 rintro s e ⟨⟨g,gs⟩,rfl⟩
 obtain ⟨hY,hal,hj1,hj2,hj3⟩:=g.facts hb hab2
 have hSY:=hS.pi g.pi
 by_cases hij:s≤j0
 · have hij':(s:Int)≤j0:=by omega
   have hil:s<(Y0).length:=by omega
   have e1:=gt_at hil
   have e2:=gt_at hal
   have hc:=h314 (gt Y0 s) (gt Y0 a) (hSY.2 _)
   simp [hij,hil,hal,e1,e2]
   repeat (refine And.intro (by omega) ?_)
   refine j0e hc rfl rfl (fun _=>rfl) ?_
   by_cases hbf:bef (gt Y0 s) (gt Y0 a)
   · have hb':cmpL (gt Y0 s) (gt Y0 a)<0:=hbf
     simp [hb']
     exact ⟨by omega,s+1,by omega,⟨g.left hij hbf,by omega⟩,by simp⟩
   · have hb':¬cmpL (gt Y0 s) (gt Y0 a)<0:=hbf
     simp [hb']
     exact hk1 s g gs (.inr hbf)
 · simp [hij,j01]
   exact hk1 s g gs (.inl (by omega))
end Go.Mch
namespace Go.Mch

def Lb (X:List (List Int)) (a b:Nat):Prop:=a=0∨∀ k,a≤k→k<b→bef (gt X (a-1)) (gt X k)
theorem Lb.pi {X Y:List (List Int)} {a b:Nat} (h:Lb X a b) (g:PI X Y a b):Lb Y a b:=by
 rcases h with h | h
 · exact .inl h
 · by_cases h0:a=0
   · exact .inl h0
   · refine .inr fun k h1 h2=>?_
     obtain ⟨k',p1,p2,p3⟩:=g.fwd k h1 h2
     rw [g.out (a-1) (by omega),p3]
     exact h k' p1 p2
theorem SI.keep {Y Z:List (List Int)} {a i:Nat} (h:SI Y a i) (hk:∀ k,k<i→gt Z k=gt Y k):SI Z a i:=fun p q h1 h2 h3=>by
 rw [hk p (by omega),hk q h3]
 exact h p q h1 h2 h3
theorem SI.grow {Y:List (List Int)} {a r:Nat} (h:SI Y a (r+1)) (hb:bef (gt Y r) (gt Y (r+1))):SI Y a (r+2):=fun p q h1 h2 h3=>by
 by_cases hq:q=r+1
 · subst hq
   by_cases hp:p=r
   · subst hp;exact hb
   · exact bef_trans (h p r h1 (by omega) (by omega)) hb
 · exact h p q h1 h2 (by omega)
def S_pins (pg:Pg):Prop:=∀ (X:List (List Int)) (a b:Nat),Sm X→Dj X→a<b→b≤X.length→Lb X a b →
 ∃ (Y:List (List Int)) (t:Bool),(PI X Y a b∧(t=true→SI Y a b))∧Call pg 438 [ownR X,I a,I b,.fn 314 []] [ownR Y,I a,I b,.fn 314 []] (.sc (.bool t))
set_option maxRecDepth 10000 in
theorem t_partialInsertionSort {pg:Pg} (hp:pg.fn 438=some j0o) (h314:S_cmpL pg):S_pins pg:=by
 intro X a b hS hD hab hb hLb
 have hX1:=hS.1
 have hfind:=Call.findA (α:=List (List Int)×Bool) (Q:=fun z=>PI X z.1 a b∧(z.2=true→SI z.1 a b)) (args:=[ownR X,I a,I b,.fn 314 []]) (args':=fun z=>[ownR z.1,I a,I b,.fn 314 []]) (r:=fun z=>.sc (.bool z.2)) hp rfl (by simp [F.lets,j0o,List.range,List.range.loop]) (kind_own _ _) ?_
 · obtain ⟨z,h1,h2⟩:=hfind
   exact ⟨z.1,z.2,h1,h2⟩
 show wp _ _ j0o.body (postX _ [.t 8] _ _ _) _
 generalize hR:postX (fun z:List (List Int)×Bool=>PI X z.1 a b∧(z.2=true→SI z.1 a b)) [.t 8] [ownR X,I a,I b,.fn 314 []] (fun z=>[ownR z.1,I a,I b,.fn 314 []]) (fun z=>.sc (.bool z.2))=R
 simp [j0o]
 repeat (refine And.intro (by omega) ?_)
 refine j0m (α:=List (List Int)×Nat×Nat) (fun z=>5-z.2.2) (fun z e=>(PI X z.1 a b∧SI z.1 a z.2.1∧a<z.2.1∧z.2.1≤b∧z.2.2≤5)∧e=fr [(0,some (.val (ownR z.1))),(1,some (.val (I a))),(2,some (.val (I b))),(3,some (.val (.fn 314 []))),(9,some (.val (I z.2.1))),(10,some (.val (I z.2.2)))]) ?_ (X,a+1,0) _ ⟨⟨PI.refl hD a b,SI.one X (by simp),by simp,by simp only;omega,by simp⟩,by simp⟩
 rintro ⟨Y,i,k⟩ e ⟨⟨g1,g2,g3,g4,g5⟩,rfl⟩
 simp only at g1 g2 g3 g4 g5
 by_cases hk5:k<5
 · have hk5':(k:Int)<5:=by omega
   simp [hk5']
   generalize hK2:Go.Mch.X.out 2 _=K2
   have hk2:∀ s:Nat,SI Y a s→a<s→s≤b→(s=b∨bef (gt Y s) (gt Y (s-1)))→K2 (.ext 2) (fr [(0,some (.val (ownR Y))),(1,some (.val (I a))),(2,some (.val (I b))),(3,some (.val (.fn 314 []))),(9,some (.val (I s))),(10,some (.val (I k))),(36,some (.val (.sc (.bool false))))]):=by
    intro s g2 g3 g4 hx
    rw [← hK2]
    have hY:=g1.len
    simp
    by_cases hsb:s=b
    · subst hsb
      simp
      rw [← hR]
      exact ⟨(Y,true),⟨g1,fun _=>g2⟩,by simp [post]⟩
    · obtain ⟨r,rfl⟩:∃ r,s=r+1:=⟨s-1,by omega⟩
      have hsb':¬(r:Int)+1=b:=by omega
      by_cases h50:(b:Int)-a<50
      · simp [hsb',h50]
        repeat (refine And.intro (by omega) ?_)
        rw [← hR]
        exact ⟨(Y,false),⟨g1,fun h=>by simp at h⟩,by simp [post]⟩
      · have hrl:r<Y.length:=by omega
        have hrl1:r+1<Y.length:=by omega
        have e1:=gt_at hrl
        have e2:=gt_at hrl1
        have n1:(r+1 == r)=false:=by simp
        have n2:(r == r+1)=false:=by simp
        have hsw:PI X (swL Y (r+1) r) a b:=g1.swap hb ⟨by omega,by omega⟩ ⟨by omega,by omega⟩
        have hsj:SJ (swL Y (r+1) r) a r (r+1):=fun p q h1 h2 h3 h4=>by
         rw [gt_swL (by omega) (by omega),gt_swL (by omega) (by omega)]
         unfold tau
         rw [if_neg (by omega),if_neg (by omega),if_neg (by omega),if_neg (by omega)]
         exact g2 p q h1 h2 (by omega)
        by_cases h2:2≤(r:Int)+1-a
        · simp [hsb',h50,hrl,hrl1,e1,e2,n1,h2]
          rw [rows_swL]
          repeat (refine And.intro (by omega) ?_)
          generalize hK4:Go.Mch.X.out 4 _=K4
          have hk4:∀ (Z:List (List Int)) (j:Nat) (e:Env),PI X Z a b→SI Z a (r+1)→(e=fr [(0,some (.val (ownR Z))),(1,some (.val (I a))),(2,some (.val (I b))),(3,some (.val (.fn 314 []))),(9,some (.val (I (r+1)))),(10,some (.val (I k))),(11,some (.val (I j))),(69,some (.val (.sc (.bool false))))]∨e=fr [(0,some (.val (ownR Z))),(1,some (.val (I a))),(2,some (.val (I b))),(3,some (.val (.fn 314 []))),(9,some (.val (I (r+1)))),(10,some (.val (I k))),(11,some (.val (I j))),(84,some (.val (.sc (.bool true))))])→K4 (.ext 4) e:=by
           intro Z j e z1 z2 hee
           rw [← hK4]
           have hZ:=z1.len
           rcases hee with rfl | rfl
           all_goals
            simp
            by_cases hbi:2≤(b:Int)-((r:Int)+1)
            · simp [hbi]
              repeat (refine And.intro (by omega) ?_)
              refine j0m (α:=List (List Int)×Nat) (fun z=>b-z.2) (fun z e=>(PI X z.1 a b∧SI z.1 a (r+1)∧r+1<z.2∧z.2≤b)∧e=fr [(0,some (.val (ownR z.1))),(1,some (.val (I a))),(2,some (.val (I b))),(3,some (.val (.fn 314 []))),(9,some (.val (I (r+1)))),(10,some (.val (I k))),(12,some (.val (I z.2)))]) ?_ (Z,r+1+1) _ ⟨⟨z1,z2,by simp,by simp only;omega⟩,by simp⟩
              rintro ⟨W,j⟩ e ⟨⟨w1,w2,w3,w4⟩,rfl⟩
              simp only at w1 w2 w3 w4
              have hW:=w1.len
              have hSW:=hS.pi w1
              by_cases hjb:j<b
              · obtain ⟨s,rfl⟩:∃ s,j=s+1:=⟨j-1,by omega⟩
                have hsl:s<W.length:=by omega
                have hsl1:s+1<W.length:=by omega
                have e1:=gt_at hsl
                have e2:=gt_at hsl1
                have hc:=h314 (gt W (s+1)) (gt W s) (hSW.2 _)
                have hjb':(s:Int)+1<b:=by omega
                simp [hjb',hsl,hsl1,e1,e2]
                repeat (refine And.intro (by omega) ?_)
                refine j0e hc rfl rfl (fun _=>rfl) ?_
                by_cases hbf:bef (gt W (s+1)) (gt W s)
                · have hb':cmpL (gt W (s+1)) (gt W s)<0:=hbf
                  have n1:(s+1 == s)=false:=by simp
                  have n2:(s == s+1)=false:=by simp
                  simp [hb',hsl,hsl1,e1,e2,n1]
                  rw [rows_swL]
                  repeat (refine And.intro (by omega) ?_)
                  exact ⟨swL W (s+1) s,s+1+1,by omega,⟨w1.swap hb ⟨by omega,by omega⟩ ⟨by omega,by omega⟩,w2.keep fun q hq=>by
                   rw [gt_swL (by omega) (by omega)]
                   unfold tau
                   rw [if_neg (by omega),if_neg (by omega)],by omega,by omega⟩,by simp⟩
                · have hb':¬cmpL (gt W (s+1)) (gt W s)<0:=hbf
                  simp [hb']
                  repeat (refine And.intro (by omega) ?_)
                  exact ⟨W,r+1,k+1,by omega,⟨w1,w2,by omega,by omega,by omega⟩,by simp⟩
              · simp [hjb]
                repeat (refine And.intro (by omega) ?_)
                exact ⟨W,r+1,k+1,by omega,⟨w1,w2,by omega,by omega,by omega⟩,by simp⟩
            · simp [hbi]
              repeat (refine And.intro (by omega) ?_)
              exact ⟨Z,r+1,k+1,by omega,⟨z1,z2,by omega,by omega,by omega⟩,by simp⟩
          clear hK4
          refine j0m (α:=List (List Int)×Nat) (fun z=>z.2) (fun z e=>(PI X z.1 a b∧SJ z.1 a z.2 (r+1)∧a≤z.2∧z.2<r+1)∧e=fr [(0,some (.val (ownR z.1))),(1,some (.val (I a))),(2,some (.val (I b))),(3,some (.val (.fn 314 []))),(9,some (.val (I (r+1)))),(10,some (.val (I k))),(11,some (.val (I z.2)))]) ?_ (swL Y (r+1) r,r) _ ⟨⟨hsw,hsj,by omega,by omega⟩,by simp⟩
          rintro ⟨Z,j⟩ e ⟨⟨z1,z2,z3,z4⟩,rfl⟩
          simp only at z1 z2 z3 z4
          have hZ:=z1.len
          have hSZ:=hS.pi z1
          have hLZ:=hLb.pi z1
          by_cases hj1:1≤j
          · obtain ⟨s,rfl⟩:∃ s,j=s+1:=⟨j-1,by omega⟩
            have hsl:s<Z.length:=by omega
            have hsl1:s+1<Z.length:=by omega
            have e1:=gt_at hsl
            have e2:=gt_at hsl1
            have hc:=h314 (gt Z (s+1)) (gt Z s) (hSZ.2 _)
            have hj1':(1:Int)≤(s:Int)+1:=by omega
            simp [hj1',hsl,hsl1,e1,e2]
            repeat (refine And.intro (by omega) ?_)
            refine j0e hc rfl rfl (fun _=>rfl) ?_
            by_cases hbf:bef (gt Z (s+1)) (gt Z s)
            · have has:a≤s:=by
               by_cases h:a=s+1
               · rcases hLZ with h0 | h0
                 · omega
                 · have:=h0 (s+1) (by omega) (by omega)
                   rw [h] at this
                   exact absurd this (bef_not hbf)
               · omega
              have hb':cmpL (gt Z (s+1)) (gt Z s)<0:=hbf
              have n1:(s+1 == s)=false:=by simp
              have n2:(s == s+1)=false:=by simp
              simp [hb',hsl,hsl1,e1,e2,n1]
              rw [rows_swL]
              repeat (refine And.intro (by omega) ?_)
              exact ⟨swL Z (s+1) s,s,by omega,⟨z1.swap hb ⟨by omega,by omega⟩ ⟨by omega,by omega⟩,z2.step has (by omega) (by omega) hbf,by omega,by omega⟩,by simp⟩
            · have hb':¬cmpL (gt Z (s+1)) (gt Z s)<0:=hbf
              have hbb:=z1.dj.or hsl1 hsl (by omega) hbf
              simp [hb']
              refine hk4 Z (s+1) _ z1 (z2.done (.inr hbb)) (.inr ?_)
              simp
          · have hj0:j=0:=by omega
            subst hj0
            simp
            exact hk4 Z 0 _ z1 (z2.done (.inl (by omega))) (.inl (by simp))
        · have hsi:SI (swL Y (r+1) r) a (r+1):=SI.one _ (by omega)
          simp [hsb',h50,hrl,hrl1,e1,e2,n1,h2]
          rw [rows_swL]
          repeat (refine And.intro (by omega) ?_)
          by_cases hbi:2≤(b:Int)-((r:Int)+1)
          · simp [hbi]
            repeat (refine And.intro (by omega) ?_)
            refine j0m (α:=List (List Int)×Nat) (fun z=>b-z.2) (fun z e=>(PI X z.1 a b∧SI z.1 a (r+1)∧r+1<z.2∧z.2≤b)∧e=fr [(0,some (.val (ownR z.1))),(1,some (.val (I a))),(2,some (.val (I b))),(3,some (.val (.fn 314 []))),(9,some (.val (I (r+1)))),(10,some (.val (I k))),(12,some (.val (I z.2)))]) ?_ ((swL Y (r+1) r),r+1+1) _ ⟨⟨hsw,hsi,by simp,by simp only;omega⟩,by simp⟩
            rintro ⟨W,j⟩ e ⟨⟨w1,w2,w3,w4⟩,rfl⟩
            simp only at w1 w2 w3 w4
            have hW:=w1.len
            have hSW:=hS.pi w1
            by_cases hjb:j<b
            · obtain ⟨s,rfl⟩:∃ s,j=s+1:=⟨j-1,by omega⟩
              have hsl:s<W.length:=by omega
              have hsl1:s+1<W.length:=by omega
              have e1:=gt_at hsl
              have e2:=gt_at hsl1
              have hc:=h314 (gt W (s+1)) (gt W s) (hSW.2 _)
              have hjb':(s:Int)+1<b:=by omega
              simp [hjb',hsl,hsl1,e1,e2]
              repeat (refine And.intro (by omega) ?_)
              refine j0e hc rfl rfl (fun _=>rfl) ?_
              by_cases hbf:bef (gt W (s+1)) (gt W s)
              · have hb':cmpL (gt W (s+1)) (gt W s)<0:=hbf
                have n1:(s+1 == s)=false:=by simp
                have n2:(s == s+1)=false:=by simp
                simp [hb',hsl,hsl1,e1,e2,n1]
                rw [rows_swL]
                repeat (refine And.intro (by omega) ?_)
                exact ⟨swL W (s+1) s,s+1+1,by omega,⟨w1.swap hb ⟨by omega,by omega⟩ ⟨by omega,by omega⟩,w2.keep fun q hq=>by
                 rw [gt_swL (by omega) (by omega)]
                 unfold tau
                 rw [if_neg (by omega),if_neg (by omega)],by omega,by omega⟩,by simp⟩
              · have hb':¬cmpL (gt W (s+1)) (gt W s)<0:=hbf
                simp [hb']
                repeat (refine And.intro (by omega) ?_)
                exact ⟨W,r+1,k+1,by omega,⟨w1,w2,by omega,by omega,by omega⟩,by simp⟩
            · simp [hjb]
              repeat (refine And.intro (by omega) ?_)
              exact ⟨W,r+1,k+1,by omega,⟨w1,w2,by omega,by omega,by omega⟩,by simp⟩
          · simp [hbi]
            repeat (refine And.intro (by omega) ?_)
            exact ⟨(swL Y (r+1) r),r+1,k+1,by omega,⟨hsw,hsi,by omega,by omega,by omega⟩,by simp⟩
   clear hK2
   refine j0m (α:=Nat) (fun z=>b-z) (fun z e=>(SI Y a z∧a<z∧z≤b)∧(e=fr [(0,some (.val (ownR Y))),(1,some (.val (I a))),(2,some (.val (I b))),(3,some (.val (.fn 314 []))),(9,some (.val (I z))),(10,some (.val (I k))),(16,some (.val (.sc (.bool true))))]∨e=fr [(0,some (.val (ownR Y))),(1,some (.val (I a))),(2,some (.val (I b))),(3,some (.val (.fn 314 []))),(9,some (.val (I z))),(10,some (.val (I k)))])) ?_ i _ ⟨⟨g2,g3,g4⟩,.inl rfl⟩
   rintro s e ⟨⟨s1,s2,s3⟩,hee⟩
   have hY:=g1.len
   have hSY:=hS.pi g1
   by_cases hsb:s<b
   · obtain ⟨r,rfl⟩:∃ r,s=r+1:=⟨s-1,by omega⟩
     have hrl:r<Y.length:=by omega
     have hrl1:r+1<Y.length:=by omega
     have e1:=gt_at hrl
     have e2:=gt_at hrl1
     have hc:=h314 (gt Y (r+1)) (gt Y r) (hSY.2 _)
     have hsb':(r:Int)+1<b:=by omega
     rcases hee with rfl | rfl
     all_goals
      simp [hsb',hrl,hrl1,e1,e2]
      repeat (refine And.intro (by omega) ?_)
      refine j0e hc rfl rfl (fun _=>rfl) ?_
      by_cases hbf:bef (gt Y (r+1)) (gt Y r)
      · have hb':cmpL (gt Y (r+1)) (gt Y r)<0:=hbf
        simp [hb']
        have:=hk2 (r+1) s1 s2 s3 (.inr (by simpa using hbf))
        simpa using this
      · have hb':¬cmpL (gt Y (r+1)) (gt Y r)<0:=hbf
        simp [hb']
        exact ⟨by omega,r+1+1,by omega,⟨s1.grow (g1.dj.or hrl1 hrl (by omega) hbf),by omega,by omega⟩,.inr (by simp)⟩
   · have hsb2:s=b:=by omega
     rcases hee with rfl | rfl
     all_goals
      simp [hsb,j01]
      exact hk2 s s1 s2 s3 (.inl hsb2)
 · have hk5':¬(k:Int)<5:=by omega
   simp [hk5']
   rw [← hR]
   exact ⟨(Y,false),⟨g1,fun h=>by simp at h⟩,by simp [post]⟩
end Go.Mch
namespace Go.Mch

def Cut (Y:List (List Int)) (m a b:Nat):Prop:=∀ p q,a≤p→p<m→m≤q→q<b→bef (gt Y p) (gt Y q)
section
variable {Y Z:List (List Int)} {m a b c d u v:Nat}
theorem Cut.pi (h:Cut Y m a b) (g:PI Y Z u v) (hu:a≤u) (hv:v≤b) (hm:v≤m∨m≤u):Cut Z m a b:=by
 intro p q h1 h2 h3 h4
 have hp:∃ p',a≤p'∧p'<m∧gt Z p=gt Y p':=by
  by_cases hk:u≤p∧p<v
  · obtain ⟨p',q1,q2,q3⟩:=g.fwd p hk.1 hk.2
    exact ⟨p',by omega,by omega,q3⟩
  · exact ⟨p,h1,h2,g.out p (by omega)⟩
 have hq:∃ q',m≤q'∧q'<b∧gt Z q=gt Y q':=by
  by_cases hk:u≤q∧q<v
  · obtain ⟨p',q1,q2,q3⟩:=g.fwd q hk.1 hk.2
    exact ⟨p',by omega,by omega,q3⟩
  · exact ⟨q,h3,h4,g.out q (by omega)⟩
 obtain ⟨p',p1,p2,p3⟩:=hp
 obtain ⟨q',q1,q2,q3⟩:=hq
 rw [p3,q3]
 exact h p' q' p1 p2 q1 q2
theorem SI.out (h:SI Y c d) (g:PI Y Z u v) (hm:d≤u∨v≤c):SI Z c d:=fun p q h1 h2 h3=>by
 rw [g.out p (by omega),g.out q (by omega)]
 exact h p q h1 h2 h3
theorem SI.join (h1:SI Y c m) (h2:SI Y m d) (h:Cut Y m a b) (hc:a≤c) (hd:d≤b):SI Y c d:=fun p q p1 p2 p3=>by
 by_cases hp:p<m
 · by_cases hq:q<m
   · exact h1 p q p1 p2 hq
   · exact h p q (by omega) hp (by omega) (by omega)
 · exact h2 p q (by omega) p2 p3
structure Fr (Y:List (List Int)) (a c d b:Nat):Prop where
 lo:SI Y a c
 hi:SI Y d b
 cl:Cut Y c a b
 ch:Cut Y d a b
 h1:a≤c
 h2:c≤d
 h3:d≤b
theorem Fr.pi (h:Fr Y a c d b) (g:PI Y Z c d):Fr Z a c d b :=
 ⟨h.lo.out g (.inl (Nat.le_refl _)),h.hi.out g (.inr (Nat.le_refl _)),h.cl.pi g h.h1 h.h3 (.inr (Nat.le_refl _)),h.ch.pi g h.h1 h.h3 (.inl (Nat.le_refl _)),h.h1,h.h2,h.h3⟩
theorem Fr.fin (h:Fr Y a c d b) (hs:SI Y c d):SI Y a b :=
 h.lo.join (hs.join h.hi h.ch h.h1 (Nat.le_refl _)) h.cl (Nat.le_refl _) (Nat.le_refl _)
theorem Fr.lb (h:Fr Y a c d b) (hl:Lb Y a b):Lb Y c d:=by
 have h1:=h.h1
 have h3:=h.h3
 by_cases hc:c=a
 · subst hc
   rcases hl with hl | hl
   · exact .inl hl
   · exact .inr fun k k1 k2=>hl k k1 (by omega)
 · exact .inr fun k k1 k2=>h.cl (c-1) k (by omega) (by omega) k1 (by omega)
theorem Fr.cutm (h:Fr Y a c d b) (hm1:c≤m) (hm2:m<d) (hl:∀ k,c≤k→k<m→bef (gt Y k) (gt Y m)) (hr:∀ k,m<k→k<d→bef (gt Y m) (gt Y k)):Cut Y m a b∧Cut Y (m+1) a b:=by
 have h3:=h.h3
 have key:∀ p q,a≤p→p<q→q<b→p≤m→m≤q→bef (gt Y p) (gt Y q):=fun p q p1 p2 p3 p4 p5=>by
  by_cases hq:d≤q
  · exact h.ch p q p1 (by omega) hq p3
  · by_cases hp:p<c
    · exact h.cl p q p1 hp (by omega) p3
    · by_cases hpm:p=m
      · subst hpm;exact hr q p2 (by omega)
      · by_cases hqm:q=m
        · subst hqm;exact hl p (by omega) p2
        · exact bef_trans (hl p (by omega) (by omega)) (hr q (by omega) (by omega))
 exact ⟨fun p q p1 p2 p3 p4=>key p q p1 (by omega) p4 (by omega) p3,fun p q p1 p2 p3 p4=>key p q p1 (by omega) p4 (by omega) (by omega)⟩
theorem Fr.left (h:Fr Y a c d b) (hm1:c≤m) (hm2:m<d) (hc:Cut Y m a b∧Cut Y (m+1) a b) (g:PI Y Z c m) (hs:SI Z c m):Fr Z a (m+1) d b:=by
 have h1:=h.h1
 have h3:=h.h3
 have c1:Cut Z c a b:=h.cl.pi g h1 (by omega) (.inr (Nat.le_refl _))
 have c2:Cut Z m a b:=hc.1.pi g h1 (by omega) (.inl (Nat.le_refl _))
 have c3:Cut Z (m+1) a b:=hc.2.pi g h1 (by omega) (.inl (by omega))
 have s1:SI Z a m:=(h.lo.out g (.inl (Nat.le_refl _))).join hs c1 (Nat.le_refl _) (by omega)
 exact ⟨s1.join (SI.one Z (Nat.le_refl _)) c2 (Nat.le_refl _) (by omega),h.hi.out g (.inr (by omega)),c3,h.ch.pi g h1 (by omega) (.inl (by omega)),by omega,by omega,h3⟩
theorem Fr.right (h:Fr Y a c d b) (hm1:c≤m) (hm2:m<d) (hc:Cut Y m a b∧Cut Y (m+1) a b) (g:PI Y Z (m+1) d) (hs:SI Z (m+1) d):Fr Z a c m b:=by
 have h1:=h.h1
 have h3:=h.h3
 have c1:Cut Z d a b:=h.ch.pi g (by omega) h3 (.inl (Nat.le_refl _))
 have c2:Cut Z m a b:=hc.1.pi g (by omega) h3 (.inr (by omega))
 have c3:Cut Z (m+1) a b:=hc.2.pi g (by omega) h3 (.inr (Nat.le_refl _))
 have s1:SI Z (m+1) b:=hs.join (h.hi.out g (.inr (Nat.le_refl _))) c1 (by omega) (Nat.le_refl _)
 exact ⟨h.lo.out g (.inl (by omega)),(SI.one Z (Nat.le_refl _)).join s1 c3 (by omega) (Nat.le_refl _),h.cl.pi g (by omega) h3 (.inr (by omega)),c2,h1,hm1,by omega⟩
theorem Fr.start (h:a≤b):Fr Y a a b b :=
 ⟨SI.one Y (by omega),SI.one Y (by omega),fun p q h1 h2 h3 h4=>by omega,fun p q h1 h2 h3 h4=>by omega,Nat.le_refl _,h,Nat.le_refl _⟩
end

def cutP (P:Env→Prop) (R:X→Env→Prop) (x:X) (e:Env):Prop:=if x=.nrm then P e else R x e
theorem cutP_nrm {P:Env→Prop} {R:X→Env→Prop} {e:Env} (h:P e):cutP P R .nrm e:=by
 unfold cutP
 rw [if_pos rfl]
 exact h
theorem cutP_ret {P:Env→Prop} {R:X→Env→Prop} {e:Env} (h:R .ret e):cutP P R .ret e:=by
 unfold cutP
 rw [if_neg (by simp)]
 exact h
theorem wp_cut {G:Rl} {k:K} {A B:C} {R:X→Env→Prop} {e:Env} (P:Env→Prop) (h1:wp G k A (cutP P R) e) (h2:∀ e',P e'→wp G k B R e'):wp G k (.seq A B) R e:=by
 show wp G k A (X.after (wp G k B R) R) e
 refine wp_mono (fun _ _ _ _ h=>h) _ ?_ h1
 intro x e' hx
 unfold cutP at hx
 cases x with
 | nrm=>rw [if_pos rfl] at hx;exact h2 e' hx
 | ret=>rw [if_neg (by simp)] at hx;exact hx
 | ext i=>rw [if_neg (by simp)] at hx;exact hx
theorem wp_block {G:Rl} {k:K} {i:Nat} {A:C} {R:X→Env→Prop} {e:Env} (h:wp G k A (X.out i R) e):wp G k (.block i A) R e:=h
theorem wp_cut' {G:Rl} {k:K} {A B:C} {R:X→Env→Prop} {e:Env} (P:Env→Prop) (h1:∀ J:X→Env→Prop,(∀ e',P e'→J .nrm e')→(∀ e',R .ret e'→J .ret e')→wp G k A J e) (h2:∀ e',P e'→wp G k B R e'):wp G k (.seq A B) R e :=
 wp_cut P (h1 _ (fun _=>cutP_nrm) (fun _=>cutP_ret)) h2
def ExWB (P:Bool→Bool→Prop):Prop:=∃ x y,P x y
def S_pdq (pg:Pg):Prop:=∀ (X:List (List Int)) (a b lim:Nat),Sm X→Dj X→a≤b→b≤X.length→Lb X a b→lim≤64 →
 ∃ Y,(PI X Y a b∧SI Y a b)∧Call pg 393 [ownR X,I a,I b,I lim,.fn 314 []] [ownR Y,I a,I b,I lim,.fn 314 []] (.tup [])
end Go.Mch
namespace Go.Mch

set_option maxRecDepth 10000 in
theorem t_pdq {pg:Pg} (hp:pg.fn 393=some j1a) (h433:S_insSort pg) (h434:S_heap pg) (h435:S_brk pg) (h436:S_piv pg) (h437:S_revR pg) (h438:S_pins pg) (h440:S_part pg) (h314:S_cmpL pg):S_pdq pg:=by
 have main:∀ (n:Nat) (X:List (List Int)) (a b lim:Nat),b-a=n→Sm X→Dj X→a≤b→b≤X.length→Lb X a b→lim≤64 →
  ∃ Y,(PI X Y a b∧SI Y a b)∧Call pg 393 [ownR X,I a,I b,I lim,.fn 314 []] [ownR Y,I a,I b,I lim,.fn 314 []] (.tup []):=by
  intro n
  induction n using Nat.strongRecOn with
  | ind n ih =>
  intro X a b lim hn hS hD hab hb hLb hlim
  have hX1:=hS.1
  refine Call.findA (α:=List (List Int)) (Q:=fun Y=>PI X Y a b∧SI Y a b) (args':=fun Y=>[ownR Y,I a,I b,I lim,.fn 314 []]) (r:=fun _=>.tup []) hp rfl (by simp [F.lets,j1a,List.range,List.range.loop]) (kind_own _ _) ?_
  show wp _ _ j1a.body (postX _ [] _ _ _) _
  generalize hR:postX (fun Y=>PI X Y a b∧SI Y a b) [] [ownR X,I a,I b,I lim,.fn 314 []] (fun Y=>[ownR Y,I a,I b,I lim,.fn 314 []]) (fun _=>T.tup [])=R
  simp [j1a]
  refine j0m (α:=List (List Int)×Nat×Nat×Nat) (fun z=>z.2.2.1-z.2.1) (fun z e=>(PI X z.1 a b∧Fr z.1 a z.2.1 z.2.2.1 b∧z.2.2.2≤64)∧ExWB fun wb wq=>e=fr [(0,some (.val (ownR z.1))),(1,some (.val (I z.2.1))),(2,some (.val (I z.2.2.1))),(3,some (.val (I z.2.2.2))),(4,some (.val (.fn 314 []))),(10,some (.val (.sc (.bool wb)))),(11,some (.val (.sc (.bool wq))))]) ?_ (X,a,b,lim) _ ⟨⟨PI.refl hD a b,Fr.start hab,hlim⟩,true,true,by simp⟩
  rintro ⟨Y,c,d,l⟩ e ⟨⟨g1,g2,g3⟩,wb,wq,rfl⟩
  simp only at g1 g2 g3
  have hY:=g1.len
  have f1:=g2.h1
  have f2:=g2.h2
  have f3:=g2.h3
  have hSY:=hS.pi g1
  have hLY:=g2.lb (hLb.pi g1)
  obtain ⟨k0,hk0⟩:∃ k0:Nat,(d:Int)-c=k0:=⟨d-c,by omega⟩
  refine wp_block ?_
  refine wp_cut' (fun e=>e=fr [(0,some (.val (ownR Y))),(1,some (.val (I c))),(2,some (.val (I d))),(3,some (.val (I l))),(4,some (.val (.fn 314 []))),(10,some (.val (.sc (.bool wb)))),(11,some (.val (.sc (.bool wq)))),(12,some (.val (I k0)))]) (fun J hJ hJr=>?_) ?_
  · simp [hk0]
    repeat (refine And.intro (by omega) ?_)
    exact hJ _ (by simp)
  rintro e rfl
  refine wp_cut' (fun e=>12<k0∧e=fr [(0,some (.val (ownR Y))),(1,some (.val (I c))),(2,some (.val (I d))),(3,some (.val (I l))),(4,some (.val (.fn 314 []))),(10,some (.val (.sc (.bool wb)))),(11,some (.val (.sc (.bool wq)))),(12,some (.val (I k0))),(25,some (.val (.sc (.bool false))))]) (fun J hJ hJr=>?_) ?_
  · by_cases h12:(k0:Int)≤12
    · obtain ⟨Z,_,z1,rfl,z2,z3⟩:=h433 Y c d hSY g1.dj (by omega) (by omega) trivial
      have h12':k0≤12:=by omega
      simp [h12]
      refine callM (ts':=[ownR Z,I c,I d,.fn 314 []]) (r:=.tup []) ?_ ?_ ?_ ?_
      · simp
      · simpa using z3
      · simp
      · simp
        refine hJr _ ?_
        simp
        rw [← hR]
        exact ⟨Z,⟨g1.trans (z1.wide f1 f3),(g2.pi z1).fin z2⟩,by simp [post]⟩
    · have h12':¬k0≤12:=by omega
      simp [h12]
      exact hJ _ ⟨by omega,by simp⟩
  rintro e ⟨hk12,rfl⟩
  refine wp_cut' (fun e=>0<l∧e=fr [(0,some (.val (ownR Y))),(1,some (.val (I c))),(2,some (.val (I d))),(3,some (.val (I l))),(4,some (.val (.fn 314 []))),(10,some (.val (.sc (.bool wb)))),(11,some (.val (.sc (.bool wq)))),(12,some (.val (I k0))),(32,some (.val (.sc (.bool false))))]) (fun J hJ hJr=>?_) ?_
  · by_cases hl0:l=0
    · obtain ⟨Z,_,z1,rfl,z2,z3⟩:=h434 Y c d hSY g1.dj (by omega) (by omega) trivial
      subst hl0
      simp
      refine callM (ts':=[ownR Z,I c,I d,.fn 314 []]) (r:=.tup []) ?_ ?_ ?_ ?_
      · simp
      · simpa using z3
      · simp
      · simp
        refine hJr _ ?_
        simp
        rw [← hR]
        exact ⟨Z,⟨g1.trans (z1.wide f1 f3),(g2.pi z1).fin z2⟩,by simp [post]⟩
    · simp [hl0]
      exact hJ _ ⟨by omega,by simp⟩
  rintro e ⟨hl0,rfl⟩
  refine wp_cut' (fun e=>∃ (Y1:List (List Int)) (l1:Nat),(PI Y Y1 c d∧l1≤64)∧(e=fr [(0,some (.val (ownR Y1))),(1,some (.val (I c))),(2,some (.val (I d))),(3,some (.val (I l1))),(4,some (.val (.fn 314 []))),(10,some (.val (.sc (.bool wb)))),(11,some (.val (.sc (.bool wq)))),(12,some (.val (I k0)))]∨e=fr [(0,some (.val (ownR Y1))),(1,some (.val (I c))),(2,some (.val (I d))),(3,some (.val (I l1))),(4,some (.val (.fn 314 []))),(10,some (.val (.sc (.bool wb)))),(11,some (.val (.sc (.bool wq)))),(12,some (.val (I k0))),(39,some (.val (.sc (.bool false))))])) (fun J hJ hJr=>?_) ?_
  · cases wb with
    | true =>
     simp
     exact hJ _ ⟨Y,l,⟨PI.refl g1.dj c d,g3⟩,.inr (by simp)⟩
    | false =>
     obtain ⟨Z,_,z1,rfl,z2,z3⟩:=h435 Y c d hSY g1.dj (by omega) (by omega) trivial
     have hl1:(l:Int)-1=((l-1:Nat):Int):=by omega
     simp
     refine callM (ts':=[ownR Z,I c,I d,.fn 314 []]) (r:=.tup []) ?_ ?_ ?_ ?_
     · simp
     · simpa using z3
     · simp
     · simp
       repeat (refine And.intro (by omega) ?_)
       exact hJ _ ⟨Z,l-1,⟨z1,by omega⟩,.inl (by simp [hl1])⟩
  rintro e ⟨Y1,l1,⟨p1,p3⟩,hee⟩
  have g1:=g1.trans (p1.wide f1 f3)
  have g2:=g2.pi p1
  have hY1:=g1.len
  have hSY1:=hS.pi g1
  have hLY1:=hLY.pi p1
  clear hY hSY hLY p1
  obtain ⟨p,h,⟨q1,q2⟩,q3⟩:=h436 Y1 c d hSY1 (by omega) (by omega)
  refine wp_cut' (fun e=>e=fr [(0,some (.val (ownR Y1))),(1,some (.val (I c))),(2,some (.val (I d))),(3,some (.val (I l1))),(4,some (.val (.fn 314 []))),(10,some (.val (.sc (.bool wb)))),(11,some (.val (.sc (.bool wq)))),(12,some (.val (I k0))),(13,some (.val (I p))),(14,some (.val (I h)))]) (fun J hJ hJr=>?_) ?_
  · rcases hee with rfl | rfl
    all_goals
     simp
     refine callM (ts':=[ownR Y1,I c,I d,.fn 314 []]) (r:=.tup [I p,I h]) ?_ ?_ ?_ ?_
     · simp
     · simpa using q3
     · simp
     · simp
       exact hJ _ (by simp)
  clear hee q3
  rintro e rfl
  refine wp_cut' (fun e=>∃ (Y2:List (List Int)) (p2 h2:Nat),(PI Y1 Y2 c d∧c<p2∧p2<d)∧(e=fr [(0,some (.val (ownR Y2))),(1,some (.val (I c))),(2,some (.val (I d))),(3,some (.val (I l1))),(4,some (.val (.fn 314 []))),(10,some (.val (.sc (.bool wb)))),(11,some (.val (.sc (.bool wq)))),(12,some (.val (I k0))),(13,some (.val (I p2))),(14,some (.val (I h2)))]∨e=fr [(0,some (.val (ownR Y2))),(1,some (.val (I c))),(2,some (.val (I d))),(3,some (.val (I l1))),(4,some (.val (.fn 314 []))),(10,some (.val (.sc (.bool wb)))),(11,some (.val (.sc (.bool wq)))),(12,some (.val (I k0))),(13,some (.val (I p2))),(14,some (.val (I h2))),(56,some (.val (.sc (.bool false))))])) (fun J hJ hJr=>?_) ?_
  · by_cases hh2:h=2
    · obtain ⟨Z,_,z1,rfl,z2,z3⟩:=h437 Y1 c d hSY1 g1.dj (by omega) (by omega) trivial
      subst hh2
      have hp2:(d:Int)-1-((p:Int)-c)=((d-1-(p-c):Nat):Int):=by omega
      simp
      refine callM (ts':=[ownR Z,I c,I d,.fn 314 []]) (r:=.tup []) ?_ ?_ ?_ ?_
      · simp
      · simpa using z3
      · simp
      · simp
        repeat (refine And.intro (by omega) ?_)
        exact hJ _ ⟨Z,d-1-(p-c),1,⟨z1,by omega,by omega⟩,.inl (by simp [hp2])⟩
    · have hh2':¬(h:Int)=2:=by omega
      simp [hh2']
      exact hJ _ ⟨Y1,p,h,⟨PI.refl g1.dj c d,by omega,by omega⟩,.inr (by simp)⟩
  rintro e ⟨Y2,p2,h2,⟨p1,q3,q4⟩,hee⟩
  have g1:=g1.trans (p1.wide f1 f3)
  have g2:=g2.pi p1
  have hY2:=g1.len
  have hSY2:=hS.pi g1
  have hLY2:=hLY1.pi p1
  clear hY1 hSY1 hLY1 p1 q1 q2
  refine wp_cut' (fun e=>∃ (Y3:List (List Int)),PI Y2 Y3 c d∧(e=fr [(0,some (.val (ownR Y3))),(1,some (.val (I c))),(2,some (.val (I d))),(3,some (.val (I l1))),(4,some (.val (.fn 314 []))),(10,some (.val (.sc (.bool wb)))),(11,some (.val (.sc (.bool wq)))),(12,some (.val (I k0))),(13,some (.val (I p2))),(80,some (.val (.sc (.bool false))))]∨e=fr [(0,some (.val (ownR Y3))),(1,some (.val (I c))),(2,some (.val (I d))),(3,some (.val (I l1))),(4,some (.val (.fn 314 []))),(10,some (.val (.sc (.bool wb)))),(11,some (.val (.sc (.bool wq)))),(12,some (.val (I k0))),(13,some (.val (I p2))),(75,some (.val (.sc (.bool false))))])) (fun J hJ hJr=>?_) ?_
  · by_cases hw:wb=true∧wq=true∧h2=1
    · obtain ⟨rfl,rfl,rfl⟩:=hw
      obtain ⟨Z,t,⟨z1,z2⟩,z3⟩:=h438 Y2 c d hSY2 g1.dj (by omega) (by omega) hLY2
      rcases hee with rfl | rfl
      all_goals
       simp
       refine callM (ts':=[ownR Z,I c,I d,.fn 314 []]) (r:=.sc (.bool t)) ?_ ?_ ?_ ?_
       · simp
       · simpa using z3
       · simp
       · simp
         cases t with
         | true =>
          simp
          refine hJr _ ?_
          simp
          rw [← hR]
          exact ⟨Z,⟨g1.trans (z1.wide f1 f3),(g2.pi z1).fin (z2 rfl)⟩,by simp [post]⟩
         | false =>
          simp
          exact hJ _ ⟨Z,z1,.inl (by simp)⟩
    · have hx:=PI.refl g1.dj c d
      rcases hee with rfl | rfl
      all_goals
       cases wb with
       | false =>
        simp [j01]
        exact hJ _ ⟨Y2,hx,.inr (by simp)⟩
       | true =>
        cases wq with
        | false =>
         simp [j01]
         exact hJ _ ⟨Y2,hx,.inr (by simp)⟩
        | true =>
         have h21:¬h2=1:=fun hh=>hw ⟨rfl,rfl,hh⟩
         have h21':¬(h2:Int)=1:=by omega
         simp [h21']
         exact hJ _ ⟨Y2,hx,.inr (by simp)⟩
  rintro e ⟨Y3,p1,hee⟩
  have g1:=g1.trans (p1.wide f1 f3)
  have g2:=g2.pi p1
  have hY3:=g1.len
  have hSY3:=hS.pi g1
  have hLY3:=hLY2.pi p1
  clear hY2 hSY2 hLY2 p1
  refine wp_cut' (fun e=>e=fr [(0,some (.val (ownR Y3))),(1,some (.val (I c))),(2,some (.val (I d))),(3,some (.val (I l1))),(4,some (.val (.fn 314 []))),(10,some (.val (.sc (.bool wb)))),(11,some (.val (.sc (.bool wq)))),(12,some (.val (I k0))),(13,some (.val (I p2))),(97,some (.val (.sc (.bool false))))]) (fun J hJ hJr=>?_) ?_
  · by_cases hc0:0<c
    · have hbf:bef (gt Y3 (c-1)) (gt Y3 p2):=by
       rcases hLY3 with h0 | h0
       · omega
       · exact h0 p2 (by omega) (by omega)
      have hb':cmpL (gt Y3 (c-1)) (gt Y3 p2)<0:=hbf
      have hcl:c-1<Y3.length:=by omega
      have hpl:p2<Y3.length:=by omega
      have e1:=gt_at hcl
      have e2:=gt_at hpl
      have hc:=h314 (gt Y3 (c-1)) (gt Y3 p2) (hSY3.2 _)
      have hc1:(c:Int)-1=((c-1:Nat):Int):=by omega
      have hc0':(0:Int)<c:=by omega
      rcases hee with rfl | rfl
      all_goals
       simp [hc0,hc1,hcl,hpl,e1,e2]
       repeat (refine And.intro (by omega) ?_)
       refine j0e hc rfl rfl (fun _=>rfl) ?_
       simp [hb']
       exact hJ _ (by simp)
    · have hc0':¬(0:Int)<c:=by omega
      rcases hee with rfl | rfl
      all_goals
       simp [hc0,j01]
       exact hJ _ (by simp)
  clear hee
  rintro e rfl
  obtain ⟨Z,m,ap,⟨t1,t2,t3,t4,t5⟩,t6⟩:=h440 Y3 c d p2 hSY3 g1.dj (by omega) (by omega) (by omega)
  have g1:=g1.trans (t1.wide f1 f3)
  have g2:=g2.pi t1
  have hZ:=g1.len
  have hSZ:=hS.pi g1
  have hLZ:=hLY3.pi t1
  have hcut:=g2.cutm t2 t3 t4 t5
  obtain ⟨L,hL⟩:∃ L:Nat,(m:Int)-c=L:=⟨m-c,by omega⟩
  obtain ⟨M,hM⟩:∃ M:Nat,(d:Int)-m=M:=⟨d-m,by omega⟩
  obtain ⟨q,hq⟩:∃ q:Nat,(k0:Int).tdiv 8=q:=⟨k0 / 8,by rw [Int.tdiv_eq_ediv_of_nonneg (by omega)];omega⟩
  simp
  refine callM (ts':=[ownR Z,I c,I d,I p2,.fn 314 []]) (r:=.tup [I m,.sc (.bool ap)]) ?_ ?_ ?_ ?_
  · simp
  · simpa using t6
  · simp
  · simp
    simp [hL,hM]
    repeat (refine And.intro (by omega) ?_)
    by_cases hlt:L<M
    · have hLb2:Lb Z c m:=by
       rcases hLZ with h0 | h0
       · exact .inl h0
       · exact .inr fun k k1 k2=>h0 k k1 (by omega)
      obtain ⟨W,⟨w1,w2⟩,w3⟩:=ih (m-c) (by omega) Z c m l1 rfl hSZ g1.dj (by omega) (by omega) hLb2 p3
      simp [hlt]
      refine callM (ts':=[ownR W,I c,I m,I l1,.fn 314 []]) (r:=.tup []) ?_ ?_ ?_ ?_
      · simp
      · simpa using w3
      · simp
      · simp
        repeat (refine And.intro (by omega) ?_)
        exact ⟨W,m+1,d,by omega,l1,⟨g1.trans (w1.wide f1 (by omega)),g2.left t2 t3 hcut w1 w2,p3⟩,decide ((k0:Int) / 8≤L),ap,by simp⟩
    · have hLb2:Lb Z (m+1) d:=.inr fun k k1 k2=>t5 k (by omega) k2
      obtain ⟨W,⟨w1,w2⟩,w3⟩:=ih (d-(m+1)) (by omega) Z (m+1) d l1 rfl hSZ g1.dj (by omega) (by omega) hLb2 p3
      simp [hlt]
      repeat (refine And.intro (by omega) ?_)
      refine callM (ts':=[ownR W,I (m+1:Nat),I d,I l1,.fn 314 []]) (r:=.tup []) ?_ ?_ ?_ ?_
      · simp
      · simpa using w3
      · simp
      · simp
        exact ⟨W,c,m,by omega,l1,⟨g1.trans (w1.wide (by omega) f3),g2.right t2 t3 hcut w1 w2,p3⟩,decide ((k0:Int) / 8≤M),ap,by simp⟩
 exact fun X a b lim=>main _ X a b lim rfl
end Go.Mch
namespace Go.Mch

def S_sort (pg:Pg):Prop:=∀ X:List (List Int),Sm X→Dj X→∃ Y,(Srt Y∧∀ x,x∈Y↔x∈X)∧Call pg 313 [ownR X,.fn 314 []] [ownR Y,.fn 314 []] (.tup [])
theorem t_sortFunc {pg:Pg} (hp:pg.fn 313=some j02) (h394:S_len pg 394) (h393:S_pdq pg):S_sort pg:=by
 intro X hS hD
 have hX1:=hS.1
 obtain ⟨L,⟨_,_,l3⟩,hl⟩:=h394 X.length hX1
 obtain ⟨Y,⟨y1,y2⟩,hy⟩:=h393 X 0 X.length L hS hD (by omega) (Nat.le_refl _) (.inl rfl) (by omega)
 have hlen:=y1.len
 have hY:SI Y 0 Y.length:=by rw [hlen];exact y2
 have ew:IntKind.u64.wrap (X.length:Int)=X.length:=wru (by omega) (by omega)
 refine ⟨Y,⟨hY.srt,y1.mem⟩,Call.intro_own hp rfl (by simp [F.lets,j02,List.range,List.range.loop]) ?_⟩
 show wp _ _ j02.body (post [] _ _ _) _
 simp [j02,ew]
 refine j0e hl rfl rfl (fun _=>rfl) ?_
 simp
 refine callM (ts':=[ownR Y,I 0,I X.length,I L,.fn 314 []]) (r:=.tup []) ?_ ?_ ?_ ?_
 · simp
 · simpa using hy
 · simp
 · simp
end Go.Mch
namespace Go.Mch

theorem Srt.ins {X:List (List Int)} {w:List Int} {i:Nat} (h:Srt X) (h1:∀ j (hj:j<X.length),j<i→cmpL X[j] w<0) (h2:∀ j (hj:j<X.length),i≤j→cmpL w X[j]<0):Srt (X.take i++w::X.drop i):=by
 refine List.pairwise_append.2 ⟨h.sublist (List.take_sublist _ _),List.pairwise_cons.2 ⟨fun b hb=>?_,h.sublist (List.drop_sublist _ _)⟩,fun a ha b hb=>?_⟩
 · obtain ⟨k,hk,rfl⟩:=List.getElem_of_mem hb
   simp only [List.length_drop] at hk
   rw [List.getElem_drop]
   exact h2 _ (by omega) (by omega)
 · obtain ⟨k,hk,rfl⟩:=List.getElem_of_mem ha
   simp only [List.length_take] at hk
   rw [List.getElem_take]
   rcases List.mem_cons.1 hb with rfl | hb
   · exact h1 _ (by omega) (by omega)
   · obtain ⟨m,hm,rfl⟩:=List.getElem_of_mem hb
     simp only [List.length_drop] at hm
     rw [List.getElem_drop]
     exact h.lt (by omega) (by omega)
theorem thr (n:Nat) (P:Nat→Prop):(∀ j k,j≤k→k<n→P k→P j)→∃ i,i≤n∧(∀ j,j<n→j<i→P j)∧∀ j,j<n→i≤j→¬P j:=by
 induction n with
 | zero=>intro _;exact ⟨0,by omega,fun j h=>by omega,fun j h=>by omega⟩
 | succ n ih =>
  intro h
  by_cases hp:P n
  · exact ⟨n+1,by omega,fun j hj _=>h j n (by omega) (by omega) hp,fun j hj h2=>by omega⟩
  · obtain ⟨i,h1,h2,h3⟩:=ih fun j k hjk hk=>h j k hjk (by omega)
    refine ⟨i,by omega,fun j hj hi=>h2 j (by omega) hi,fun j hj hi=>?_⟩
    by_cases hjn:j=n
    · subst hjn;exact hp
    · exact h3 j (by omega) hi
structure At (X:List (List Int)) (w:List Int) (i:Nat):Prop where
 le:i≤X.length
 lo:∀ j (hj:j<X.length),j<i→cmpL X[j] w<0
 hi:∀ j (hj:j<X.length),i≤j→¬cmpL X[j] w<0
theorem Srt.at {X:List (List Int)} (h:Srt X) (w:List Int):∃ i,At X w i:=by
 obtain ⟨i,h1,h2,h3⟩:=thr X.length (fun j=>cmpL (X.getD j []) w<0) fun j k hjk hk hp=>by
  by_cases he:j=k
  · subst he;exact hp
  · have hj:j<X.length:=by omega
    have:=h.lt hk (show j<k by omega)
    simp only [List.getD_eq_getElem?_getD,List.getElem?_eq_getElem hk,List.getElem?_eq_getElem hj,Option.getD_some] at hp ⊢
    exact cmpL_trans _ _ _ this hp
 refine ⟨i,h1,fun j hj hl=>?_,fun j hj hl=>?_⟩
 · have:=h2 j hj hl
   simpa [hj] using this
 · have:=h3 j hj hl
   simpa [hj] using this
theorem At.mem {X:List (List Int)} {w:List Int} {i:Nat} (h:At X w i) (hs:Srt X):w∈X↔∃ hi:i<X.length,X[i]=w:=by
 constructor
 · intro hm
   obtain ⟨j,hj,rfl⟩:=List.getElem_of_mem hm
   have hij:i≤j:=by
    refine Classical.byContradiction fun hn=>?_
    have:=h.lo j hj (by omega)
    have z:=(cmpL_zero X[j] X[j]).2 rfl
    omega
   by_cases he:i=j
   · subst he;exact ⟨hj,rfl⟩
   · exact absurd (hs.lt hj (by omega)) (h.hi i (by omega) (Nat.le_refl _))
 · rintro ⟨hi,rfl⟩
   exact List.getElem_mem hi
theorem At.ins {X:List (List Int)} {w:List Int} {i:Nat} (h:At X w i) (hs:Srt X) (hn:w ∉ X):Srt (X.take i++w::X.drop i):=by
 refine hs.ins h.lo fun j hj hij=>?_
 have h1:=h.hi j hj hij
 have h2:=cmpL_neg X[j] w
 have h3:cmpL X[j] w≠0:=fun hz=>hn (by rw [← (cmpL_zero _ _).1 hz];exact List.getElem_mem hj)
 omega
end Go.Mch
namespace Go.Mch

def GR (ms:List (List Int)) (n:Nat) (x:List Int):Prop:=∀ S:List Int→Prop,S (idL n)→(∀ y,S y→∀ p∈ms,S (thenL y p))→S x
structure Grp (ms:List (List Int)) (n:Nat) (X:List (List Int)):Prop where
 srt:Srt X
 mem:∀ x,x∈X↔GR ms n x
theorem Srt.nodup {X:List (List Int)} (h:Srt X):X.Nodup:=h.imp fun {a b} hab he=>by
 subst he
 have:=(cmpL_zero a a).2 rfl
 omega
theorem Srt.unique:∀ {X Y:List (List Int)},Srt X→Srt Y→(∀ x,x∈X↔x∈Y)→X=Y
 | [],[],_,_,_=>rfl
 | [],y::Y,_,_,h=>by have:=(h y).2 (by simp);cases this
 | x::X,[],_,_,h=>by have:=(h x).1 (by simp);cases this
 | x::X,y::Y,hx,hy,h=>by
  have hx1:=List.pairwise_cons.1 hx
  have hy1:=List.pairwise_cons.1 hy
  have hxy:x=y:=by
   refine Classical.byContradiction fun hne=>?_
   have m1:x∈Y:=by
    have:=(h x).1 (by simp)
    rcases List.mem_cons.1 this with e | e
    · exact absurd e hne
    · exact e
   have m2:y∈X:=by
    have:=(h y).2 (by simp)
    rcases List.mem_cons.1 this with e | e
    · exact absurd e.symm hne
    · exact e
   have a1:=hy1.1 x m1
   have a2:=hx1.1 y m2
   have a3:=cmpL_neg x y
   omega
  subst hxy
  have:X=Y:=Srt.unique hx1.2 hy1.2 fun z=>by
   have hz:=h z
   have n1:x ∉ X:=fun hm=>by
    have:=hx1.1 x hm
    have z0:=(cmpL_zero x x).2 rfl
    omega
   have n2:x ∉ Y:=fun hm=>by
    have:=hy1.1 x hm
    have z0:=(cmpL_zero x x).2 rfl
    omega
   by_cases hzx:z=x
   · subst hzx;simp [n1,n2]
   · simpa [hzx] using hz
  rw [this]
theorem len_of_same {X Y:List (List Int)} (h1:X.Nodup) (h2:Y.Nodup) (h:∀ x,x∈X↔x∈Y):X.length=Y.length :=
 Nat.le_antisymm (len_le_of_sub X Y h1 fun x hx=>(h x).1 hx) (len_le_of_sub Y X h2 fun x hx=>(h x).2 hx)
end Go.Mch
namespace Go.Mch

def S_search (pg:Pg):Prop:=∀ (X:List (List Int)) (w:List Int) (i:Nat),Srt X→At X w i→X.length≤1000000→(∀ x∈X,x.length≤1048576)→Call pg 396 [tb X,ix w] [tb X,ix w] (I i)
theorem t_l03Search {pg:Pg} (hp:pg.fn 396=some c_spec_l03Search) (h408:S_less pg):S_search pg:=by
 intro X w i hs hi hl hr
 have hle:=hi.le
 refine Call.intro hp rfl (by simp) ?_
 show wp _ _ c_spec_l03Search.body (post [.t 4] _ _ _) _
 simp [c_spec_l03Search]
 refine j0m (α:=Nat×Nat) (fun z=>z.2-z.1) (fun z e=>(z.1≤i∧i≤z.2∧z.2≤X.length)∧e=fr [(0,some (.val (tb X))),(1,some (.val (ix w))),(5,some (.val (I z.1))),(6,some (.val (I z.2)))]) ?_ (0,X.length) _ ⟨⟨by simp,hle,by simp⟩,by simp⟩
 rintro ⟨lo,hI⟩ e ⟨⟨g1,g2,g3⟩,rfl⟩
 simp only at g1 g2 g3
 by_cases hlt:lo<hI
 · have hdiv:((lo:Int)+hI).tdiv 2=(((lo+hI) / 2:Nat):Int):=by
    rw [Int.tdiv_eq_ediv_of_nonneg (by omega)];omega
   have hmid:(lo+hI) / 2<X.length:=by omega
   have hlow:=hi.lo _ hmid
   have hhi:=hi.hi _ hmid
   have hmr:=hr _ (List.getElem_mem hmid)
   generalize hM:(lo+hI) / 2=M at *
   have hcl:=h408 X[M] w hmr
   have hcase:cmpL X[M] w<0↔M<i:=⟨fun hc=>Classical.byContradiction fun hn=>hhi (by omega) hc,hlow⟩
   simp [hlt,hdiv,hmid]
   refine ⟨by omega,by omega,?_⟩
   refine j0e hcl rfl rfl (fun _=>rfl) ?_
   by_cases hc:cmpL X[M] w<0
   · have hMi:=hcase.1 hc
     simp [hc]
     exact ⟨by omega,M+1,hI,by omega,⟨by omega,by omega,by omega⟩,by simp⟩
   · have hMi:¬M<i:=fun hh=>hc (hcase.2 hh)
     simp [hc]
     exact ⟨lo,M,by omega,⟨by omega,by omega,by omega⟩,by simp⟩
 · have hlo:lo=i:=by omega
   subst hlo
   simp [hlt]
end Go.Mch
namespace Go.Mch

section
variable (mv:List Int→Nat→List Int) (m:Nat) (w:List Int)
def TR (x:List Int):Prop:=∀ C:List Int→Prop,C w→(∀ y,C y→∀ i,i<m→C (mv y i))→C x
theorem TR.start:TR mv m w w:=fun _ h _=>h
theorem TR.step {x:List Int} (h:TR mv m w x) {i:Nat} (hi:i<m):TR mv m w (mv x i):=fun C h1 h2=>h2 _ (h C h1 h2) i hi
structure TF (Q:List (List Int)):Prop where
 w0:w∈Q
 nd:Q.Nodup
 gr:∀ x∈Q,TR mv m w x
structure TB (Q:List (List Int)) (a k:Nat):Prop where
 f:TF mv m w Q
 cl:∀ i (h:i<Q.length),i<a→∀ p,p<m→mv Q[i] p∈Q
 cur:∀ h:a<Q.length,∀ p,p<k→mv Q[a] p∈Q
theorem TB.start:TB mv m w [w] 0 0:=⟨⟨by simp,by simp,fun x hx=>by rw [List.mem_singleton] at hx;subst hx;exact TR.start mv m x⟩,fun i h hi=>by omega,fun h p hp=>by omega⟩
variable {mv m w}
theorem TB.old {Q:List (List Int)} {a k:Nat} (h:TB mv m w Q a k) (ha:a<Q.length) (hin:mv Q[a] k∈Q):TB mv m w Q a (k+1) :=
 ⟨h.f,h.cl,fun h1 p hp=>by
  by_cases hpk:p=k
  · subst hpk;exact hin
  · exact h.cur h1 p (by omega)⟩
theorem TF.new {Q:List (List Int)} {a k:Nat} (h:TF mv m w Q) (ha:a<Q.length) (hk:k<m) (hin:mv Q[a] k ∉ Q):TF mv m w (Q++[mv Q[a] k]) :=
 ⟨List.mem_append.2 (.inl h.w0),by
  rw [List.nodup_append]
  exact ⟨h.nd,by simp,fun x hx y hy hxy=>by
   rw [List.mem_singleton] at hy
   exact hin (by rw [← hy,← hxy];exact hx)⟩,fun x hx=>by
  rcases List.mem_append.1 hx with hx | hx
  · exact h.gr x hx
  · rw [List.mem_singleton] at hx
    subst hx
    exact (h.gr _ (List.getElem_mem ha)).step mv m w hk⟩
theorem TB.new {Q:List (List Int)} {a k:Nat} (h:TB mv m w Q a k) (ha:a<Q.length) (hk:k<m) (hin:mv Q[a] k ∉ Q):TB mv m w (Q++[mv Q[a] k]) a (k+1) :=
 ⟨h.f.new ha hk hin,fun i hi hia p hp=>by
  have hl:i<Q.length:=by omega
  rw [List.getElem_append_left hl]
  exact List.mem_append.2 (.inl (h.cl i hl hia p hp)),fun h1 p hp=>by
  rw [List.getElem_append_left ha]
  by_cases hpk:p=k
  · subst hpk;exact List.mem_append.2 (.inr (by simp))
  · exact List.mem_append.2 (.inl (h.cur ha p (by omega)))⟩
theorem TB.up {Q:List (List Int)} {a:Nat} (h:TB mv m w Q a m) (ha:a<Q.length):TB mv m w Q (a+1) 0 :=
 ⟨h.f,fun i hi hia p hp=>by
  by_cases he:i=a
  · subst he;exact h.cur ha p hp
  · exact h.cl i hi (by omega) p hp,fun h1 p hp=>by omega⟩
theorem TB.all {Q:List (List Int)} {a:Nat} (h:TB mv m w Q a 0) (ha:¬a<Q.length) (x:List Int) (hx:TR mv m w x):x∈Q :=
 hx (fun y=>y∈Q) h.f.w0 fun y hy i hi=>by
  obtain ⟨j,hj,rfl⟩:=List.getElem_of_mem hy
  exact h.cl j hj (by omega) i hi
variable (mv m w)
def Orb (S:List (List Int)):Prop:=Srt S∧∀ x,x∈S↔TR mv m w x
noncomputable def orbO (lim:Nat):Option (List (List Int)):=by
 classical exact if h:∃ S,Orb mv m w S∧S.length≤lim then some (Classical.choose h) else none
variable {mv m w}
theorem Orb.unique {S S':List (List Int)} (h:Orb mv m w S) (h':Orb mv m w S'):S=S':=Srt.unique h.1 h'.1 fun x=>(h.2 x).trans (h'.2 x).symm
theorem orbO_some {S:List (List Int)} {lim:Nat} (h:Orb mv m w S) (hl:S.length≤lim):orbO mv m w lim=some S:=by
 have hx:∃ S,Orb mv m w S∧S.length≤lim:=⟨S,h,hl⟩
 unfold orbO
 rw [dif_pos hx]
 exact congrArg some ((Classical.choose_spec hx).1.unique h)
theorem orbO_none {Q:List (List Int)} {lim:Nat} (h:TF mv m w Q) (hl:lim<Q.length):orbO mv m w lim=none:=by
 unfold orbO
 rw [dif_neg]
 rintro ⟨S,⟨h1,h2⟩,h3⟩
 have:=len_le_of_sub Q S h.nd fun x hx=>(h2 x).2 (h.gr x hx)
 omega
theorem orbO_spec {S:List (List Int)} {lim:Nat} (h:orbO mv m w lim=some S):Orb mv m w S∧S.length≤lim:=by
 unfold orbO at h
 split at h
 · rename_i hx
   rw [← Option.some.inj h]
   exact Classical.choose_spec hx
 · cases h
end
end Go.Mch
namespace Go.Mch

def ExT (P:List (List Int)→Prop):Prop:=∃ Q,P Q
theorem ExT.mk {P:List (List Int)→Prop} (Q:List (List Int)) (h:P Q):ExT P:=⟨Q,h⟩
structure BF (ms:List (List Int)) (n:Nat) (Q:List (List Int)) (i k:Nat):Prop where
 nd:Q.Nodup
 gr:∀ x∈Q,GR ms n x
 id:idL n∈Q
 dn:∀ j (hj:j<Q.length),j<i→∀ p∈ms,thenL Q[j] p∈Q
 dk:∀ hi:i<Q.length,∀ p∈ms.take k,thenL Q[i] p∈Q
 le:Q.length≤1000
end Go.Mch
namespace Go.Mch

def rowsF (X:List (List Int)):List T:=X.map fun xs=>.mem .fresh (some 1) (xs.map I)
@[simp] theorem rowsF_length (X:List (List Int)):(rowsF X).length=X.length:=by simp [rowsF]
@[simp] theorem noOwnL_rowsF (X:List (List Int)):T.j0n (rowsF X)=true:=by
 induction X with
 | nil=>rfl
 | cons x X ih=>simp only [rowsF,List.map_cons] at ih ⊢;simp [ih]
@[simp] theorem eryL_rowsF (X:List (List Int)):T.eryL .old (rowsF X)=tbL X:=by
 induction X with
 | nil=>rfl
 | cons x X ih=>simp only [rowsF,tbL,List.map_cons] at ih ⊢;simp [ih]
@[simp] theorem rowsF_getElem {X:List (List Int)} {k:Nat} (h:k<(rowsF X).length):(rowsF X)[k]=.mem .fresh (some 1) ((X[k]'(by simpa using h)).map I):=by simp [rowsF]
theorem rowsF_snoc (X:List (List Int)) (w:List Int):rowsF (X++[w])=rowsF X++[.mem .fresh (some 1) (w.map I)]:=by simp [rowsF]
def Rds (ts:List T) (X:List (List Int)):Prop:=T.eryL .old ts=tbL X∧T.j0n ts=true∧T.lendL ts=tbL X∧ts.length=X.length
def ExTT (P:List (List Int)→List (List Int)→List T→Prop):Prop:=∃ F S ts,P F S ts

end Go.Mch
namespace Go.Mch

theorem TR_in {f s:List (List Int)} (h:PM f s) {w:List Int} (hw:inN f.length w) {m:Nat} {x:List Int} (hx:TR (dW f s) m w x):inN f.length x∧x.length=w.length :=
 hx (fun y=>inN f.length y∧y.length=w.length) ⟨hw,rfl⟩ fun y hy i _=>⟨dW_in h hy.1 i,by rw [dW_length];exact hy.2⟩
theorem win_take (Z:List (List Int)) (j:Nat):win (rowsF Z) 0 j=rowsF (Z.take j):=by simp [rowsF,win,List.map_take]
theorem win_drop (Z:List (List Int)) (j:Nat):win (rowsF Z) j (Z.length-j)=rowsF (Z.drop j):=by
 have:(Z.drop j).length=Z.length-j:=by simp
 simp [rowsF,win,List.map_drop,List.take_of_length_le]
theorem rowsF_ins (Z:List (List Int)) (W:List Int) (j:Nat):rowsF (Z.take j)++T.mem .fresh (some 1) (W.map I)::rowsF (Z.drop j)=rowsF (Z.take j++W::Z.drop j):=by
 simp [rowsF]
theorem isCell_rowsF {Z:List (List Int)} {x:T} (h:x∈rowsF Z):x.j1i=true:=by
 obtain ⟨y,_,rfl⟩:=List.mem_map.1 h
 rfl
def ExQZ (P:List (List Int)→List (List Int)→Prop):Prop:=∃ Q Z,P Q Z
noncomputable def tO (f s:List (List Int)) (w:List Int):Option (List (List Int)):=orbO (dW f s) (w.length-1) w 5000
def S_reach (pg:Pg):Prop:=∀ (f s:List (List Int)) (w:List Int),PM f s→inN f.length w→w.length≤1048576 →
 ∃ Z:List (List Int),(tO f s w=some Z∨(5000<Z.length∧Z.length≤5001∧tO f s w=none))∧Call pg 315 [sol f s,ix w,I 5000] [sol f s,ix w,I 5000] (.mem .own (some 1) (rowsF Z))
set_option maxRecDepth 10000 in
theorem t_l06Reach {pg:Pg} (hp:pg.fn 315=some c_spec_l06Reach) (h31:S_own pg) (h43:S_do pg 43) (h396:S_search pg) (h67:S_same pg):S_reach pg:=by
 intro f s w h hw hl
 refine Call.find hp rfl (by simp) ?_
 show wp _ _ c_spec_l06Reach.body (fun x e=>∃ Z:List (List Int),(tO f s w=some Z∨(5000<Z.length∧Z.length≤5001∧tO f s w=none))∧post [.t 6] _ _ (.mem .own (some 1) (rowsF Z)) x e) _
 generalize hR:(fun x e=>∃ Z:List (List Int),(tO f s w=some Z∨(5000<Z.length∧Z.length≤5001∧tO f s w=none))∧post [.t 6] [sol f s,ix w,I 5000] [sol f s,ix w,I 5000] (.mem .own (some 1) (rowsF Z)) x e)=R
 simp [c_spec_l06Reach]
 refine j0e (h31 w hl) rfl rfl (fun _=>by simp) ?_
 simp
 refine j0e (h31 w hl) rfl rfl (fun _=>by simp) ?_
 simp
 have hro:∀ n,n≤10000→n≤roomy:=fun n hn=>by unfold roomy;omega
 refine j0m (α:=Nat) (fun z=>5002-z) (fun z e=>ExQZ fun Q Z=>(TF (dW f s) (w.length-1) w Q∧Srt Z∧(∀ x,x∈Z↔x∈Q)∧Q.length≤5001∧z≤Q.length∧(5000<Q.length∨TB (dW f s) (w.length-1) w Q z 0))∧e=fr [(1,some (.val (ix w))),(2,some (.val (I 5000))),(3,some (.val (.mem .own none [tb f,tb s]))),(7,some (.val (.mem .own (some 1) (rowsF Z)))),(8,some (.val (.mem .own (some 1) (rowsF Q)))),(9,some (.val (I z)))]) ?_ 0 _ ⟨[w],[w],⟨(TB.start _ _ w).f,by simp [Srt],fun x=>Iff.rfl,by simp,by simp,.inr (TB.start _ _ w)⟩,by simp [rowsF]⟩
 rintro i e ⟨Q,Z,⟨gf,gs,gm,gl,gi,gt⟩,rfl⟩
 have hZl:=len_of_same gs.nodup gf.nd gm
 by_cases hgo:i<Q.length∧Q.length≤5000
 · obtain ⟨hi,hQ5⟩:=hgo
   have hQ5':(Q.length:Int)≤5000:=by omega
   have gb:=gt.resolve_left (by omega)
   simp [hi,hQ5']
   clear gt
   refine j0m (α:=Nat) (fun z=>w.length-z) (fun z e=>ExQZ fun Q Z=>(TB (dW f s) (w.length-1) w Q i z∧Srt Z∧(∀ x,x∈Z↔x∈Q)∧Q.length≤5001∧i<Q.length∧z≤w.length-1)∧e=fr [(1,some (.val (ix w))),(2,some (.val (I 5000))),(3,some (.val (.mem .own none [tb f,tb s]))),(7,some (.val (.mem .own (some 1) (rowsF Z)))),(8,some (.val (.mem .own (some 1) (rowsF Q)))),(9,some (.val (I i))),(10,some (.val (I z)))]) ?_ 0 _ ⟨Q,Z,⟨gb,gs,gm,gl,hi,by omega⟩,by simp⟩
   clear gf gs gm gl gi gb hi hQ5 hQ5' hZl Q Z
   rintro k e ⟨Q,Z,⟨gb,gs,gm,gl,gi,gk⟩,rfl⟩
   have gf:=gb.f
   have hZl:=len_of_same gs.nodup gf.nd gm
   by_cases hgo:k<w.length-1∧Q.length≤5000
   · obtain ⟨hk,hQ5⟩:=hgo
     have hQ5':(Q.length:Int)≤5000:=by omega
     have hk':(k:Int)+1<w.length:=by omega
     have hQi:=TR_in h hw (gf.gr _ (List.getElem_mem gi))
     have hmv:=h43 f s Q[i] k h (by omega) (by omega) hQi.1
     have hWm:(dW f s Q[i] k).length=w.length:=by rw [dW_length];exact hQi.2
     obtain ⟨j,hj⟩:=gs.at (dW f s Q[i] k)
     have hZr:∀ x∈Z,x.length≤1048576:=fun x hx=>by have:=(TR_in h hw (gf.gr x ((gm x).1 hx))).2;omega
     have hse:=h396 Z (dW f s Q[i] k) j gs hj (by omega) hZr
     have hold:=fun hin=>gb.old gi hin
     have hnew:=fun hin=>gb.new gi hk hin
     have hmem:=hj.mem gs
     have hins:=fun hin=>hj.ins gs hin
     have hjl:=hj.le
     simp [hk',hQ5',gi]
     repeat (refine And.intro (by omega) ?_)
     refine j0e hmv rfl rfl (fun _=>by simp) ?_
     generalize dW f s Q[i] k=W at *
     simp
     refine j0e hse rfl rfl (fun _=>rfl) ?_
     by_cases hjZ:j<Z.length
     · have hsa:=h67 Z[j] W (hZr _ (List.getElem_mem hjZ))
       simp [hjZ]
       refine j0e hsa rfl rfl (fun _=>rfl) ?_
       by_cases hZW:Z[j]=W
       · have hin:W∈Q:=(gm W).1 (hmem.2 ⟨hjZ,hZW⟩)
         simp [hZW]
         repeat (refine And.intro (by omega) ?_)
         exact ⟨k+1,by omega,Q,Z,⟨hold hin,gs,gm,gl,gi,by omega⟩,by simp⟩
       · have hni:W ∉ Z:=fun hh=>hZW (hmem.1 hh).2
         simp [hZW,win_take,win_drop]
         have hS':=hins hni
         have hniQ:W ∉ Q:=fun hh=>hni ((gm W).2 hh)
         have hmI:∀ x,x∈Z.take j++W::Z.drop j↔x∈Q++[W]:=fun x=>by
          rw [List.mem_append,List.mem_cons,List.mem_append,List.mem_singleton,← gm x]
          constructor
          · rintro (h1 | h1 | h1)
            · exact .inl (List.mem_of_mem_take h1)
            · exact .inr h1
            · exact .inl (List.mem_of_mem_drop h1)
          · rintro (h1 | h1)
            · rw [← List.take_append_drop j Z] at h1
              rcases List.mem_append.1 h1 with h2 | h2
              · exact .inl h2
              · exact .inr (.inr h2)
            · exact .inr (.inl h1)
         rw [rowsF_ins Z W j,← rowsF_snoc]
         repeat (refine And.intro (by omega) ?_)
         exact ⟨⟨hro _ (by omega),fun _=>isCell_rowsF⟩,hjl,⟨hro _ (by omega),fun _=>isCell_rowsF⟩,⟨hro _ (by omega),fun _=>isCell_rowsF⟩,hro _ (by omega),by omega,k+1,by omega,Q++[W],Z.take j++W::Z.drop j,⟨hnew hniQ,hS',hmI,by simp;omega,by simp;omega,by omega⟩,by simp⟩
     · have hni:W ∉ Z:=fun hh=>hjZ (hmem.1 hh).1
       simp [hjZ,j01,win_take,win_drop]
       have hS':=hins hni
       have hniQ:W ∉ Q:=fun hh=>hni ((gm W).2 hh)
       have hmI:∀ x,x∈Z.take j++W::Z.drop j↔x∈Q++[W]:=fun x=>by
        rw [List.mem_append,List.mem_cons,List.mem_append,List.mem_singleton,← gm x]
        constructor
        · rintro (h1 | h1 | h1)
          · exact .inl (List.mem_of_mem_take h1)
          · exact .inr h1
          · exact .inl (List.mem_of_mem_drop h1)
        · rintro (h1 | h1)
          · rw [← List.take_append_drop j Z] at h1
            rcases List.mem_append.1 h1 with h2 | h2
            · exact .inl h2
            · exact .inr (.inr h2)
          · exact .inr (.inl h1)
       rw [rowsF_ins Z W j,← rowsF_snoc]
       repeat (refine And.intro (by omega) ?_)
       exact ⟨⟨hro _ (by omega),fun _=>isCell_rowsF⟩,hjl,⟨hro _ (by omega),fun _=>isCell_rowsF⟩,⟨hro _ (by omega),fun _=>isCell_rowsF⟩,hro _ (by omega),by omega,k+1,by omega,Q++[W],Z.take j++W::Z.drop j,⟨hnew hniQ,hS',hmI,by simp;omega,by simp;omega,by omega⟩,by simp⟩
   · have hfin:ExQZ fun Q' Z'=>(TF (dW f s) (w.length-1) w Q'∧Srt Z'∧(∀ x,x∈Z'↔x∈Q')∧Q'.length≤5001∧i+1≤Q'.length∧(5000<Q'.length∨TB (dW f s) (w.length-1) w Q' (i+1) 0))∧Q'=Q∧Z'=Z:=by
      refine ⟨Q,Z,⟨gf,gs,gm,gl,by omega,?_⟩,rfl,rfl⟩
      by_cases h5:5000<Q.length
      · exact .inl h5
      · have hkm:k=w.length-1:=by omega
        subst hkm
        exact .inr (gb.up gi)
     obtain ⟨Q',Z',hQZ,rfl,rfl⟩:=hfin
     by_cases hk:(k:Int)+1<w.length
     · have h5:¬Q'.length≤5000:=by omega
       have h5':¬(Q'.length:Int)≤5000:=by omega
       simp [hk,h5']
       repeat (refine And.intro (by omega) ?_)
       exact ⟨i+1,by omega,Q',Z',hQZ,by simp⟩
     · simp [hk,j01]
       repeat (refine And.intro (by omega) ?_)
       exact ⟨i+1,by omega,Q',Z',hQZ,by simp⟩
 · have hres:tO f s w=some Z∨(5000<Z.length∧Z.length≤5001∧tO f s w=none):=by
    by_cases h5:5000<Q.length
    · exact .inr ⟨by omega,by omega,orbO_none gf h5⟩
    · exact .inl (orbO_some ⟨gs,fun x=>(gm x).trans ⟨gf.gr x,(gt.resolve_left h5).all (by omega) x⟩⟩ (by omega))
   by_cases hi:i<Q.length
   · have h5:¬Q.length≤5000:=by omega
     have h5':¬(Q.length:Int)≤5000:=by omega
     simp [hi,h5']
     rw [← hR]
     exact ⟨Z,hres,by simp [post]⟩
   · simp [hi,j01]
     rw [← hR]
     exact ⟨Z,hres,by simp [post]⟩
end Go.Mch
namespace Go.Mch

@[simp] theorem noOldL_rowsF (X:List (List Int)):T.noOldL (rowsF X)=true:=by
 induction X with
 | nil=>rfl
 | cons x X ih=>simp only [rowsF,List.map_cons] at ih ⊢;simp [ih]
open Classical in
noncomputable def toO (f s:List (List Int)) (w:List Int):Option (List (List Int)):=if isSol f s∧isTup f.length w then tO f s w else none
def cd3:Option (List (List Int))→Int
 | some _=>0
 | none=>3
open Classical in
noncomputable def toC (f s:List (List Int)) (w:List Int):Int:=if isSol f s then (if isTup f.length w then cd3 (tO f s w) else 2) else 1
noncomputable def toR (f s:List (List Int)) (w:List Int):List (List Int):=lso (toO f s w)
def S_to (pg:Pg) (n:Nat):Prop:=∀ (f s:List (List Int)) (w:List Int),fits f→fits s→w.length≤1048576→∃ o,lso o=toR f s w∧Call pg n [sol f s,ix w] [sol f s,ix w] (.tup [ownT o,I (toC f s w)])
theorem tup_in {n:Nat} {w:List Int} (h:isTup n w):inN n w:=fun x hx=>by
 have:=h.2 x hx
 omega
theorem tO_len {f s:List (List Int)} (h:PM f s) {w:List Int} (hw:inN f.length w) {Z:List (List Int)} (hz:tO f s w=some Z):Z.length≤5000∧∀ x∈Z,inN f.length x∧x.length=w.length:=by
 have:=orbO_spec hz
 exact ⟨this.2,fun x hx=>TR_in h hw ((this.1.2 x).1 hx)⟩
theorem t_to_spec {pg:Pg} (hp:pg.fn 177=some j1g) (h41:S_isSol pg 41) (h29:S_tuple pg 29) (h315:S_reach pg) (h280:S_copyT pg 280):S_to pg 177:=by
 intro f s w hf hs hl
 by_cases h:isSol f s
 · have hpm:=PM.of h.1
   have h0:=hpm.pos
   have h12:=hpm.small
   by_cases h1:isTup f.length w
   · obtain ⟨Z,hZ,hc⟩:=h315 f s w hpm (tup_in h1) hl
     have eo:toO f s w=tO f s w:=by simp [toO,h,h1]
     rcases hZ with hZ | ⟨h5,h6,hZ⟩
     · obtain ⟨z1,z2⟩:=tO_len hpm (tup_in h1) hZ
       refine ⟨some Z,by simp [toR,eo,hZ],Call.intro hp rfl (by simp) ?_⟩
       show wp _ _ j1g.body (post [.t 4,.t 5] _ _ _) _
       have e2:toC f s w=0:=by simp [toC,h,h1,hZ,cd3]
       have hcp:=h280 Z ⟨by omega,fun r hr=>by have:=(z2 r hr).2;omega⟩
       have hz5:¬(5000:Int)<Z.length:=by omega
       simp [j1g]
       refine j0e (h41 f s hf hs) rfl rfl (fun _=>rfl) ?_
       simp [j1p h]
       refine j0e (h29 _ w hl (by omega) (by omega)) rfl rfl (fun _=>rfl) ?_
       simp [h1]
       refine j0e hc rfl rfl (fun _=>by simp) ?_
       simp [hz5]
       repeat (refine And.intro (by omega) ?_)
       refine j0e hcp rfl rfl (fun _=>by simp) ?_
       simp [e2,ownT]
     · refine ⟨none,by simp [toR,eo,hZ,lso],Call.intro hp rfl (by simp) ?_⟩
       show wp _ _ j1g.body (post [.t 4,.t 5] _ _ _) _
       have e2:toC f s w=3:=by simp [toC,h,h1,hZ,cd3]
       have hz5:(5000:Int)<Z.length:=by omega
       simp [j1g]
       refine j0e (h41 f s hf hs) rfl rfl (fun _=>rfl) ?_
       simp [j1p h]
       refine j0e (h29 _ w hl (by omega) (by omega)) rfl rfl (fun _=>rfl) ?_
       simp [h1]
       refine j0e hc rfl rfl (fun _=>by simp) ?_
       simp [hz5,e2,ownT]
   · refine ⟨none,by simp [toR,toO,h1,lso],Call.intro hp rfl (by simp) ?_⟩
     show wp _ _ j1g.body (post [.t 4,.t 5] _ _ _) _
     have e2:toC f s w=2:=by simp [toC,h,h1]
     simp [j1g]
     refine j0e (h41 f s hf hs) rfl rfl (fun _=>rfl) ?_
     simp [j1p h]
     refine j0e (h29 _ w hl (by omega) (by omega)) rfl rfl (fun _=>rfl) ?_
     simp [h1,e2,ownT]
 · refine ⟨none,by simp [toR,toO,h,lso],Call.intro hp rfl (by simp) ?_⟩
   show wp _ _ j1g.body (post [.t 4,.t 5] _ _ _) _
   have e2:toC f s w=1:=by simp [toC,h]
   simp [j1g]
   refine j0e (h41 f s hf hs) rfl rfl (fun _=>rfl) ?_
   simp [j1d h,e2,ownT]
theorem dj_of {Q:List (List Int)} (h:Q.Nodup):Dj Q:=fun k k' hk hk' he=>by
 rw [← gt_at hk,← gt_at hk'] at he
 have:=List.pairwise_iff_getElem.1 h
 rcases Nat.lt_trichotomy k k' with h1 | h1 | h1
 · exact absurd he (this k k' hk hk' h1)
 · exact h1
 · exact absurd he.symm (this k' k hk' hk h1)
set_option maxRecDepth 10000 in
theorem t_to_impl {pg:Pg} (hp:pg.fn 176=some j1y) (h42:S_isSol pg 42) (h34:S_tuple pg 34) (h36:S_clone pg) (h312:S_text pg) (h44:S_do pg 44) (h313:S_sort pg):S_to pg 176:=by
 intro f s w hf hs hl
 by_cases h:isSol f s
 · have hpm:=PM.of h.1
   have h0:=hpm.pos
   have h12:=hpm.small
   by_cases h1:isTup f.length w
   · have hw:=tup_in h1
     have eo:toO f s w=tO f s w:=by simp [toO,h,h1]
     have hx12:∀ x,TR (dW f s) (w.length-1) w x→inN 12 x:=fun x hx v hv=>by have:=(TR_in hpm hw hx).1 v hv;omega
     have hfind:=Call.find (α:=Option (List (List Int))) (Q:=fun o=>o=tO f s w) (args:=[sol f s,ix w]) (r:=fun o=>.tup [ownT o,I (cd3 o)]) hp rfl (by simp) ?_
     · obtain ⟨o,ho,hc⟩:=hfind
       have e2:toC f s w=cd3 o:=by rw [ho];simp [toC,h,h1]
       refine ⟨o,by rw [toR,eo,ho],?_⟩
       rw [e2]
       exact hc
     show wp _ _ j1y.body (fun x e=>∃ o,o=tO f s w∧post [.t 4,.t 5] _ _ (.tup [ownT o,I (cd3 o)]) x e) _
     generalize hR:(fun x e=>∃ o,o=tO f s w∧post [.t 4,.t 5] [sol f s,ix w] [sol f s,ix w] (.tup [ownT o,I (cd3 o)]) x e)=R
     simp [j1y]
     refine j0e (h42 f s hf hs) rfl rfl (fun _=>rfl) ?_
     simp [j1p h]
     refine j0e (h34 _ w hl (by omega) (by omega)) rfl rfl (fun _=>rfl) ?_
     simp [h1]
     refine j0e (h36 w hl) rfl rfl (fun _=>by simp) ?_
     simp
     refine j0e (h312 w (hx12 w (TR.start _ _ w)) hl) rfl rfl (fun _=>rfl) ?_
     simp
     refine j0m (α:=Nat) (fun z=>5001-z) (fun z e=>ExT fun Q=>(TB (dW f s) (w.length-1) w Q z 0∧Q.length≤5000∧z≤Q.length)∧e=fr [(1,some (.val (ix w))),(2,some (.val (.mem .own none [tb f,tb s]))),(6,some (.val (.mem .own (some 1) (rows Q)))),(7,some (.val (.set (Q.map txt)))),(8,some (.val (I z)))]) ?_ 0 _ ⟨[w],⟨TB.start _ _ w,by simp,by simp⟩,by simp [rows]⟩
     rintro i e ⟨Q,⟨gb,gl,gi⟩,rfl⟩
     by_cases hi:i<Q.length
     · simp [hi]
       repeat (refine And.intro (by omega) ?_)
       refine j0m (α:=Nat) (fun z=>w.length-z) (fun z e=>ExT fun Q=>(TB (dW f s) (w.length-1) w Q i z∧Q.length≤5000∧i<Q.length∧z≤w.length-1)∧e=fr [(1,some (.val (ix w))),(2,some (.val (.mem .own none [tb f,tb s]))),(6,some (.val (.mem .own (some 1) (rows Q)))),(7,some (.val (.set (Q.map txt)))),(8,some (.val (I i))),(36,some (.val (I ((w.length:Int)-1)))),(37,some (.val (I z)))]) ?_ 0 _ ⟨Q,⟨gb,gl,hi,by omega⟩,by simp⟩
       clear gb gl gi hi Q
       rintro k e ⟨Q,⟨gb,gl,gi,gk⟩,rfl⟩
       have gf:=gb.f
       by_cases hk:k<w.length-1
       · have hk':(k:Int)<(w.length:Int)-1:=by omega
         have hQi:=TR_in hpm hw (gf.gr _ (List.getElem_mem gi))
         have hmv:=h44 f s Q[i] k hpm (by omega) (by omega) hQi.1
         have hWr:=(gf.gr _ (List.getElem_mem gi)).step (dW f s) (w.length-1) w hk
         have htx:=h312 (dW f s Q[i] k) (hx12 _ hWr) (by rw [dW_length];omega)
         have hkey:txt (dW f s Q[i] k)∈Q.map txt↔dW f s Q[i] k∈Q:=by
          rw [List.mem_map]
          constructor
          · rintro ⟨y,hy,he⟩
            exact txt_inj (hx12 y (gf.gr y hy)) (hx12 _ hWr) he▸hy
          · exact fun hh=>⟨_,hh,rfl⟩
         have hold:=fun hin=>gb.old gi hin
         have hnew:=fun hin=>gb.new gi hk hin
         have hnewF:=fun hin=>gf.new gi hk hin
         simp [hk',gi]
         refine j0e hmv rfl rfl (fun _=>by simp) ?_
         generalize dW f s Q[i] k=W at *
         simp
         refine j0e htx rfl rfl (fun _=>rfl) ?_
         by_cases hin:W∈Q
         · have hk2:=hkey.2 hin
           generalize hK:Q.map txt=KS at *
           simp [hk2]
           repeat (refine And.intro (by omega) ?_)
           exact ⟨k+1,by omega,ExT.mk Q ⟨⟨hold hin,gl,gi,by omega⟩,by simp [hK]⟩⟩
         · have hk2:¬txt W∈Q.map txt:=fun hh=>hin (hkey.1 hh)
           have hK2:(Q++[W]).map txt=Q.map txt++[txt W]:=by simp
           have n1:=hnewF hin
           generalize hK:Q.map txt=KS at *
           by_cases h5:Q.length=5000
           · have hno:tO f s w=none:=orbO_none n1 (by simp;omega)
             simp [hk2,h5]
             rw [← hR]
             exact ⟨none,hno.symm,by simp [post,ownT,cd3]⟩
           · have h5':¬(Q.length:Int)=5000:=by omega
             have hro:Q.length+1≤roomy:=by unfold roomy;omega
             simp [hk2,h5',hro]
             repeat (refine And.intro (by omega) ?_)
             exact ⟨k+1,by omega,ExT.mk (Q++[W]) ⟨⟨hnew hin,by simp;omega,by simp;omega,by omega⟩,by simp [hK2,rows]⟩⟩
       · have hk':¬(k:Int)<(w.length:Int)-1:=by omega
         have hkm:k=w.length-1:=by omega
         subst hkm
         simp [hk']
         repeat (refine And.intro (by omega) ?_)
         exact ⟨i+1,by omega,ExT.mk Q ⟨⟨gb.up gi,gl,by omega⟩,by simp⟩⟩
     · have hS:Sm Q:=⟨by omega,fun k=>by
        by_cases hk:k<Q.length
        · have:=(TR_in hpm hw (gb.f.gr _ (List.getElem_mem hk))).2
          rw [← gt_at hk]
          omega
        · simp [gt,hk]⟩
       obtain ⟨Y,⟨y1,y2⟩,hy⟩:=h313 Q hS (dj_of gb.f.nd)
       have hYl:=len_of_same y1.nodup gb.f.nd y2
       have hres:tO f s w=some Y:=orbO_some ⟨y1,fun x=>(y2 x).trans ⟨gb.f.gr x,gb.all hi x⟩⟩ (by omega)
       simp [hi]
       refine callM (ts':=[ownR Y,.fn 314 []]) (r:=.tup []) ?_ ?_ ?_ ?_
       · simp
       · simpa using hy
       · simp
       · simp
         rw [← hR]
         exact ⟨some Y,hres.symm,by simp [post,ownT,cd3]⟩
   · refine ⟨none,by simp [toR,toO,h1,lso],Call.intro hp rfl (by simp) ?_⟩
     show wp _ _ j1y.body (post [.t 4,.t 5] _ _ _) _
     have e2:toC f s w=2:=by simp [toC,h,h1]
     simp [j1y]
     refine j0e (h42 f s hf hs) rfl rfl (fun _=>rfl) ?_
     simp [j1p h]
     refine j0e (h34 _ w hl (by omega) (by omega)) rfl rfl (fun _=>rfl) ?_
     simp [h1,e2,ownT]
 · refine ⟨none,by simp [toR,toO,h,lso],Call.intro hp rfl (by simp) ?_⟩
   show wp _ _ j1y.body (post [.t 4,.t 5] _ _ _) _
   have e2:toC f s w=1:=by simp [toC,h]
   simp [j1y]
   refine j0e (h42 f s hf hs) rfl rfl (fun _=>rfl) ?_
   simp [j1d h,e2,ownT]
end Go.Mch
namespace Go.Mch

theorem dm_pair {n x y:Nat} (hy:y<n):(x*n+y) / n=x∧(x*n+y) % n=y:=by
 have hn:0<n:=by omega
 refine ⟨?_,?_⟩
 · rw [Nat.mul_comm,Nat.mul_add_div hn,Nat.div_eq_of_lt hy,Nat.add_zero]
 · rw [Nat.mul_comm,Nat.mul_add_mod,Nat.mod_eq_of_lt hy]
theorem pair_lt {n x y:Nat} (hx:x<n) (hy:y<n):x*n+y<n*n:=by
 have:(x+1)*n≤n*n:=Nat.mul_le_mul_right n hx
 rw [Nat.add_mul] at this
 omega
theorem inj_pair {f s:List (List Int)} (hi:Inj f s) {x y x' y':Nat} (hx:x<f.length) (hy:y<f.length) (hx':x'<f.length) (hy':y'<f.length) (h1:v2 f x y=v2 f x' y') (h2:v2 s x y=v2 s x' y'):x=x'∧y=y':=by
 have hp:=dm_pair (x:=x) hy
 have hp':=dm_pair (x:=x') hy'
 by_cases he:x*f.length+y=x'*f.length+y'
 · exact ⟨by rw [← hp.1,he,hp'.1],by rw [← hp.2,he,hp'.2]⟩
 · exact absurd ⟨he,by rw [hp.1,hp.2,hp'.1,hp'.2];exact h1,by rw [hp.1,hp.2,hp'.1,hp'.2];exact h2⟩ (hi _ (pair_lt hx hy) _ (pair_lt hx' hy'))
end Go.Mch
namespace Go.Mch

def pre (f s:List (List Int)) (u v:Nat) (x y:Nat):Prop:=x<f.length∧y<f.length∧σN f x y=u∧τN s y x=v
noncomputable def preX (f s:List (List Int)) (u v:Nat):Nat:=by
 classical exact if h:∃ x,∃ y,pre f s u v x y then Classical.choose h else 0
noncomputable def preY (f s:List (List Int)) (u v:Nat):Nat:=by
 classical exact if h:∃ y,∃ x,pre f s u v x y then Classical.choose h else 0
noncomputable def invF (f s:List (List Int)):List (List Int):=tabL f.length fun u v=>(preX f s u v:Int)
noncomputable def invS (f s:List (List Int)):List (List Int):=tabL f.length fun u v=>(preY f s u v:Int)

end Go.Mch
namespace Go.Mch

def isWd (n:Int) (w:List Int):Prop:=inR 0 (n-1) w∧w.length≤8
instance (n:Int) (w:List Int):Decidable (isWd n w):=by unfold isWd;infer_instance

noncomputable def cMv (f s:List (List Int)) (x:List Int) (p:Nat):List Int:=if p % 2=0 then dW f s x (p / 2) else dW (invF f s) (invS f s) x (p / 2)

theorem frzRowsF (X:List (List Int)):T.frzL .fresh (rows X)=rowsF X:=by
 induction X with
 | nil=>rfl
 | cons x X ih=>simp only [rows,rowsF,List.map_cons] at ih ⊢;simp [ih]
end Go.Mch
namespace Go.Mch


def hd0 (X:List (List Int)):List Int:=X.getD 0 []
end Go.Mch
namespace Go.Mch

section
variable {mv mv':List Int→Nat→List Int} {m m':Nat} {w x y:List Int}
end

def Eqw (f s:List (List Int)) (u v:List Int):Prop:=TR (cMv f s) (2*(u.length-1)) u v
section
variable {f s:List (List Int)} (h:PM f s) (hi:Inj f s)
include h hi
end
end Go.Mch
namespace Go.Mch

theorem frz_tb (X:List (List Int)) (y:Value):T.frz .fresh (.tup [.mem .own (some 1) (rows X),.sc y])=.tup [.mem .fresh (some 1) (rowsF X),.sc y]:=by
 show T.tup [T.mem .fresh (some 1) (T.frzL .fresh (rows X)),.sc y]=_
 rw [frzRowsF]


end Go.Mch
namespace Go.Mch

def iv (f s:List (List Int)) (x y:Nat):Prop:=v2 f (σN f x y) (τN s y x)=x∧v2 s (σN f x y) (τN s y x)=y
instance (f s:List (List Int)) (x y:Nat):Decidable (iv f s x y):=by unfold iv;infer_instance


end Go.Mch
namespace Go.Mch

def RowIn (n:Nat) (r:List Int):Prop:=r.length=n∧∀ v∈r,0≤v∧v<n
def TabN (n:Nat) (t:List (List Int)):Prop:=t.length=n∧∀ r∈t,RowIn n r
abbrev ownL (p:List Int):T:=.mem .own (some 1) (p.map I)
abbrev j09 (t:List (List Int)):T:=.mem .own (some 1) (rows t)
theorem RowIn.set {n i:Nat} {r:List Int} {v:Int} (h:RowIn n r) (hv:0≤v∧v<n):RowIn n (r.set i v):=by
 refine ⟨by simpa using h.1,fun x hx=>?_⟩
 rcases List.mem_or_eq_of_mem_set hx with h1 | h1
 · exact h.2 x h1
 · rw [h1];exact hv
theorem RowIn.swap {n i j:Nat} {r:List Int} (h:RowIn n r) (hd:r.Nodup) (hi:i<r.length) (hj:j<r.length):RowIn n ((r.set i r[j]).set j r[i])∧((r.set i r[j]).set j r[i]).Nodup :=
 ⟨(h.set (h.2 _ (List.getElem_mem hj))).set (h.2 _ (List.getElem_mem hi)),(List.set_set_perm hi hj).nodup_iff.2 hd⟩
theorem idL_rowIn (n:Nat):RowIn n (idL n)∧(idL n).Nodup:=by
 refine ⟨⟨by simp [idL],fun v hv=>?_⟩,?_⟩
 · simp only [idL,List.mem_map,List.mem_range] at hv
   obtain ⟨i,hi,rfl⟩:=hv
   omega
 · unfold idL
   exact List.Pairwise.map _ (fun a b h=>by omega) List.nodup_range
theorem S_nxt.at {pg:Pg} (h:S_nxt pg) {c:Rw Int} {s:Int×Int} (hs:Sr c s) {n:Nat} (hn:0<n):∃ (s':Int×Int) (r:Nat),(Sr c s'∧r<n)∧Call pg 336 [src c s,I n] [src c s',I n] (I r):=by
 obtain ⟨s',r,⟨g1,g2,g3,_⟩,hc⟩:=h c s n hs
 have g3:=g3 (by omega)
 obtain ⟨i,rfl⟩:∃ i:Nat,r=i:=⟨r.toNat,by omega⟩
 exact ⟨s',i,⟨g1,by omega⟩,hc⟩
def S_drw (pg:Pg):Prop:=∀ (c:Rw Int) (s:Int×Int) (n:Nat),Sr c s→n≤64→∃ (s':Int×Int) (p:List Int),(Sr c s'∧RowIn n p∧p.Nodup)∧Call pg 368 [src c s,I n] [src c s',I n] (ownL p)
set_option maxRecDepth 10000 in
theorem t_drw {pg:Pg} (hp:pg.fn 368=some c_spec_l01Draw) (h336:S_nxt pg) (h334:S_unit pg):S_drw pg:=by
 intro c s n hs hn
 have hfind:=Call.findA (α:=(Int×Int)×List Int) (Q:=fun Y=>Sr c Y.1∧RowIn n Y.2∧Y.2.Nodup) (args:=[src c s,I n]) (args':=fun Y=>[src c Y.1,I n]) (r:=fun Y=>ownL Y.2) hp rfl (by simp [F.lets,c_spec_l01Draw,List.range,List.range.loop]) (by simp [kindOf]) ?_
 · obtain ⟨Y,h1,h2⟩:=hfind
   exact ⟨_,_,h1,h2⟩
 show wp _ _ c_spec_l01Draw.body (postX _ [.t 4] _ _ _) _
 generalize hR:postX (fun Y:(Int×Int)×List Int=>Sr c Y.1∧RowIn n Y.2∧Y.2.Nodup) [.t 4] [src c s,I n] (fun Y=>[src c Y.1,I n]) (fun Y=>ownL Y.2)=R
 simp [c_spec_l01Draw]
 refine j0e (h334 n (by omega)) rfl rfl (fun _=>by simp) ?_
 simp
 refine ⟨by omega,?_⟩
 refine j0m (α:=((Int×Int)×List Int)×Nat) (fun z=>z.2) (fun z e=>(Sr c z.1.1∧RowIn n z.1.2∧z.1.2.Nodup)∧z.2≤n∧e=fr [(0,some (.val (src c z.1.1))),(1,some (.val (I n))),(5,some (.val (ownL z.1.2))),(6,some (.val (I ((z.2:Int)-1))))]) ?_ ((s,idL n),n) _ ⟨⟨hs,(idL_rowIn n).1,(idL_rowIn n).2⟩,Nat.le_refl _,rfl⟩
 rintro ⟨⟨s1,p⟩,j⟩ e ⟨⟨g1,g2,g3⟩,g4,rfl⟩
 simp only at g1 g2 g3 g4
 by_cases hj:2≤j
 · obtain ⟨i,rfl⟩:∃ i,j=i+1:=⟨j-1,by omega⟩
   obtain ⟨s2,r,⟨k1,k2⟩,hc⟩:=h336.at g1 (n:=i+1) (by omega)
   have hi:0<i:=by omega
   have hil:i<p.length:=by rw [g2.1];omega
   have hrl:r<p.length:=by rw [g2.1];omega
   have hsw:=g2.swap g3 hil hrl
   simp [hi]
   refine ⟨by omega,?_⟩
   refine callS (ts':=[rawB c,I s2.1,H64 s2.2]) (r:=I r) (by simpa using hc) ?_
   simp [hil,hrl]
   exact ⟨by omega,by omega,by omega,s2.1,s2.2,(p.set i p[r]).set r p[i],i,by omega,⟨k1,hsw.1,hsw.2⟩,by omega,by simp only [ownL,List.map_set]⟩
 · have hj':¬(1:Int)<(j:Int):=by omega
   simp [hj']
   subst hR
   exact ⟨(s1,p),⟨g1,g2,g3⟩,by simp [post]⟩
theorem rows_snoc (t:List (List Int)) (q:List Int):rows (t++[q])=rows t++[ownL q]:=by simp [rows]
theorem TabN.snoc {n k:Nat} {t:List (List Int)} {r:List Int} (h:t.length=k∧∀ r∈t,RowIn n r) (hr:RowIn n r):(t++[r]).length=k+1∧∀ x∈t++[r],RowIn n x :=
 ⟨by simp [h.1],fun x hx=>by
  rcases List.mem_append.1 hx with h1 | h1
  · exact h.2 x h1
  · rw [List.mem_singleton.1 h1];exact hr⟩
end Go.Mch
namespace Go.Mch
def imZ (t:List (List Int)) (p:List Int) (a b:Nat):List (List Int):=tabL t.length fun x y=>if invQ p x<a∨(invQ p x=a∧invQ p y<b) then imG t p x y else 0
@[simp] theorem imZ_length (t:List (List Int)) (p:List Int) (a b:Nat):(imZ t p a b).length=t.length:=by simp [imZ]
theorem imZ_row (t:List (List Int)) (p:List Int) (a b:Nat) {i:Nat} (h:i<(imZ t p a b).length):(imZ t p a b)[i].length=t.length:=tabL_row (by rw [← imZ];exact List.getElem_mem h)
theorem imZ_next {t:List (List Int)} {p:List Int} (h:Pm p) (hl:p.length=t.length) (a:Nat):imZ t p a t.length=imZ t p (a+1) 0:=by
 apply tabL_congr
 intro x y hx hy
 have:=h.lt (x:=y) (by omega)
 have e:(invQ p x<a∨(invQ p x=a∧invQ p y<t.length))↔(invQ p x<a+1∨(invQ p x=a+1∧invQ p y<0)):=by omega
 simp only [e]
theorem imZ_last {t:List (List Int)} {p:List Int} (h:Pm p) (hl:p.length=t.length):imZ t p t.length 0=imT t p:=by
 apply tabL_congr
 intro x y hx hy
 have:=h.lt (x:=x) (by omega)
 rw [if_pos (by omega)]
theorem imZ_set {t:List (List Int)} {p:List Int} (h:Pm p) (hl:p.length=t.length) {a b:Nat} (ha:a<p.length) (hb:b<p.length) {P Q:Nat} (hP:(p[a]).toNat=P) (hQ:(p[b]).toNat=Q) (hPl:P<(imZ t p a b).length) :
 (imZ t p a b).set P ((imZ t p a b)[P].set Q (p.getD (v2 t a b).toNat 0))=imZ t p a (b+1):=by
 have qP:invQ p P=a:=hP▸h.back ha
 have qQ:invQ p Q=b:=hQ▸h.back hb
 have hinj:∀ x,x<p.length→invQ p x=a→x=P:=fun x hx he=>by
  have:=h.at hx
  rw [he] at this
  simp [ha] at this
  omega
 have hinj2:∀ x,x<p.length→invQ p x=b→x=Q:=fun x hx he=>by
  have:=h.at hx
  rw [he] at this
  simp [hb] at this
  omega
 apply List.ext_getElem
 · simp
 · intro i h1 h2
   have hi:i<t.length:=by simpa using h2
   rw [List.getElem_set]
   by_cases hiP:P=i
   · subst hiP
     rw [if_pos rfl]
     apply List.ext_getElem
     · simp [imZ_row]
     · intro j h3 h4
       have hj:j<t.length:=by simpa [imZ_row] using h4
       rw [List.getElem_set]
       simp only [imZ,tabL,List.getElem_map,List.getElem_range]
       by_cases hjQ:Q=j
       · subst hjQ
         rw [if_pos rfl,if_pos (by omega),imG,qP,qQ]
       · rw [if_neg hjQ]
         have:invQ p j≠b:=fun he=>hjQ (hinj2 j (by omega) he).symm
         have e:(invQ p P<a∨(invQ p P=a∧invQ p j<b))↔(invQ p P<a∨(invQ p P=a∧invQ p j<b+1)):=by omega
         simp only [e]
   · rw [if_neg hiP]
     have hne:invQ p i≠a:=fun he=>hiP (hinj i (by omega) he).symm
     simp only [imZ,tabL,List.getElem_map,List.getElem_range]
     refine List.map_congr_left fun j _=>?_
     have e:(invQ p i<a∨(invQ p i=a∧invQ p j<b))↔(invQ p i<a∨(invQ p i=a∧invQ p j<b+1)):=by omega
     simp only [e]
def zTab (n k:Nat):List (List Int):=(List.range k).map fun _=>List.replicate n 0
theorem imZ_zero (t:List (List Int)) (p:List Int):imZ t p 0 0=zTab t.length t.length:=by
 unfold imZ zTab tabL
 refine List.map_congr_left fun x _=>?_
 apply List.ext_getElem
 · simp
 · intro i h1 h2;simp
theorem imZ_setD {t:List (List Int)} {p:List Int} (h:Pm p) (hl:p.length=t.length) {a b:Nat} (ha:a<p.length) (hb:b<p.length) {P Q:Nat} (hP:(p[a]).toNat=P) (hQ:(p[b]).toNat=Q) :
 (imZ t p a b).set P (((imZ t p a b).getD P []).set Q (p.getD (v2 t a b).toNat 0))=imZ t p a (b+1):=by
 have ra:=h.inL _ (List.getElem_mem ha)
 have hPl:P<(imZ t p a b).length:=by rw [imZ_length];omega
 have:=imZ_set h hl ha hb hP hQ hPl
 rw [← this,List.getD_eq_getElem?_getD,List.getElem?_eq_getElem hPl]
 rfl
set_option maxRecDepth 10000 in
theorem t_rename {pg:Pg} (hp:pg.fn 367=some c_spec_l01Rename):S_image pg 367:=by
 intro t p ht h hl
 have h12:=h.sm
 have h0:=h.pos
 refine Call.intro hp rfl (by simp) ?_
 show wp _ _ c_spec_l01Rename.body (post [.t 4] _ _ _) _
 simp [c_spec_l01Rename]
 refine j0a (fun k e=>e=fr [(0,some (.val (tb t))),(1,some (.val (ix p))),(5,some (.val (j09 (zTab t.length k)))),(6,some (.val (I k)))]) t.length ?_ ?_ 0 _ (by omega) ?_
 · rintro k e hk rfl
   have hz:(zTab t.length (k+1))=zTab t.length k++[List.replicate t.length 0]:=by simp [zTab,List.range_succ]
   have hzl:(zTab t.length k).length=k:=by simp [zTab]
   rw [hz]
   generalize zTab t.length k=Z at *
   simp [hk]
   exact ⟨by unfold roomy;omega,by unfold roomy;omega,by omega,by simp only [j09,ownL,rows_snoc,List.map_replicate]⟩
 · rintro e rfl
   rw [← imZ_zero t p]
   simp
   refine j0a (fun a e=>e=fr [(0,some (.val (tb t))),(1,some (.val (ix p))),(5,some (.val (j09 (imZ t p a 0)))),(7,some (.val (I a)))]) t.length ?_ ?_ 0 _ (by omega) ?_
   · rintro a e ha rfl
     rw [← imZ_next h hl a]
     have hap:a<p.length:=by omega
     have ra:=h.inL _ (List.getElem_mem hap)
     have hXl:=imZ_length t p a 0
     have hXr:=fun {i:Nat} hi=>imZ_row t p a 0 (i:=i) hi
     obtain ⟨P,hP⟩:∃ P,p[a]=P:=⟨_,rfl⟩
     rw [hP] at ra
     obtain ⟨P,rfl⟩:∃ P':Nat,P=P':=⟨P.toNat,by omega⟩
     have hPX:P<(imZ t p a 0).length:=by omega
     have hr:=hXr hPX
     have hPt:P<t.length:=by omega
     have hgr:(rows (imZ t p a 0))[P]?=some (ownL (imZ t p a 0)[P]):=by rw [rows_get,List.getElem?_eq_getElem hPX];rfl
     simp [ha,hap,hP,hPt,hr]
     refine j0a (fun b e=>e=fr [(0,some (.val (tb t))),(1,some (.val (ix p))),(5,some (.val (j09 (imZ t p a b)))),(7,some (.val (I a))),(8,some (.sref 5 [P] 1 0 t.length)),(9,some (.val (I b)))]) t.length ?_ ?_ 0 _ (by omega) rfl
     · rintro b e hb rfl
       have hbp:b<p.length:=by omega
       have rb:=h.inL _ (List.getElem_mem hbp)
       have hXl:=imZ_length t p a b
       have hXr:=fun {i:Nat} hi=>imZ_row t p a b (i:=i) hi
       obtain ⟨Q,hQ⟩:∃ Q,p[b]=Q:=⟨_,rfl⟩
       rw [hQ] at rb
       obtain ⟨Q,rfl⟩:∃ Q':Nat,Q=Q':=⟨Q.toNat,by omega⟩
       have hset:=imZ_setD h hl hap hbp (P:=P) (Q:=Q) (by rw [hP];simp) (by rw [hQ];simp)
       have hrow:=ht.row ha
       have hbr:b<(t[a]).length:=by rw [hrow];exact hb
       have hv:=get_v2 ha hbr
       have hv1:=ht.nonneg a b
       have hv2:=ht.lt (by omega) a b
       rw [← hset]
       clear hset
       generalize v2 t a b=v at *
       have hvl:v.toNat<p.length:=by omega
       have hvl2:v<p.length:=by omega
       have hg:p[v.toNat]=p.getD v.toNat 0:=by simp [hvl]
       generalize p.getD v.toNat 0=w at *
       clear hgr hr
       generalize imZ t p a b=X at *
       have hPX':P<X.length:=by omega
       have hr:=hXr hPX'
       have hXg:X.getD P []=X[P]:=by simp [hPX']
       rw [hXg]
       have hQX:Q<(X[P]).length:=by omega
       have hQt:(Q:Int)<t.length:=by omega
       have hQt2:Q<t.length:=by omega
       have hgr:(rows X)[P]?=some (ownL X[P]):=by rw [rows_get,List.getElem?_eq_getElem hPX'];rfl
       simp [ha,hb,hbp,hQ,hrow,hv,hvl,hvl2,hv1,hg,hPX',hQX,hQt]
       exact ⟨by omega,by omega,by simp only [j09,← rows_set2 hPX']⟩
     · rintro e rfl
       simp
       omega
   · rintro e rfl
     rw [imZ_last h hl]
     simp
   · simp
 · simp only [zTab,j09,rows,List.range_zero,List.map_nil];rfl
def S_renS (pg:Pg):Prop:=∀ (f s:List (List Int)) (p:List Int),Tab f→Tab s→Pm p→p.length=f.length→p.length=s.length→Call pg 422 [sol f s,ix p] [sol f s,ix p] (.agg [j09 (imT f p),j09 (imT s p)])
set_option maxRecDepth 10000 in
theorem t_renS {pg:Pg} (hp:pg.fn 422=some c_spec_l02Rename) (h367:S_image pg 367):S_renS pg:=by
 intro f s p hf hs h hl hl2
 refine Call.intro hp rfl (by simp) ?_
 show wp _ _ c_spec_l02Rename.body (post [.cell 4 (some 2)] _ _ _) _
 simp [c_spec_l02Rename]
 refine j0e (h367 f p hf h hl) rfl rfl (fun _=>by simp) ?_
 simp
 refine j0e (h367 s p hs h hl2) rfl rfl (fun _=>by simp) ?_
 simp
theorem imT_tabN {n:Nat} {t:List (List Int)} {p:List Int} (ht:TabN n t) (hp:Pm p) (hl:p.length=n):TabN n (imT t p):=by
 have h1:Tab t:=fun r hr=>⟨by rw [(ht.2 r hr).1,ht.1],fun v hv=>by rw [ht.1];exact (ht.2 r hr).2 v hv⟩
 refine ⟨by rw [imT,tabL_length];exact ht.1,fun r hr=>⟨by rw [tabL_row hr];exact ht.1,fun v hv=>?_⟩⟩
 obtain ⟨x,hx,rfl⟩:=List.mem_map.1 hr
 obtain ⟨y,hy,rfl⟩:=List.mem_map.1 hv
 simp only [List.mem_range] at hx hy
 have hpos:=hp.pos
 have a1:=h1.nonneg (invQ p x) (invQ p y)
 have a2:=h1.lt (by rw [ht.1];omega) (invQ p x) (invQ p y)
 have a3:(v2 t (invQ p x) (invQ p y)).toNat<p.length:=by rw [ht.1] at a2;omega
 have a4:=hp.inL _ (List.getElem_mem a3)
 simp only [imG,List.getD_eq_getElem?_getD,List.getElem?_eq_getElem a3,Option.getD_some]
 omega

def PMN (n:Nat) (f s:List (List Int)):Prop:=TabN n f∧TabN n s
abbrev ownS (X:List (List Int)×List (List Int)):T:=.agg [j09 X.1,j09 X.2]
def ownN2 (X:List (List Int)):T:=if X=[] then nil else j09 X
@[simp] theorem ownN2_nil:ownN2 []=nil:=rfl
theorem one_row {n:Nat} {a:List Int} (h:RowIn n a):∀ x∈[a],RowIn n x:=fun x hx=>by rw [List.mem_singleton.1 hx];exact h
theorem snoc_in {n:Nat} {a:List Int} {x:Int} (h:∀ v∈a,0≤v∧v<n) (hx:0≤x∧x<n):∀ v∈a++[x],0≤v∧v<n:=fun v hv=>by
 rcases List.mem_append.1 hv with h1 | h1
 · exact h v h1
 · rw [List.mem_singleton.1 h1];exact hx
theorem ownN2_ne {X:List (List Int)} {k:Nat} (h:X.length=k) (hk:0<k):ownN2 X=j09 X:=if_neg fun h0=>by rw [h0] at h;simp at h;omega
theorem ownN2_snoc (X:List (List Int)) (r:List Int):ownN2 (X++[r])=.mem .own (some 1) (rows X++[ownL r]):=by
 rw [ownN2,if_neg (by simp),j09,rows_snoc]
def S_poly (pg:Pg):Prop:=∀ n:Nat,0<n→n≤64→∃ X:List (List Int)×List (List Int),PMN n X.1 X.2∧Call pg 423 [I n] [I n] (ownS X)
set_option maxRecDepth 10000 in
theorem t_poly {pg:Pg} (hp:pg.fn 423=some c_spec_l02Polygon):S_poly pg:=by
 intro n h0 hn
 refine Call.find hp rfl (by simp) ?_
 show wp _ _ c_spec_l02Polygon.body _ _
 generalize hR:(fun (x:X) (e:Env)=>∃ l:List (List Int)×List (List Int),PMN n l.1 l.2∧post c_spec_l02Polygon.rs [I n] [I n] (ownS l) x e)=R
 simp [c_spec_l02Polygon]
 refine j0a (fun k e=>∃ f s:List (List Int),((f.length=k∧∀ r∈f,RowIn n r)∧s.length=k∧∀ r∈s,RowIn n r)∧e=fr [(0,some (.val (I n))),(2,some (.val (.mem .own none [nil,nil]))),(3,some (.val (.mem .own none [ownN2 f,ownN2 s]))),(4,some (.val (I k)))]) n ?_ ?_ 0 _ (by omega) ⟨[],[],⟨⟨rfl,by simp⟩,rfl,by simp⟩,rfl⟩
 · rintro k e hk ⟨f,s,⟨⟨g1,g2⟩,g3,g4⟩,rfl⟩
   simp [hk]
   refine j0a (fun j e=>∃ a b:List Int,((a.length=j∧∀ v∈a,0≤v∧v<n)∧b.length=j∧∀ v∈b,0≤v∧v<n)∧e=fr [(0,some (.val (I n))),(2,some (.val (.mem .own none [nil,nil]))),(3,some (.val (.mem .own none [ownN2 f,ownN2 s]))),(4,some (.val (I k))),(5,some (.val (ownL a))),(6,some (.val (ownL b))),(7,some (.val (I j)))]) n ?_ ?_ 0 _ (by omega) ⟨[],[],⟨⟨rfl,by simp⟩,rfl,by simp⟩,rfl⟩
   · rintro j e hj ⟨a,b,⟨⟨i1,i2⟩,i3,i4⟩,rfl⟩
     obtain ⟨m,hm,hm2⟩:∃ m:Nat,((2:Int)*k-j+n).tmod n=m∧m<n:=by
      have h1:0≤(2:Int)*k-j+n:=by omega
      refine ⟨((2:Int)*k-j+n).toNat % n,?_,Nat.mod_lt _ h0⟩
      rw [Int.tmod_eq_emod_of_nonneg h1,Int.natCast_emod,Int.toNat_of_nonneg h1]
     have hn0:¬n=0:=by omega
     simp [hj,hm,hn0]
     exact ⟨by omega,by omega,by omega,by unfold roomy;omega,by unfold roomy;omega,by omega,a++[(m:Int)],b++[(k:Int)],⟨⟨by simp [i1],snoc_in i2 (by omega)⟩,by simp [i3],snoc_in i4 (by omega)⟩,by simp only [ownL,List.map_append,List.map_cons,List.map_nil]⟩
   · rintro e ⟨a,b,⟨⟨i1,i2⟩,i3,i4⟩,rfl⟩
     by_cases hk0:k=0
     · subst hk0
       obtain rfl:f=[]:=List.length_eq_zero_iff.1 g1
       obtain rfl:s=[]:=List.length_eq_zero_iff.1 g3
       simp
       exact ⟨by unfold roomy;omega,[a],[b],⟨⟨rfl,one_row ⟨i1,i2⟩⟩,rfl,one_row ⟨i3,i4⟩⟩,rfl⟩
     · rw [ownN2_ne g1 (by omega),ownN2_ne g3 (by omega)]
       simp
       exact ⟨by unfold roomy;omega,by unfold roomy;omega,by omega,f++[a],s++[b],⟨TabN.snoc ⟨g1,g2⟩ ⟨i1,i2⟩,TabN.snoc ⟨g3,g4⟩ ⟨i3,i4⟩⟩,by simp only [ownN2_snoc]⟩
 · rintro e ⟨f,s,⟨⟨g1,g2⟩,g3,g4⟩,rfl⟩
   have hf:ownN2 f=j09 f:=if_neg fun h=>by rw [h] at g1;simp at g1;omega
   have hs:ownN2 s=j09 s:=if_neg fun h=>by rw [h] at g3;simp at g3;omega
   rw [hf,hs]
   simp
   subst hR
   exact ⟨(f,s),⟨⟨g1,g2⟩,g3,g4⟩,by simp [post,c_spec_l02Polygon]⟩
end Go.Mch
namespace Go.Mch
def S_twst (pg:Pg):Prop:=∀ (n:Nat) (p q:List Int),0<n→n≤64→RowIn n p→RowIn n q→∃ X:List (List Int)×List (List Int),(PMN n X.1 X.2∧∀ r∈X.1,r=p)∧Call pg 425 [ix p,ix q] [ix p,ix q] (ownS X)
set_option maxRecDepth 10000 in
theorem t_twst {pg:Pg} (hp:pg.fn 425=some c_spec_l02Twist) (h31:S_own pg):S_twst pg:=by
 intro n p q h0 hn hP hQ
 have hpl:=hP.1
 have hql:=hQ.1
 refine Call.find hp rfl (by simp) ?_
 show wp _ _ c_spec_l02Twist.body _ _
 generalize hR:(fun (x:X) (e:Env)=>∃ l:List (List Int)×List (List Int),(PMN n l.1 l.2∧∀ r∈l.1,r=p)∧post c_spec_l02Twist.rs [ix p,ix q] [ix p,ix q] (ownS l) x e)=R
 simp [c_spec_l02Twist]
 refine j0a (fun k e=>∃ f s:List (List Int),((f.length=k∧∀ r∈f,r=p)∧s.length=k∧∀ r∈s,RowIn n r)∧e=fr [(0,some (.val (ix p))),(1,some (.val (ix q))),(4,some (.val (.mem .own none [nil,nil]))),(5,some (.val (.mem .own none [ownN2 f,ownN2 s]))),(6,some (.val (I k)))]) n ?_ ?_ 0 _ (by omega) ⟨[],[],⟨⟨rfl,by simp⟩,rfl,by simp⟩,rfl⟩
 · rintro k e hk ⟨f,s,⟨⟨g1,g2⟩,g3,g4⟩,rfl⟩
   have hkq:k<q.length:=by omega
   have hv:=hQ.2 _ (List.getElem_mem hkq)
   simp [hk,hpl]
   refine j0a (fun j e=>∃ b:List Int,(b.length=j∧∀ v∈b,0≤v∧v<n)∧e=fr [(0,some (.val (ix p))),(1,some (.val (ix q))),(4,some (.val (.mem .own none [nil,nil]))),(5,some (.val (.mem .own none [ownN2 f,ownN2 s]))),(6,some (.val (I k))),(7,some (.val (ownL b))),(8,some (.val (I j)))]) n ?_ ?_ 0 _ (by omega) ⟨[],⟨rfl,by simp⟩,rfl⟩
   · rintro j e hj ⟨b,⟨i3,i4⟩,rfl⟩
     simp [hj,hpl,hql,hk]
     exact ⟨by unfold roomy;omega,by omega,b++[q[k]],⟨by simp [i3],snoc_in i4 hv⟩,by simp only [ownL,List.map_append,List.map_cons,List.map_nil]⟩
   · rintro e ⟨b,⟨i3,i4⟩,rfl⟩
     by_cases hk0:k=0
     · subst hk0
       obtain rfl:f=[]:=List.length_eq_zero_iff.1 g1
       obtain rfl:s=[]:=List.length_eq_zero_iff.1 g3
       simp [hpl]
       refine j0e (h31 p (by omega)) rfl rfl (fun _=>by simp) ?_
       simp
       exact ⟨by unfold roomy;omega,[p],[b],⟨⟨rfl,by simp⟩,rfl,one_row ⟨i3,i4⟩⟩,rfl⟩
     · rw [ownN2_ne g1 (by omega),ownN2_ne g3 (by omega)]
       simp [hpl]
       refine j0e (h31 p (by omega)) rfl rfl (fun _=>by simp) ?_
       simp
       exact ⟨by unfold roomy;omega,by unfold roomy;omega,by omega,f++[p],s++[b],⟨⟨by simp [g1],fun r hr=>by
        rcases List.mem_append.1 hr with h1 | h1
        · exact g2 r h1
        · exact List.mem_singleton.1 h1⟩,TabN.snoc ⟨g3,g4⟩ ⟨i3,i4⟩⟩,by simp only [ownN2_snoc]⟩
 · rintro e ⟨f,s,⟨⟨g1,g2⟩,g3,g4⟩,rfl⟩
   rw [ownN2_ne g1 h0,ownN2_ne g3 h0]
   simp [hpl]
   subst hR
   exact ⟨(f,s),⟨⟨⟨g1,fun r hr=>by rw [g2 r hr];exact hP⟩,g3,g4⟩,g2⟩,by simp [post,c_spec_l02Twist]⟩
def S_flp (pg:Pg):Prop:=∀ n:Nat,0<n→n≤64→∃ X:List (List Int)×List (List Int),(PMN n X.1 X.2∧∀ r∈X.1,r=idL n)∧Call pg 449 [I n] [I n] (ownS X)
theorem t_flp {pg:Pg} (hp:pg.fn 449=some c_spec_l02Flip) (h334:S_unit pg) (h425:S_twst pg):S_flp pg:=by
 intro n h0 hn
 obtain ⟨X,hX,hc⟩:=h425 n (idL n) (idL n) h0 hn (idL_rowIn n).1 (idL_rowIn n).1
 refine ⟨X,hX,Call.intro hp rfl (by simp) ?_⟩
 show wp _ _ c_spec_l02Flip.body (post [.cell 2 (some 2)] _ _ _) _
 simp [c_spec_l02Flip]
 refine j0e (h334 n (by omega)) rfl rfl (fun _=>by simp) ?_
 simp
 refine j0e hc rfl rfl (fun _=>by simp) ?_
 simp
theorem tdivN (a m:Nat):((a:Int)).tdiv m=((a / m:Nat):Int):=by rw [Int.tdiv_eq_ediv_of_nonneg (by omega),Int.natCast_ediv]
theorem tmodN (a m:Nat):((a:Int)).tmod m=((a % m:Nat):Int):=by rw [Int.tmod_eq_emod_of_nonneg (by omega),Int.natCast_emod]
theorem TabN.at {n:Nat} {t:List (List Int)} (h:TabN n t) {i j:Nat} (hi:i<n) (hj:j<n):∃ (h1:i<t.length) (h2:j<(t[i]).length),(t[i]).length=n∧0≤(t[i])[j]∧(t[i])[j]<n:=by
 have h1:i<t.length:=by rw [h.1];exact hi
 have h2:=h.2 _ (List.getElem_mem h1)
 have h3:j<(t[i]).length:=by rw [h2.1];exact hj
 exact ⟨h1,h3,h2.1,h2.2 _ (List.getElem_mem h3)⟩
theorem mul_lt {n m:Nat} {x y:Int} (h0:0≤x) (h1:x<n) (h2:0≤y) (h3:y<m) (hn:n*m≤64):0≤x*m+y∧x*m+y<(n*m:Nat)∧0≤x*m∧x*m≤64:=by
 obtain ⟨x,rfl⟩:∃ x':Nat,x=x':=⟨x.toNat,by omega⟩
 obtain ⟨y,rfl⟩:∃ y':Nat,y=y':=⟨y.toNat,by omega⟩
 have h4:(x+1)*m≤n*m:=Nat.mul_le_mul_right m (by omega)
 have h5:(x+1)*m=x*m+m:=Nat.succ_mul x m
 have h6:((x*m:Nat):Int)=(x:Int)*m:=by simp
 omega
def S_prd (pg:Pg):Prop:=∀ (n m:Nat) (f s f' s':List (List Int)),0<n→0<m→n*m≤64→PMN n f s→PMN m f' s'→∃ X:List (List Int)×List (List Int),PMN (n*m) X.1 X.2∧Call pg 458 [sol f s,sol f' s'] [sol f s,sol f' s'] (ownS X)
set_option maxRecDepth 10000 in
theorem t_prd {pg:Pg} (hp:pg.fn 458=some c_spec_l02Product):S_prd pg:=by
 intro n m f s f' s' hn0 hm0 hnm hA hB
 have hfl:=hA.1.1
 have hsl:=hA.2.1
 have hfl':=hB.1.1
 have hsl':=hB.2.1
 have hN:0<n*m:=Nat.mul_pos hn0 hm0
 obtain ⟨N,hNe⟩:∃ N,N=n*m:=⟨_,rfl⟩
 have hNi:(n:Int)*m=N:=by rw [hNe];simp
 have hnl:n≤N:=by rw [hNe];exact Nat.le_mul_of_pos_right n hm0
 have hml:m≤N:=by rw [hNe];exact Nat.le_mul_of_pos_left m hn0
 rw [← hNe] at hN hnm ⊢
 have hdv:∀ a,a<N→a / m<n:=fun a ha=>by rw [hNe,Nat.mul_comm] at ha;exact Nat.div_lt_of_lt_mul ha
 have hmd:∀ a,a % m<m:=fun a=>Nat.mod_lt _ hm0
 have hm0':¬(m:Int)=0:=by omega
 have hm0'':¬m=0:=by omega
 refine Call.find hp rfl (by simp) ?_
 show wp _ _ c_spec_l02Product.body _ _
 generalize hR:(fun (x:X) (e:Env)=>∃ l:List (List Int)×List (List Int),PMN N l.1 l.2∧post c_spec_l02Product.rs [sol f s,sol f' s'] [sol f s,sol f' s'] (ownS l) x e)=R
 simp [c_spec_l02Product]
 refine j0a (fun k e=>∃ F S:List (List Int),((F.length=k∧∀ r∈F,RowIn N r)∧S.length=k∧∀ r∈S,RowIn N r)∧e=fr [(2,some (.val (.mem .own none [tb f,tb s]))),(3,some (.val (.mem .own none [tb f',tb s']))),(4,some (.val (.mem .own none [nil,nil]))),(5,some (.val (I n))),(6,some (.val (I m))),(7,some (.val (.mem .own none [ownN2 F,ownN2 S]))),(8,some (.val (I k)))]) N ?_ ?_ 0 _ (by omega) ⟨[],[],⟨⟨rfl,by simp⟩,rfl,by simp⟩,by simp [hfl,hfl']⟩
 · rintro k e hk ⟨F,S,⟨⟨g1,g2⟩,g3,g4⟩,rfl⟩
   simp [hk,hNi]
   refine ⟨by omega,?_⟩
   refine j0a (fun j e=>∃ a b:List Int,((a.length=j∧∀ v∈a,0≤v∧v<N)∧b.length=j∧∀ v∈b,0≤v∧v<N)∧e=fr [(2,some (.val (.mem .own none [tb f,tb s]))),(3,some (.val (.mem .own none [tb f',tb s']))),(4,some (.val (.mem .own none [nil,nil]))),(5,some (.val (I n))),(6,some (.val (I m))),(7,some (.val (.mem .own none [ownN2 F,ownN2 S]))),(8,some (.val (I k))),(9,some (.val (ownL a))),(10,some (.val (ownL b))),(11,some (.val (I j)))]) N ?_ ?_ 0 _ (by omega) ⟨[],[],⟨⟨rfl,by simp⟩,rfl,by simp⟩,rfl⟩
   · rintro j e hj ⟨a,b,⟨⟨i1,i2⟩,i3,i4⟩,rfl⟩
     have q1:=hdv k hk
     have q2:=hdv j hj
     have r1:=hmd k
     have r2:=hmd j
     have d1:=tdivN k m
     have d2:=tdivN j m
     have d3:=tmodN k m
     have d4:=tmodN j m
     generalize k / m=A at *
     generalize j / m=B at *
     generalize k % m=C at *
     generalize j % m=D at *
     obtain ⟨u1,u2,u3,u4,u5⟩:=hA.1.at q1 q2
     obtain ⟨v1,v2,v3,v4,v5⟩:=hA.2.at q1 q2
     obtain ⟨x1,x2,x3,x4,x5⟩:=hB.1.at r1 r2
     obtain ⟨y1,y2,y3,y4,y5⟩:=hB.2.at r1 r2
     have m1:=mul_lt u4 u5 x4 x5 (by omega)
     have m2:=mul_lt v4 v5 y4 y5 (by omega)
     rw [← hNe] at m1 m2
     simp [hj,hNi,d1,d2,d3,d4,hm0'',q1,q2,r1,r2,hfl,hsl,hfl',hsl',u3,v3,x3,y3]
     exact ⟨by omega,by omega,by omega,by omega,by omega,by unfold roomy;omega,by omega,by omega,by omega,by omega,by unfold roomy;omega,by omega,a++[f[A][B]*m+f'[C][D]],b++[s[A][B]*m+s'[C][D]],⟨⟨by simp [i1],snoc_in i2 (by omega)⟩,by simp [i3],snoc_in i4 (by omega)⟩,by simp only [ownL,List.map_append,List.map_cons,List.map_nil]⟩
   · rintro e ⟨a,b,⟨⟨i1,i2⟩,i3,i4⟩,rfl⟩
     by_cases hk0:k=0
     · subst hk0
       obtain rfl:F=[]:=List.length_eq_zero_iff.1 g1
       obtain rfl:S=[]:=List.length_eq_zero_iff.1 g3
       simp [hNi]
       exact ⟨by omega,by unfold roomy;omega,[a],[b],⟨⟨rfl,one_row ⟨i1,i2⟩⟩,rfl,one_row ⟨i3,i4⟩⟩,rfl⟩
     · rw [ownN2_ne g1 (by omega),ownN2_ne g3 (by omega)]
       simp [hNi]
       exact ⟨by omega,by unfold roomy;omega,by unfold roomy;omega,by omega,F++[a],S++[b],⟨TabN.snoc ⟨g1,g2⟩ ⟨i1,i2⟩,TabN.snoc ⟨g3,g4⟩ ⟨i3,i4⟩⟩,by simp only [ownN2_snoc]⟩
 · rintro e ⟨F,S,⟨⟨g1,g2⟩,g3,g4⟩,rfl⟩
   rw [ownN2_ne g1 hN,ownN2_ne g3 hN]
   simp [hNi]
   refine ⟨by omega,?_⟩
   subst hR
   exact ⟨(F,S),⟨⟨g1,g2⟩,g3,g4⟩,by simp [post,c_spec_l02Product]⟩
def S_uni (pg:Pg):Prop:=∀ (n m:Nat) (f s f' s':List (List Int)),0<n→0<m→n+m≤64→PMN n f s→PMN m f' s'→∃ X:List (List Int)×List (List Int),PMN (n+m) X.1 X.2∧Call pg 460 [sol f s,sol f' s'] [sol f s,sol f' s'] (ownS X)
set_option maxRecDepth 10000 in
theorem t_uni {pg:Pg} (hp:pg.fn 460=some c_spec_l02Union):S_uni pg:=by
 intro n m f s f' s' hn0 hm0 hnm hA hB
 have hfl:=hA.1.1
 have hsl:=hA.2.1
 have hfl':=hB.1.1
 have hsl':=hB.2.1
 obtain ⟨N,hNe⟩:∃ N,N=n+m:=⟨_,rfl⟩
 have hNi:(n:Int)+m=N:=by rw [hNe];simp
 rw [← hNe] at hnm ⊢
 have hN:0<N:=by omega
 refine Call.find hp rfl (by simp) ?_
 show wp _ _ c_spec_l02Union.body _ _
 generalize hR:(fun (x:X) (e:Env)=>∃ l:List (List Int)×List (List Int),PMN N l.1 l.2∧post c_spec_l02Union.rs [sol f s,sol f' s'] [sol f s,sol f' s'] (ownS l) x e)=R
 simp [c_spec_l02Union]
 refine j0a (fun k e=>∃ F S:List (List Int),((F.length=k∧∀ r∈F,RowIn N r)∧S.length=k∧∀ r∈S,RowIn N r)∧e=fr [(2,some (.val (.mem .own none [tb f,tb s]))),(3,some (.val (.mem .own none [tb f',tb s']))),(4,some (.val (.mem .own none [nil,nil]))),(5,some (.val (I n))),(6,some (.val (I m))),(7,some (.val (.mem .own none [ownN2 F,ownN2 S]))),(8,some (.val (I k)))]) N ?_ ?_ 0 _ (by omega) ⟨[],[],⟨⟨rfl,by simp⟩,rfl,by simp⟩,by simp [hfl,hfl']⟩
 · rintro k e hk ⟨F,S,⟨⟨g1,g2⟩,g3,g4⟩,rfl⟩
   simp [hk,hNi]
   refine ⟨by omega,?_⟩
   refine j0a (fun j e=>∃ a b:List Int,((a.length=j∧∀ v∈a,0≤v∧v<N)∧b.length=j∧∀ v∈b,0≤v∧v<N)∧e=fr [(2,some (.val (.mem .own none [tb f,tb s]))),(3,some (.val (.mem .own none [tb f',tb s']))),(4,some (.val (.mem .own none [nil,nil]))),(5,some (.val (I n))),(6,some (.val (I m))),(7,some (.val (.mem .own none [ownN2 F,ownN2 S]))),(8,some (.val (I k))),(9,some (.val (ownL a))),(10,some (.val (ownL b))),(11,some (.val (I j)))]) N ?_ ?_ 0 _ (by omega) ⟨[],[],⟨⟨rfl,by simp⟩,rfl,by simp⟩,rfl⟩
   · rintro j e hj ⟨a,b,⟨⟨i1,i2⟩,i3,i4⟩,rfl⟩
     by_cases ck:k<n
     · by_cases cj:j<n
       · obtain ⟨u1,u2,u3,u4,u5⟩:=hA.1.at ck cj
         obtain ⟨v1,v2,v3,v4,v5⟩:=hA.2.at ck cj
         simp [hj,hNi,ck,cj,hfl,hsl,u3,v3]
         exact ⟨by omega,by unfold roomy;omega,by unfold roomy;omega,by omega,a++[f[k][j]],b++[s[k][j]],⟨⟨by simp [i1],snoc_in i2 (by omega)⟩,by simp [i3],snoc_in i4 (by omega)⟩,by simp only [ownL,List.map_append,List.map_cons,List.map_nil]⟩
       · have ck':¬n≤k:=by omega
         simp [hj,hNi,ck,cj,ck',j01]
         exact ⟨by omega,by unfold roomy;omega,by unfold roomy;omega,by omega,a++[(j:Int)],b++[(k:Int)],⟨⟨by simp [i1],snoc_in i2 (by omega)⟩,by simp [i3],snoc_in i4 (by omega)⟩,by simp only [ownL,List.map_append,List.map_cons,List.map_nil]⟩
     · have ck':n≤k:=by omega
       by_cases cj:n≤j
       · obtain ⟨A,hAk⟩:∃ A:Nat,(k:Int)-n=A:=⟨k-n,by omega⟩
         obtain ⟨B,hBj⟩:∃ B:Nat,(j:Int)-n=B:=⟨j-n,by omega⟩
         have cA:A<m:=by omega
         have cB:B<m:=by omega
         obtain ⟨u1,u2,u3,u4,u5⟩:=hB.1.at cA cB
         obtain ⟨v1,v2,v3,v4,v5⟩:=hB.2.at cA cB
         simp [hj,hNi,ck,ck',cj,cA,cB,hfl',hsl',u3,v3,hAk,hBj,j01]
         exact ⟨by omega,by omega,by omega,by omega,by unfold roomy;omega,by omega,by omega,by omega,by unfold roomy;omega,by omega,a++[f'[A][B]+n],b++[s'[A][B]+n],⟨⟨by simp [i1],snoc_in i2 (by omega)⟩,by simp [i3],snoc_in i4 (by omega)⟩,by simp only [ownL,List.map_append,List.map_cons,List.map_nil]⟩
       · simp [hj,hNi,ck,cj,ck',j01]
         exact ⟨by omega,by unfold roomy;omega,by unfold roomy;omega,by omega,a++[(j:Int)],b++[(k:Int)],⟨⟨by simp [i1],snoc_in i2 (by omega)⟩,by simp [i3],snoc_in i4 (by omega)⟩,by simp only [ownL,List.map_append,List.map_cons,List.map_nil]⟩
   · rintro e ⟨a,b,⟨⟨i1,i2⟩,i3,i4⟩,rfl⟩
     by_cases hk0:k=0
     · subst hk0
       obtain rfl:F=[]:=List.length_eq_zero_iff.1 g1
       obtain rfl:S=[]:=List.length_eq_zero_iff.1 g3
       simp [hNi]
       exact ⟨by omega,by unfold roomy;omega,[a],[b],⟨⟨rfl,one_row ⟨i1,i2⟩⟩,rfl,one_row ⟨i3,i4⟩⟩,rfl⟩
     · rw [ownN2_ne g1 (by omega),ownN2_ne g3 (by omega)]
       simp [hNi]
       exact ⟨by omega,by unfold roomy;omega,by unfold roomy;omega,by omega,F++[a],S++[b],⟨TabN.snoc ⟨g1,g2⟩ ⟨i1,i2⟩,TabN.snoc ⟨g3,g4⟩ ⟨i3,i4⟩⟩,by simp only [ownN2_snoc]⟩
 · rintro e ⟨F,S,⟨⟨g1,g2⟩,g3,g4⟩,rfl⟩
   rw [ownN2_ne g1 hN,ownN2_ne g3 hN]
   simp [hNi]
   refine ⟨by omega,?_⟩
   subst hR
   exact ⟨(F,S),⟨⟨g1,g2⟩,g3,g4⟩,by simp [post,c_spec_l02Union]⟩
end Go.Mch
namespace Go.Mch
theorem zeroT_tabN {n:Nat} (h:0<n):TabN n (zeroT n n):=by
 refine ⟨by simp [zeroT],fun r hr=>?_⟩
 simp only [zeroT,List.mem_replicate] at hr
 rw [hr.2]
 refine ⟨by simp,fun v hv=>?_⟩
 simp only [List.mem_replicate] at hv
 omega
theorem TabN.set2 {n i j:Nat} {t:List (List Int)} {v:Int} (h:TabN n t) (hi:i<t.length) (hv:0≤v∧v<n):TabN n (t.set i (t[i].set j v)):=by
 refine ⟨by simpa using h.1,fun x hx=>?_⟩
 rcases List.mem_or_eq_of_mem_set hx with h1 | h1
 · exact h.2 x h1
 · rw [h1];exact (h.2 _ (List.getElem_mem hi)).set hv
def S_invW (pg:Pg):Prop:=∀ (n:Nat) (f s:List (List Int)),0<n→n≤64→PMN n f s→∃ X:List (List Int)×List (List Int),PMN n X.1 X.2∧Call pg 406 [sol f s] [sol f s] (ownS X)
set_option maxRecDepth 10000 in
theorem t_invW {pg:Pg} (hp:pg.fn 406=some c_spec_l02Inverse) (h398:S_empty pg):S_invW pg:=by
 intro n f s h0 hn hA
 have hfl:=hA.1.1
 have hsl:=hA.2.1
 refine Call.find hp rfl (by simp) ?_
 show wp _ _ c_spec_l02Inverse.body _ _
 generalize hR:(fun (x:X) (e:Env)=>∃ l:List (List Int)×List (List Int),PMN n l.1 l.2∧post c_spec_l02Inverse.rs [sol f s] [sol f s] (ownS l) x e)=R
 simp [c_spec_l02Inverse]
 rw [hfl]
 refine j0e (h398 n h0 (by omega)) rfl rfl (fun _=>by simp) ?_
 simp
 refine j0a (fun a e=>∃ F S:List (List Int),PMN n F S∧e=fr [(1,some (.val (.mem .own none [tb f,tb s]))),(2,some (.val (.mem .own none [nil,nil]))),(3,some (.val (I n))),(4,some (.val (.mem .own none [j09 F,j09 S]))),(5,some (.val (I a)))]) n ?_ ?_ 0 _ (by omega) ⟨zeroT n n,zeroT n n,⟨zeroT_tabN h0,zeroT_tabN h0⟩,rfl⟩
 · rintro a e ha ⟨F,S,hX,rfl⟩
   simp [ha]
   refine j0a (fun b e=>∃ F S:List (List Int),PMN n F S∧e=fr [(1,some (.val (.mem .own none [tb f,tb s]))),(2,some (.val (.mem .own none [nil,nil]))),(3,some (.val (I n))),(4,some (.val (.mem .own none [j09 F,j09 S]))),(5,some (.val (I a))),(6,some (.val (I b)))]) n ?_ ?_ 0 _ (by omega) ⟨F,S,hX,by simp⟩
   · rintro b e hb ⟨F,S,hX,rfl⟩
     obtain ⟨u1,u2,u3,u4,u5⟩:=hA.1.at ha hb
     obtain ⟨v1,v2,v3,v4,v5⟩:=hA.2.at ha hb
     obtain ⟨P,hP⟩:∃ P:Nat,(f[a])[b]=P:=⟨((f[a])[b]).toNat,by omega⟩
     obtain ⟨Q,hQ⟩:∃ Q:Nat,(s[a])[b]=Q:=⟨((s[a])[b]).toNat,by omega⟩
     rw [hP] at u4 u5
     rw [hQ] at v4 v5
     have hPn:P<n:=by omega
     have hQn:Q<n:=by omega
     obtain ⟨x1,x2,x3,_⟩:=hX.1.at hPn hQn
     obtain ⟨y1,y2,y3,_⟩:=hX.2.at hPn hQn
     have w1:=hX.1.1
     have w2:=hX.2.1
     have hg1:(rows F)[P]?=some (ownL F[P]):=by rw [rows_get,List.getElem?_eq_getElem x1];rfl
     have hg2:(rows S)[P]?=some (ownL S[P]):=by rw [rows_get,List.getElem?_eq_getElem y1];rfl
     simp [hb,ha,hfl,hsl,u3,v3,hP,hQ,hPn,hQn,x3,y3,w1,w2]
     exact ⟨by omega,by omega,F.set P (F[P].set Q a),S.set P (S[P].set Q b),⟨hX.1.set2 x1 ⟨by omega,by omega⟩,hX.2.set2 y1 ⟨by omega,by omega⟩⟩,by simp only [j09,← rows_set2 x1,← rows_set2 y1]⟩
   · rintro e ⟨F,S,hX,rfl⟩
     simp
     exact ⟨by omega,F,S,hX,rfl⟩
 · rintro e ⟨F,S,hX,rfl⟩
   simp
   subst hR
   exact ⟨(F,S),hX,by simp [post,c_spec_l02Inverse]⟩
def okR2 (n:Nat) (R:List (List Int)):Prop:=TabN n R∧∀ x y,x<n→y<n→0≤ixOf (R.getD (v2 R x y).toNat []) x
def S_ivl (pg:Pg):Prop:=∀ (n:Nat) (R:List (List Int)),0<n→n≤64→okR2 n R→∃ X:List (List Int)×List (List Int),PMN n X.1 X.2∧Call pg 461 [tb R] [tb R] (ownS X)
set_option maxRecDepth 10000 in
theorem t_ivl {pg:Pg} (hp:pg.fn 461=some c_spec_l02Involutive) (h280:S_copyT pg 280) (h69:S_index pg):S_ivl pg:=by
 intro n R h0 hn ⟨hA,hI⟩
 have hRl:=hA.1
 have hfit:fits R:=⟨by omega,fun r hr=>by have:=(hA.2 r hr).1;omega⟩
 refine Call.find hp rfl (by simp) ?_
 show wp _ _ c_spec_l02Involutive.body _ _
 generalize hR:(fun (x:X) (e:Env)=>∃ l:List (List Int)×List (List Int),PMN n l.1 l.2∧post c_spec_l02Involutive.rs [tb R] [tb R] (ownS l) x e)=Rr
 simp [c_spec_l02Involutive]
 refine j0e (h280 R hfit) rfl rfl (fun _=>by simp) ?_
 simp
 refine j0a (fun k e=>∃ s:List (List Int),(s.length=k∧∀ r∈s,RowIn n r)∧e=fr [(0,some (.val (tb R))),(2,some (.val (.mem .own none [nil,nil]))),(3,some (.val (.mem .own none [j09 R,ownN2 s]))),(4,some (.val (I k)))]) n ?_ ?_ 0 _ (by omega) ⟨[],⟨rfl,by simp⟩,rfl⟩
 · rintro k e hk ⟨s,⟨g3,g4⟩,rfl⟩
   simp [hk,hRl]
   refine j0a (fun j e=>∃ b:List Int,(b.length=j∧∀ v∈b,0≤v∧v<n)∧e=fr [(0,some (.val (tb R))),(2,some (.val (.mem .own none [nil,nil]))),(3,some (.val (.mem .own none [j09 R,ownN2 s]))),(4,some (.val (I k))),(5,some (.val (ownL b))),(6,some (.val (I j)))]) n ?_ ?_ 0 _ (by omega) ⟨[],⟨rfl,by simp⟩,rfl⟩
   · rintro j e hj ⟨b,⟨i3,i4⟩,rfl⟩
     obtain ⟨u1,u2,u3,u4,u5⟩:=hA.at hk hj
     have hv:=get_v2 u1 u2
     have hii:=hI k j hk hj
     rw [hv] at u4 u5
     obtain ⟨P,hP⟩:∃ P:Nat,v2 R k j=P:=⟨(v2 R k j).toNat,by omega⟩
     rw [hP] at hv u4 u5 hii
     have hPn:P<n:=by omega
     have hPl:P<R.length:=by omega
     have hrow:=hA.2 _ (List.getElem_mem hPl)
     have hg:R.getD P []=R[P]:=by simp [hPl]
     rw [Int.toNat_natCast,hg] at hii
     have hle:=(ixOf_le R[P] k).2
     have hc:=h69 R[P] k (by have:=hrow.1;omega)
     generalize ixOf R[P] k=z at *
     simp [hj,hRl,hk,u3,hv,hPn]
     refine j0e hc rfl rfl (fun _=>rfl) ?_
     have hz:=hrow.1
     simp
     exact ⟨by unfold roomy;omega,by omega,b++[z],⟨by simp [i3],snoc_in i4 (by omega)⟩,by simp only [ownL,List.map_append,List.map_cons,List.map_nil]⟩
   · rintro e ⟨b,⟨i3,i4⟩,rfl⟩
     by_cases hk0:k=0
     · subst hk0
       obtain rfl:s=[]:=List.length_eq_zero_iff.1 g3
       simp [hRl]
       exact ⟨by unfold roomy;omega,[b],⟨rfl,one_row ⟨i3,i4⟩⟩,rfl⟩
     · rw [ownN2_ne g3 (by omega)]
       simp [hRl]
       exact ⟨by unfold roomy;omega,by omega,s++[b],TabN.snoc ⟨g3,g4⟩ ⟨i3,i4⟩,by simp only [ownN2_snoc]⟩
 · rintro e ⟨s,⟨g3,g4⟩,rfl⟩
   rw [ownN2_ne g3 h0]
   simp [hRl]
   subst hR
   exact ⟨(R,s),⟨hA,g3,g4⟩,by simp [post,c_spec_l02Involutive]⟩
theorem thenL_rowIn {n:Nat} {p q:List Int} (hp:RowIn n p) (hq:RowIn n q):RowIn n (thenL p q):=by
 refine ⟨by simp [thenL,hp.1],fun v hv=>?_⟩
 obtain ⟨x,hx,rfl⟩:=List.mem_map.1 hv
 have h1:=hp.2 x hx
 have h2:x.toNat<q.length:=by rw [hq.1];omega
 rw [List.getD_eq_getElem?_getD,List.getElem?_eq_getElem h2]
 exact hq.2 _ (List.getElem_mem h2)
def S_twd (pg:Pg):Prop:=∀ (c:Rw Int) (s:Int×Int) (n:Nat),Sr c s→0<n→n≤64→∃ (s':Int×Int) (X:List (List Int)×List (List Int)),(Sr c s'∧PMN n X.1 X.2)∧Call pg 459 [src c s,I n] [src c s',I n] (ownS X)
set_option maxRecDepth 10000 in
theorem t_twd {pg:Pg} (hp:pg.fn 459=some j1w) (h336:S_nxt pg) (h368:S_drw pg) (h334:S_unit pg) (h279:S_then pg 279) (h425:S_twst pg):S_twd pg:=by
 intro c s n hs h0 hn
 have hfind:=Call.findA (α:=(Int×Int)×(List (List Int)×List (List Int))) (Q:=fun Y=>Sr c Y.1∧PMN n Y.2.1 Y.2.2) (args:=[src c s,I n]) (args':=fun Y=>[src c Y.1,I n]) (r:=fun Y=>ownS Y.2) hp rfl (by simp [F.lets,j1w,List.range,List.range.loop]) (by simp [kindOf]) ?_
 · obtain ⟨Y,h1,h2⟩:=hfind
   exact ⟨_,_,h1,h2⟩
 show wp _ _ j1w.body (postX _ _ _ _ _) _
 generalize hR:postX (fun Y:(Int×Int)×(List (List Int)×List (List Int))=>Sr c Y.1∧PMN n Y.2.1 Y.2.2) j1w.rs [src c s,I n] (fun Y=>[src c Y.1,I n]) (fun Y=>ownS Y.2)=R
 obtain ⟨s1,p,⟨k1,k2,_⟩,hc1⟩:=h368 c s n hs hn
 obtain ⟨s2,r,⟨k3,k3'⟩,hc2⟩:=h336.at k1 (n:=4) (by omega)
 simp [j1w]
 refine callS (ts':=[rawB c,I s1.1,H64 s1.2]) (r:=ownL p) (by simpa using hc1) ?_
 simp
 refine j0e (h334 n (by omega)) rfl rfl (fun _=>by simp) ?_
 simp
 refine callS (ts':=[rawB c,I s2.1,H64 s2.2]) (r:=I r) (by simpa using hc2) ?_
 simp
 refine j0m (α:=List Int×Nat) (fun z=>z.2) (fun z e=>(RowIn n z.1∧z.2≤4)∧e=fr [(0,some (.val (src c s2))),(1,some (.val (I n))),(4,some (.val (.mem .own none [nil,nil]))),(5,some (.val (ownL p))),(6,some (.val (ownL z.1))),(7,some (.val (I z.2)))]) ?_ (idL n,r) _ ⟨⟨(idL_rowIn n).1,by simp only;omega⟩,rfl⟩
 rintro ⟨q,j⟩ e ⟨⟨g1,g2⟩,rfl⟩
 simp only at g1 g2
 by_cases hj:0<j
 · have hql:=g1.1
   have hpl:=k2.1
   have hc3:=h279 q p (by omega) (by unfold inN;rw [hpl];exact g1.2)
   simp [hj]
   refine j0e hc3 rfl rfl (fun _=>by simp) ?_
   simp
   exact ⟨by omega,thenL q p,j-1,by omega,⟨thenL_rowIn g1 k2,by omega⟩,by
    have:(j:Int)-1=((j-1:Nat):Int):=by omega
    rw [this]⟩
 · obtain rfl:j=0:=by omega
   obtain ⟨s3,b,⟨k4,_⟩,hc4⟩:=h336.at k3 (n:=2) (by omega)
   simp
   refine callS (ts':=[rawB c,I s3.1,H64 s3.2]) (r:=I b) (by simpa using hc4) ?_
   by_cases hb:b=0
   · obtain ⟨X,⟨hX,_⟩,hc5⟩:=h425 n p q h0 hn k2 g1
     simp [hb]
     refine j0e hc5 rfl rfl (fun _=>by simp) ?_
     simp
     subst hR
     exact ⟨(s3,X),⟨k4,hX⟩,by simp [post,j1w]⟩
   · obtain ⟨X,⟨hX,_⟩,hc5⟩:=h425 n q p h0 hn g1 k2
     simp [hb]
     refine j0e hc5 rfl rfl (fun _=>by simp) ?_
     simp
     subst hR
     exact ⟨(s3,X),⟨k4,hX⟩,by simp [post,j1w]⟩
end Go.Mch
namespace Go.Mch
abbrev S2:=List (List Int)×List (List Int)
def rw4:List (List Int):=[[0,1,3,2],[0,1,3,2],[1,0,2,3],[1,0,2,3]]
def rw3:List (List Int):=[[0,1,2],[0,1,2],[1,0,2]]
theorem rw4_ok:okR2 4 rw4:=by
 refine ⟨⟨rfl,fun r hr=>?_⟩,fun x y hx hy=>?_⟩
 · simp only [rw4,List.mem_cons,List.not_mem_nil,or_false] at hr
   rcases hr with rfl | rfl | rfl | rfl <;> exact ⟨rfl,by decide⟩
 · have:∀ x<4,∀ y<4,0≤ixOf (rw4.getD (v2 rw4 x y).toNat []) x:=by decide
   exact this x hx y hy
theorem rw3_ok:okR2 3 rw3:=by
 refine ⟨⟨rfl,fun r hr=>?_⟩,fun x y hx hy=>?_⟩
 · simp only [rw3,List.mem_cons,List.not_mem_nil,or_false] at hr
   rcases hr with rfl | rfl | rfl <;> exact ⟨rfl,by decide⟩
 · have:∀ x<3,∀ y<3,0≤ixOf (rw3.getD (v2 rw3 x y).toNat []) x:=by decide
   exact this x hx y hy
def S_anyM (pg:Pg) (most:Nat):Prop:=∀ (c:Rw Int) (s:Int×Int),Sr c s→∃ (s':Int×Int) (n:Nat) (X:S2),(Sr c s'∧0<n∧n≤most∧PMN n X.1 X.2)∧Call pg 445 [src c s,I most] [src c s',I most] (ownS X)
def S_any (pg:Pg):Prop:=∀ most:Nat,0<most→most≤12→S_anyM pg most
set_option maxRecDepth 10000 in
theorem t_any {pg:Pg} (hp:pg.fn 445=some c_spec_l02Any) (h336:S_nxt pg) (h449:S_flp pg) (h423:S_poly pg) (h458:S_prd pg) (h459:S_twd pg) (h460:S_uni pg) (h461:S_ivl pg) (h406:S_invW pg):S_any pg:=by
 intro most
 induction most using Nat.strongRecOn with
 | _ most ih =>
 intro m0 m12 c s hs
 have hfind:=Call.findA (α:=(Int×Int)×Nat×S2) (Q:=fun Y=>Sr c Y.1∧0<Y.2.1∧Y.2.1≤most∧PMN Y.2.1 Y.2.2.1 Y.2.2.2) (args:=[src c s,I most]) (args':=fun Y=>[src c Y.1,I most]) (r:=fun Y=>ownS Y.2.2) hp rfl (by simp [F.lets,c_spec_l02Any,List.range,List.range.loop]) (by simp [kindOf]) ?_
 · obtain ⟨Y,h1,h2⟩:=hfind
   exact ⟨_,_,_,h1,h2⟩
 show wp _ _ c_spec_l02Any.body (postX _ _ _ _ _) _
 generalize hR:postX (fun Y:(Int×Int)×Nat×S2=>Sr c Y.1∧0<Y.2.1∧Y.2.1≤most∧PMN Y.2.1 Y.2.2.1 Y.2.2.2) c_spec_l02Any.rs [src c s,I most] (fun Y=>[src c Y.1,I most]) (fun Y=>ownS Y.2.2)=R
 have hfin:∀ (s':Int×Int) (k:Nat) (X:S2),Sr c s'→0<k→k≤most→PMN k X.1 X.2→R .ret (fr [(0,some (.val (src c s'))),(1,some (.val (I most))),(4,some (.val (.mem .own none [j09 X.1,j09 X.2])))]):=by
  intro s' k X a1 a2 a3 a4
  subst hR
  exact ⟨(s',k,X),⟨a1,a2,a3,a4⟩,by simp [post,c_spec_l02Any]⟩
 obtain ⟨s1,r1,⟨k1,k2⟩,hc1⟩:=h336.at hs (n:=most) m0
 obtain ⟨s2,kd,⟨k3,k4⟩,hc2⟩:=h336.at k1 (n:=8) (by omega)
 obtain ⟨n,hn⟩:∃ n:Nat,(1:Int)+r1=n:=⟨1+r1,by omega⟩
 have hn0:0<n:=by omega
 have hnm:n≤most:=by omega
 simp [c_spec_l02Any]
 refine callS (ts':=[rawB c,I s1.1,H64 s1.2]) (r:=I r1) (by simpa using hc1) ?_
 simp [hn]
 refine ⟨by omega,?_⟩
 refine callS (ts':=[rawB c,I s2.1,H64 s2.2]) (r:=I kd) (by simpa using hc2) ?_
 obtain ⟨sL,XL,⟨jL1,jL2⟩,hcL⟩:=h459 c s2 n k3 hn0 (by omega)
 simp
 rcases (by omega:kd=0∨kd=1∨kd=2∨kd=3∨kd=4∨kd=5∨kd=6∨kd=7) with rfl | rfl | rfl | rfl | rfl | rfl | rfl | rfl
 · obtain ⟨X,⟨hX,_⟩,hc⟩:=h449 n hn0 (by omega)
   simp
   refine j0e hc rfl rfl (fun _=>by simp) ?_
   simp
   exact hfin s2 n X k3 hn0 hnm hX
 · obtain ⟨X,hX,hc⟩:=h423 n hn0 (by omega)
   simp
   refine j0e hc rfl rfl (fun _=>by simp) ?_
   simp
   exact hfin s2 n X k3 hn0 hnm hX
 · obtain ⟨q,hq,hq2⟩:∃ q:Nat,(n:Int) / 2=q∧q=n / 2:=⟨n / 2,by omega,rfl⟩
   have e1:(n:Int).tmod 2=(n:Int) % 2:=by rw [Int.tmod_eq_emod_of_nonneg (by omega)]
   by_cases h4:4≤n
   · have h4':(4:Int)≤n:=by omega
     by_cases hev:(n:Int) % 2=0
     · obtain ⟨s3,X,⟨j1,j2⟩,hc3⟩:=h459 c s2 q k3 (by omega) (by omega)
       obtain ⟨s4,Y,⟨j3,j4⟩,hc4⟩:=h459 c s3 2 j1 (by omega) (by omega)
       obtain ⟨Z,hZ,hc5⟩:=h458 q 2 X.1 X.2 Y.1 Y.2 (by omega) (by omega) (by omega) j2 j4
       rw [show q*2=n by omega] at hZ
       simp [h4',hev,e1,hq]
       refine ⟨by omega,?_⟩
       refine callS (ts':=[rawB c,I s3.1,H64 s3.2]) (r:=ownS X) (by simpa using hc3) ?_
       simp
       refine callS (ts':=[rawB c,I s4.1,H64 s4.2]) (r:=ownS Y) (by simpa using hc4) ?_
       simp
       refine j0e hc5 rfl rfl (fun _=>by simp) ?_
       simp
       exact hfin s4 n Z j3 hn0 hnm hZ
     · simp [h4',hev,e1]
       refine callS (ts':=[rawB c,I sL.1,H64 sL.2]) (r:=ownS XL) (by simpa using hcL) ?_
       simp
       exact hfin sL n XL jL1 hn0 hnm jL2
   · have h4':¬(4:Int)≤n:=by omega
     simp [h4',j01]
     refine callS (ts':=[rawB c,I sL.1,H64 sL.2]) (r:=ownS XL) (by simpa using hcL) ?_
     simp
     exact hfin sL n XL jL1 hn0 hnm jL2
 · by_cases h2:2≤n
   · have h2':(2:Int)≤n:=by omega
     obtain ⟨n1,hn1⟩:∃ n1:Nat,(n:Int)-1=n1:=⟨n-1,by omega⟩
     obtain ⟨s3,r3,⟨j1,j2⟩,hc3⟩:=h336.at k3 (n:=n1) (by omega)
     obtain ⟨m,hm⟩:∃ m:Nat,(1:Int)+r3=m:=⟨1+r3,by omega⟩
     obtain ⟨d,hd⟩:∃ d:Nat,(n:Int)-m=d:=⟨n-m,by omega⟩
     obtain ⟨s4,k,X,⟨j3,j4,j5,j6⟩,hc4⟩:=ih m (by omega) (by omega) (by omega) c s3 j1
     obtain ⟨s5,Y,⟨j7,j8⟩,hc5⟩:=h459 c s4 d j3 (by omega) (by omega)
     obtain ⟨Z,hZ,hc6⟩:=h460 k d X.1 X.2 Y.1 Y.2 j4 (by omega) (by omega) j6 j8
     simp [h2',hn1]
     refine ⟨by omega,?_⟩
     refine callS (ts':=[rawB c,I s3.1,H64 s3.2]) (r:=I r3) (by simpa using hc3) ?_
     simp [hm]
     refine ⟨by omega,?_⟩
     refine callS (ts':=[rawB c,I s4.1,H64 s4.2]) (r:=ownS X) (by simpa using hc4) ?_
     simp [hd]
     refine ⟨by omega,?_⟩
     refine callS (ts':=[rawB c,I s5.1,H64 s5.2]) (r:=ownS Y) (by simpa using hc5) ?_
     simp
     refine j0e hc6 rfl rfl (fun _=>by simp) ?_
     simp
     exact hfin s5 (k+d) Z j7 (by omega) (by omega) hZ
   · have h2':¬(2:Int)≤n:=by omega
     simp [h2']
     refine callS (ts':=[rawB c,I sL.1,H64 sL.2]) (r:=ownS XL) (by simpa using hcL) ?_
     simp
     exact hfin sL n XL jL1 hn0 hnm jL2
 · by_cases h4:4≤most
   · have h4':(4:Int)≤most:=by omega
     obtain ⟨Z,hZ,hc6⟩:=h461 4 rw4 (by omega) (by omega) rw4_ok
     simp [h4']
     refine j0e hc6 rfl rfl (fun _=>by simp) ?_
     simp
     exact hfin s2 4 Z k3 (by omega) (by omega) hZ
   · have h4':¬(4:Int)≤most:=by omega
     simp [h4']
     refine callS (ts':=[rawB c,I sL.1,H64 sL.2]) (r:=ownS XL) (by simpa using hcL) ?_
     simp
     exact hfin sL n XL jL1 hn0 hnm jL2
 · by_cases h2:2≤n
   · have h2':(2:Int)≤n:=by omega
     obtain ⟨X,hX,hc⟩:=h423 n hn0 (by omega)
     obtain ⟨Z,hZ,hc6⟩:=h406 n X.1 X.2 hn0 (by omega) hX
     simp [h2']
     refine j0e hc rfl rfl (fun _=>by simp) ?_
     simp
     refine j0e hc6 rfl rfl (fun _=>by simp) ?_
     simp
     exact hfin s2 n Z k3 hn0 hnm hZ
   · have h2':¬(2:Int)≤n:=by omega
     simp [h2']
     refine callS (ts':=[rawB c,I sL.1,H64 sL.2]) (r:=ownS XL) (by simpa using hcL) ?_
     simp
     exact hfin sL n XL jL1 hn0 hnm jL2
 · by_cases h4:3≤most
   · have h4':(3:Int)≤most:=by omega
     obtain ⟨Z,hZ,hc6⟩:=h461 3 rw3 (by omega) (by omega) rw3_ok
     simp [h4']
     refine j0e hc6 rfl rfl (fun _=>by simp) ?_
     simp
     exact hfin s2 3 Z k3 (by omega) (by omega) hZ
   · have h4':¬(3:Int)≤most:=by omega
     simp [h4']
     refine callS (ts':=[rawB c,I sL.1,H64 sL.2]) (r:=ownS XL) (by simpa using hcL) ?_
     simp
     exact hfin sL n XL jL1 hn0 hnm jL2
 · simp
   refine callS (ts':=[rawB c,I sL.1,H64 sL.2]) (r:=ownS XL) (by simpa using hcL) ?_
   simp
   exact hfin sL n XL jL1 hn0 hnm jL2
end Go.Mch
namespace Go.Mch
theorem TabN.tab {n:Nat} {t:List (List Int)} (h:TabN n t):Tab t:=fun r hr=>⟨by rw [(h.2 r hr).1,h.1],fun v hv=>by rw [h.1];exact (h.2 r hr).2 v hv⟩
theorem pm_of {n:Nat} {p:List Int} (h:RowIn n p) (hd:p.Nodup) (h0:0<n) (h12:n≤12):Pm p:=by
 have hl:=h.1
 exact ⟨⟨fun x hx=>by rw [hl];exact h.2 x hx,hd⟩,by omega,by omega⟩
def S_dr2 (pg:Pg):Prop:=∀ (c:Rw Int) (s:Int×Int) (most:Nat),Sr c s→0<most→most≤12→∃ (s':Int×Int) (n:Nat) (X:S2),(Sr c s'∧0<n∧n≤most∧PMN n X.1 X.2)∧Call pg 412 [src c s,I most] [src c s',I most] (ownS X)
set_option maxRecDepth 10000 in
theorem t_dr2 {pg:Pg} (hp:pg.fn 412=some c_spec_l02Draw) (h336:S_nxt pg) (h445:S_any pg) (h368:S_drw pg) (h422:S_renS pg):S_dr2 pg:=by
 intro c s most hs m0 m12
 have hfind:=Call.findA (α:=(Int×Int)×Nat×S2) (Q:=fun Y=>Sr c Y.1∧0<Y.2.1∧Y.2.1≤most∧PMN Y.2.1 Y.2.2.1 Y.2.2.2) (args:=[src c s,I most]) (args':=fun Y=>[src c Y.1,I most]) (r:=fun Y=>ownS Y.2.2) hp rfl (by simp [F.lets,c_spec_l02Draw,List.range,List.range.loop]) (by simp [kindOf]) ?_
 · obtain ⟨Y,h1,h2⟩:=hfind
   exact ⟨_,_,_,h1,h2⟩
 show wp _ _ c_spec_l02Draw.body (postX _ _ _ _ _) _
 generalize hR:postX (fun Y:(Int×Int)×Nat×S2=>Sr c Y.1∧0<Y.2.1∧Y.2.1≤most∧PMN Y.2.1 Y.2.2.1 Y.2.2.2) c_spec_l02Draw.rs [src c s,I most] (fun Y=>[src c Y.1,I most]) (fun Y=>ownS Y.2.2)=R
 have hfin:∀ (s':Int×Int) (k:Nat) (X:S2),Sr c s'→0<k→k≤most→PMN k X.1 X.2→R .ret (fr [(0,some (.val (src c s'))),(1,some (.val (I most))),(4,some (.val (.mem .own none [j09 X.1,j09 X.2])))]):=by
  intro s' k X a1 a2 a3 a4
  subst hR
  exact ⟨(s',k,X),⟨a1,a2,a3,a4⟩,by simp [post,c_spec_l02Draw]⟩
 obtain ⟨s1,n,X,⟨k1,k2,k3,k4⟩,hc1⟩:=h445 most m0 m12 c s hs
 obtain ⟨s2,r,⟨k5,_⟩,hc2⟩:=h336.at k1 (n:=4) (by omega)
 obtain ⟨s3,p,⟨k6,k7,k8⟩,hc3⟩:=h368 c s2 n k5 (by omega)
 have hpm:=pm_of k7 k8 k2 (by omega)
 have hl1:=k4.1.1
 have hc4:=h422 X.1 X.2 p k4.1.tab k4.2.tab hpm (by rw [k7.1,k4.1.1]) (by rw [k7.1,k4.2.1])
 simp [c_spec_l02Draw]
 refine callS (ts':=[rawB c,I s1.1,H64 s1.2]) (r:=ownS X) (by simpa using hc1) ?_
 simp
 refine callS (ts':=[rawB c,I s2.1,H64 s2.2]) (r:=I r) (by simpa using hc2) ?_
 by_cases hr:0<r
 · have hl2:=k4.2.1
   simp [hr,hl1,hl2]
   refine callS (ts':=[rawB c,I s3.1,H64 s3.2]) (r:=ownL p) (by simpa using hc3) ?_
   simp [hl1,hl2]
   refine j0e hc4 rfl rfl (fun _=>by simp) ?_
   simp
   exact hfin s3 n (imT X.1 p,imT X.2 p) k6 k2 k3 ⟨imT_tabN k4.1 hpm k7.1,imT_tabN k4.2 hpm k7.1⟩
 · simp [hr]
   exact hfin s2 n X k5 k2 k3 k4
theorem rows_set1 (t:List (List Int)) (i:Nat) (r:List Int):(rows t).set i (ownL r)=rows (t.set i r):=by simp [rows,List.map_set]
def Bd (t:List (List Int)):Prop:=t.length≤20∧∀ r∈t,r.length≤20
theorem Bd.set {t:List (List Int)} (h:Bd t) {i:Nat} {r:List Int} (hr:r.length≤20):Bd (t.set i r):=⟨by simpa using h.1,fun x hx=>by
 rcases List.mem_or_eq_of_mem_set hx with h1 | h1
 · exact h.2 x h1
 · rw [h1];exact hr⟩
end Go.Mch
namespace Go.Mch
def CY (n:Nat) (t:List (List Int)):Prop:=TabN n t∧∀ r∈t,r.Nodup
abbrev cyT (t:List (List Int)):T:=.agg [tb t]
abbrev ownC (t:List (List Int)):T:=.agg [j09 t]
theorem invL_ok {p:List Int} (h:Pm p):RowIn p.length (invL p)∧(invL p).Nodup:=by
 refine ⟨⟨invL_length p,fun v hv=>?_⟩,?_⟩
 · obtain ⟨i,hi,rfl⟩:=List.getElem_of_mem hv
   have hil:i<p.length:=by simpa using hi
   have:=h.lt hil
   rw [invL_get hi]
   omega
 · rw [List.nodup_iff_pairwise_ne,List.pairwise_iff_getElem]
   intro i j hi hj hij he
   have hil:i<p.length:=by simpa using hi
   have hjl:j<p.length:=by simpa using hj
   rw [invL_get hi,invL_get hj] at he
   have h1:=h.at hil
   have h2:=h.at hjl
   have he':invQ p i=invQ p j:=by omega
   rw [he'] at h1
   rw [h1] at h2
   omega
end Go.Mch
namespace Go.Mch
def S_drS (pg:Pg) (f:Nat):Prop:=∀ c:Rw Int,okB c→∃ X:S2,(Bd X.1∧Bd X.2)∧Call pg f [rawB c] [rawB c] (ownS X)
end Go.Mch
namespace Go.Mch
def S_big (pg:Pg):Prop:=∀ c:Rw Int,Call pg 128 [rawB c] [rawB c] (B (decide ((4096:Int)<(lst c).length)))
theorem t_big {pg:Pg} (hp:pg.fn 128=some c_laws_big):S_big pg:=by
 intro c
 refine Call.intro hp rfl (by simp) ?_
 show wp _ _ c_laws_big.body (post [.t 2] _ _ _) _
 simp [c_laws_big]
def S_likeI (pg:Pg):Prop:=∀ a b:Rw Int,(lst a).length≤1048576→Call pg 141 [rawI a,rawI b] [rawI a,rawI b] (B (decide (lst a=lst b)))
theorem t_likeI {pg:Pg} (hp:pg.fn 141=some c_laws_likeInts):S_likeI pg:=by
 intro a b ha
 refine Call.intro hp rfl (by simp) ?_
 show wp _ _ c_laws_likeInts.body (post [.t 4] _ _ _) _
 by_cases hl:(lst a).length=(lst b).length
 · simp [c_laws_likeInts,hl]
   refine j0a (fun k e=>(∀ i,i<k→(lst a)[i]?=(lst b)[i]?)∧e=fr [(0,some (.val (rawI a))),(1,some (.val (rawI b))),(5,some (.val (I k)))]) (lst a).length ?_ ?_ 0 _ (by omega) ?_
   · rintro k e hk ⟨h1,rfl⟩
     have hk2:k<(lst b).length:=by omega
     by_cases hne:(lst a)[k]=(lst b)[k]
     · simp [hk,hk2,hne]
       refine ⟨by omega,fun i hi=>?_⟩
       rcases Nat.lt_or_ge i k with h2 | h2
       · exact h1 i h2
       · have:i=k:=by omega
         subst this
         rw [List.getElem?_eq_getElem hk,List.getElem?_eq_getElem hk2,hne]
     · simp [hk,hk2,hne]
       intro h2
       exact hne (by simp [h2])
   · rintro e ⟨h1,rfl⟩
     simp [hl]
     apply List.ext_getElem?
     intro i
     rcases Nat.lt_or_ge i (lst a).length with h2 | h2
     · exact h1 i h2
     · rw [List.getElem?_eq_none h2,List.getElem?_eq_none (by omega)]
   · exact ⟨fun i hi=>by omega,by simp⟩
 · have:lst a≠lst b:=fun h=>hl (by rw [h])
   have h2:((lst a).length:Int)≠(lst b).length:=by omega
   simp [c_laws_likeInts,h2,this]

def S_likeT (pg:Pg):Prop:=∀ a b:Rw (Rw Int),small a→Call pg 137 [rawT a,rawT b] [rawT a,rawT b] (B (decide ((lst a).map lst=(lst b).map lst)))
def S_same9 (pg:Pg):Prop:=∀ a b:Rw (Rw Int),small a→Call pg 178 [rawT a,rawT b] [rawT a,rawT b] (B (decide ((lst a).map lst=(lst b).map lst)))
theorem t_same9 {pg:Pg} (hp:pg.fn 178=some c_laws_same9) (h141:S_likeI pg):S_same9 pg:=by
 intro a b ⟨ha,hr⟩
 refine Call.intro hp rfl (by simp) ?_
 show wp _ _ c_laws_same9.body (post [.t 4] _ _ _) _
 by_cases hl:(lst a).length=(lst b).length
 · simp [c_laws_same9,hl]
   refine j0a (fun k e=>(∀ i,i<k→((lst a).map lst)[i]?=((lst b).map lst)[i]?)∧e=fr [(0,some (.val (rawT a))),(1,some (.val (rawT b))),(5,some (.val (I k)))]) (lst a).length ?_ ?_ 0 _ (by omega) ?_
   · rintro k e hk ⟨h1,rfl⟩
     have hk2:k<(lst b).length:=by omega
     simp [hk,hk2]
     refine j0e (h141 _ _ (hr _ (List.getElem_mem hk))) rfl rfl (fun _=>rfl) ?_
     by_cases hne:lst (lst a)[k]=lst (lst b)[k]
     · simp [hne]
       refine ⟨by omega,fun i hi=>?_⟩
       rcases Nat.lt_or_ge i k with h2 | h2
       · have:=h1 i h2
         simpa using this
       · have:i=k:=by omega
         subst this
         simp [hk,hk2,hne]
     · simp [hne]
       intro h2
       have h3:=congrArg (fun l=>l[k]?) h2
       simp [hk,hk2] at h3
       exact hne h3
   · rintro e ⟨h1,rfl⟩
     simp [hl]
     apply List.ext_getElem?
     intro i
     rcases Nat.lt_or_ge i (lst a).length with h2 | h2
     · exact h1 i h2
     · rw [List.getElem?_eq_none (by simpa using h2),List.getElem?_eq_none (by simp;omega)]
   · exact ⟨fun i hi=>by omega,by simp⟩
 · have:(lst a).map lst≠(lst b).map lst:=fun h=>hl (by have:=congrArg List.length h;simpa using this)
   have h2:((lst a).length:Int)≠(lst b).length:=by omega
   simp [c_laws_same9,h2,this]

theorem S_same9.tb {pg:Pg} (h:S_same9 pg) (X Y:List (List Int)) (hs:smallT X):Call pg 178 [tb X,tb Y] [tb X,tb Y] (B (decide (X=Y))):=by
 have:=h (ryT (some X)) (ryT (some Y)) (small_ry hs)
 simp only [rawT_ry,lst_ry] at this
 exact this
end Go.Mch
namespace Go.Mch
theorem pairN_div {n x y:Nat} (hy:y<n):(x*n+y) / n=x∧(x*n+y) % n=y:=by
 have hn:0<n:=by omega
 refine ⟨?_,?_⟩
 · rw [Nat.add_comm,Nat.add_mul_div_right _ _ hn,Nat.div_eq_of_lt hy,Nat.zero_add]
 · rw [Nat.add_comm,Nat.add_mul_mod_self_right,Nat.mod_eq_of_lt hy]
theorem pairN_eq {n x y x' y':Nat} (hy:y<n) (hy':y'<n) (h:x*n+y=x'*n+y'):x=x'∧y=y':=by
 have h1:=pairN_div (x:=x) hy
 have h2:=pairN_div (x:=x') hy'
 rw [h] at h1
 exact ⟨h1.1.symm.trans h2.1,h1.2.symm.trans h2.2⟩
def ldN (f s:List (List Int)) (a:Nat):Nat:=σN f (a / f.length) (a % f.length)*f.length+τN s (a % f.length) (a / f.length)
theorem inj_ld {f s:List (List Int)} (h:PM f s):Inj f s↔∀ a b,a<f.length*f.length→b<f.length*f.length→ldN f s a=ldN f s b→a=b:=by
 constructor
 · intro hi a b ha hb he
   apply Classical.byContradiction
   intro hne
   obtain ⟨e1,e2⟩:=pairN_eq (h.v2s (a / f.length) (a % f.length)).2 (h.v2s (b / f.length) (b % f.length)).2 he
   have a1:=(h.v2f (a / f.length) (a % f.length)).1
   have a2:=(h.v2f (b / f.length) (b % f.length)).1
   have a3:=(h.v2s (a / f.length) (a % f.length)).1
   have a4:=(h.v2s (b / f.length) (b % f.length)).1
   exact hi a ha b hb ⟨hne,by rw [← a1,← a2,e1],by rw [← a3,← a4,e2]⟩
 · intro hi a ha b hb ⟨hne,e1,e2⟩
   refine hne (hi a b ha hb ?_)
   unfold ldN σN τN
   rw [e1,e2]

end Go.Mch
namespace Go.Mch

structure Rck (n:Nat) (T:Nat→Nat→Nat):Prop where
 r:∀ x y,x<n→y<n→T x y<n
 i:∀ x y y',x<n→y<n→y'<n→T x y=T x y'→y=y'
 sd:∀ x y z,x<n→y<n→z<n→T x (T y z)=T (T x y) (T x z)
structure Aut (n:Nat) (T:Nat→Nat→Nat) (P Q:Nat→Nat):Prop where
 p:∀ x,x<n→P x<n
 q:∀ x,x<n→Q x<n
 pq:∀ x,x<n→P (Q x)=x
 qp:∀ x,x<n→Q (P x)=x
 a:∀ x y,x<n→y<n→P (T x y)=T (P x) (P y)
theorem Aut.back {n:Nat} {T:Nat→Nat→Nat} {P Q:Nat→Nat} (h:Aut n T P Q) (ht:Rck n T) {x y:Nat} (hx:x<n) (hy:y<n):Q (T x y)=T (Q x) (Q y):=by
 have qx:=h.q x hx
 have qy:=h.q y hy
 have e:=h.a (Q x) (Q y) qx qy
 rw [h.pq x hx,h.pq y hy] at e
 rw [← e,h.qp _ (ht.r _ _ qx qy)]
theorem tw_nd {n:Nat} {T:Nat→Nat→Nat} {P Q:Nat→Nat} (h:Aut n T P Q) (ht:Rck n T):Nd n (fun _ y=>P y) (fun y x=>Q (T (P y) x)):=by
 have rt:∀ y x,y<n→x<n→Q (T (P y) x)<n:=fun y x hy hx=>h.q _ (ht.r _ _ (h.p _ hy) hx)
 have iS:∀ y y',y<n→y'<n→P y=P y'→y=y':=fun y y' h1 h2 he=>by
  have:=congrArg Q he
  rwa [h.qp y h1,h.qp y' h2] at this
 have it:∀ x y y',x<n→y<n→y'<n→Q (T (P x) y)=Q (T (P x) y')→y=y':=fun x y y' hx h1 h2 he=>by
  have:=congrArg P he
  rw [h.pq _ (ht.r _ _ (h.p _ hx) h1),h.pq _ (ht.r _ _ (h.p _ hx) h2)] at this
  exact ht.i _ _ _ (h.p _ hx) h1 h2 this
 refine ⟨fun _ y _ hy=>h.p y hy,rt,fun _ y y' _ h1 h2 he=>iS y y' h1 h2 he,it,fun x w _ hw=>⟨Q w,h.q w hw,h.pq w hw⟩,fun x w hx hw=>surj_of_inj (fun y hy=>rt x y hx hy) (fun y y' h1 h2=>it x y y' hx h1 h2) w hw,fun _ _ _ _ _ _=>rfl,?_,?_⟩
 · intro x y z hx hy hz
   show Q (T (P (P z)) (P y))=P (Q (T (P z) y))
   have pz:=h.p z hz
   rw [h.pq _ (ht.r _ _ pz hy),← h.a _ _ pz hy,h.qp _ (ht.r _ _ pz hy)]
 · intro x y z hx hy hz
   show Q (T (P z) (Q (T (P y) x)))=Q (T (P (Q (T (P z) y))) (Q (T (P (P z)) x)))
   have py:=h.p y hy
   have pz:=h.p z hz
   have ppz:=h.p _ pz
   have qx:=h.q x hx
   have qy:=h.q y hy
   have qqx:=h.q _ qx
   have t1:=ht.r _ _ py hx
   have t2:=ht.r _ _ pz hy
   have t3:=ht.r _ _ ppz hx
   rw [h.pq _ t2,h.back ht pz (h.q _ t1),h.qp z hz,h.back ht t2 (h.q _ t3),h.back ht pz hy,h.qp z hz]
   rw [h.back ht py hx,h.qp y hy,h.back ht ppz hx,h.qp _ pz,h.back ht (x:=y) (y:=Q x) hy qx,h.back ht (x:=P z) (y:=Q x) pz qx,h.qp z hz]
   exact ht.sd z (Q y) (Q (Q x)) hz qy qqx

theorem rck_of {t:List (List Int)} (h:isRk t):Rck t.length (σN t):=by
 have ht:Tab t:=h.1.2.2
 have h0:0<t.length:=h.1.1
 have hv:∀ x y,((σN t x y:Nat):Int)=v2 t x y∧σN t x y<t.length:=fun x y=>by
  have h1:=ht.nonneg x y
  have h2:=ht.lt h0 x y
  unfold σN
  omega
 refine ⟨fun x y _ _=>(hv x y).2,fun x y y' hx h1 h2 he=>?_,fun x y z hx hy hz=>congrArg Int.toNat (h.2.2 x y z hx hy hz)⟩
 have hr:=h.2.1 t[x] (List.getElem_mem hx)
 have hl:=(ht t[x] (List.getElem_mem hx)).1
 have e:t.getD x []=t[x]:=by simp [hx]
 refine row_inj hr (by omega) (by omega) ?_
 have a1:=(hv x y).1
 have a2:=(hv x y').1
 simp only [v2,e] at a1 a2
 omega
theorem v2_int {t:List (List Int)} (h:isRk t) (x y:Nat):v2 t x y=(σN t x y:Int):=by
 have h1:=(show Tab t from h.1.2.2).nonneg x y
 unfold σN
 omega
def pN (p:List Int) (x:Nat):Nat:=(p.getD x 0).toNat
theorem pN_at {p:List Int} (h:Pm p) {x:Nat} (hx:x<p.length):p.getD x 0=(pN p x:Int)∧pN p x<p.length∧p[x]=(pN p x:Int):=by
 have hr:=h.inL _ (List.getElem_mem hx)
 have e:p.getD x 0=p[x]:=by simp [hx]
 unfold pN
 rw [e]
 omega
theorem aut_of {t:List (List Int)} {p:List Int} (h:isRk t) (hl:p.length=t.length) (hp:j05 p) (he:imT t p=t):Pm p∧Aut t.length (σN t) (pN p) (invQ p):=by
 have ht:Tab t:=h.1.2.2
 have pm:Pm p:=⟨hp,by have:=h.1.1;omega,by have:=h.1.2.1;omega⟩
 have qp:∀ x,x<t.length→invQ p (pN p x)=x:=fun x hx=>by
  have hxp:x<p.length:=by omega
  have:=pm.back hxp
  rwa [(pN_at pm hxp).2.2,Int.toNat_natCast] at this
 have pl:∀ x,x<t.length→pN p x<t.length:=fun x hx=>by have:=(pN_at pm (x:=x) (by omega)).2.1;omega
 refine ⟨pm,⟨pl,fun x hx=>by have:=pm.lt (x:=x) (by omega);omega,fun x hx=>?_,qp,fun x y hx hy=>?_⟩⟩
 · have:=pm.at (x:=x) (by omega)
   rw [pN,this]
   simp
 · have hk:=rck_of h
   have px:=pl x hx
   have py:=pl y hy
   have e:v2 (imT t p) (pN p x) (pN p y)=imG t p (pN p x) (pN p y):=v2_tabL px py
   rw [he,imG,qp x hx,qp y hy,v2_int h x y,Int.toNat_natCast] at e
   unfold pN σN at *
   rw [e]
theorem tw_tabs {t:List (List Int)} {p:List Int} (h:isRk t) (hl:p.length=t.length) (hp:j05 p) (he:imT t p=t) :
 twF p=tabL t.length (fun _ y=>(pN p y:Int))∧twS t p=tabL t.length fun x y=>(invQ p (σN t (pN p y) x):Int):=by
 obtain ⟨pm,ha⟩:=aut_of h hl hp he
 constructor
 · unfold twF
   rw [hl]
   exact tabL_congr fun x y hx hy=>(pN_at pm (x:=y) (by omega)).1
 · unfold twS
   rw [hl]
   refine tabL_congr fun x y hx hy=>?_
   unfold twH
   rfl
theorem inj_nd {f s:List (List Int)} (h:PM f s) (hn:∀ x y x' y',x<f.length→y<f.length→x'<f.length→y'<f.length→σN f x y=σN f x' y'→τN s y x=τN s y' x'→x=x'∧y=y'):Inj f s:=by
 rw [inj_ld h]
 intro a b ha hb he
 have h0:=h.pos
 have a1:a / f.length<f.length:=(Nat.div_lt_iff_lt_mul h0).2 ha
 have b1:b / f.length<f.length:=(Nat.div_lt_iff_lt_mul h0).2 hb
 have a2:a % f.length<f.length:=Nat.mod_lt _ h0
 have b2:b % f.length<f.length:=Nat.mod_lt _ h0
 unfold ldN at he
 have l1:=(h.v2s (a / f.length) (a % f.length)).2
 have l2:=(h.v2s (b / f.length) (b % f.length)).2
 have e1:=congrArg (· / f.length) he
 have e2:=congrArg (· % f.length) he
 simp only [Nat.mul_add_mod_of_lt l1,Nat.mul_add_mod_of_lt l2] at e2
 simp only [Nat.mul_comm _ f.length,Nat.mul_add_div h0,Nat.div_eq_of_lt l1,Nat.div_eq_of_lt l2,Nat.add_zero] at e1
 obtain ⟨h1,h2⟩:=hn _ _ _ _ a1 a2 b1 b2 e1 e2
 have q1:=Nat.div_add_mod a f.length
 have q2:=Nat.div_add_mod b f.length
 rw [h1,h2] at q1
 omega
theorem pair_of {f s:List (List Int)} (h:PM f s):isPairMap f s :=
 ⟨⟨by have:=h.pos;omega,by have:=h.small;omega,h.tf⟩,⟨by have:=h.pos;have:=h.len;omega,by have:=h.small;have:=h.len;omega,h.ts⟩,h.len.symm⟩
theorem reg_of {f s:List (List Int)} (h:Rg f s) (hi:Inj f s):isReg f s:=⟨⟨pair_of h.1,hi,h.2.1⟩,h.2.2⟩
theorem tw_reg {t:List (List Int)} {p:List Int} (h:isRk t) (hl:p.length=t.length) (hp:j05 p) (he:imT t p=t):isReg (twF p) (twS t p)∧raT (twF p) (twS t p)=t:=by
 obtain ⟨pm,ha⟩:=aut_of h hl hp he
 have hk:=rck_of h
 have nd:=tw_nd ha hk
 have h0:=h.1.1
 have h12:=h.1.2.1
 obtain ⟨e1,e2⟩:=tw_tabs h hl hp he
 have rg:=rg_tab nd (by omega) (by omega)
 have rg2:Rg (twF p) (twS t p):=by rw [e1,e2];exact rg
 have fl:(twF p).length=t.length:=by rw [e1];simp
 have s1:∀ x y,x<t.length→y<t.length→σN (twF p) x y=pN p y:=fun x y hx hy=>by
  unfold σN;rw [e1,v2_tabL hx hy];simp
 have s2:∀ x y,x<t.length→y<t.length→τN (twS t p) y x=invQ p (σN t (pN p y) x):=fun x y hx hy=>by
  unfold τN;rw [e2,v2_tabL hx hy];simp
 refine ⟨reg_of rg2 (inj_nd rg2.1 ?_),?_⟩
 · rw [fl]
   intro x y x' y' hx hy hx' hy' g1 g2
   rw [s1 _ _ hx hy,s1 _ _ hx' hy'] at g1
   obtain rfl:y=y':=nd.is x _ _ hx hy hy' g1
   rw [s2 _ _ hx hy,s2 _ _ hx' hy'] at g2
   exact ⟨nd.it y _ _ hy hx hx' g2,rfl⟩
 · have ht:Tab t:=h.1.2.2
   rw [raT,fl,tab_eq (t:=t) (n:=t.length) rfl fun r hr=>(ht r hr).1]
   simp only [tabL_length]
   refine tabL_congr fun x y hx hy=>?_
   have er:(twF p).getD y []=p:=by
    rw [e1]
    have hy':y<(tabL t.length fun _ y=>(pN p y:Int)).length:=by simpa using hy
    rw [List.getD_eq_getElem?_getD,List.getElem?_eq_getElem hy']
    show ((List.range t.length).map fun x=>(List.range t.length).map fun y=>((pN p y:Nat):Int))[y]'(by simpa using hy)=p
    rw [List.getElem_map]
    apply List.ext_getElem
    · simp [hl]
    · intro i g1 g2
      simp [(pN_at pm g2).2.2]
   have et:tabL t.length (v2 t)=t:=(tab_eq (t:=t) (n:=t.length) rfl fun r hr=>(ht r hr).1).symm
   rw [et]
   have qx:=ha.q x hx
   unfold raV
   rw [er]
   have k1:v2 (twS t p) y (invQ p x)=(invQ p (σN t (pN p (invQ p x)) y):Int):=by rw [e2];exact v2_tabL hy qx
   rw [show (ixOf p (x:Int)).toNat=invQ p x from rfl,k1,ha.pq x hx,Int.toNat_natCast]
   have k2:v2 (twF p) x (invQ p (σN t x y))=(pN p (invQ p (σN t x y)):Int):=by rw [e1];exact v2_tabL hx (ha.q _ (hk.r _ _ hx hy))
   rw [k2,ha.pq _ (hk.r _ _ hx hy)]
   exact (v2_int h x y).symm
end Go.Mch
namespace Go.Mch
def Rn (k:Int):Prop:=-4611686018427387904≤k∧k≤1099511627776
def S_drK (pg:Pg) (f:Nat):Prop:=∀ c:Rw Int,okB c→∃ (X:S2) (k:Int),(Bd X.1∧Bd X.2∧Rn k)∧Call pg f [rawB c] [rawB c] (.tup [ownS X,I k])
end Go.Mch
namespace Go.Mch
def S_cop (pg:Pg):Prop:=∀ a n:Nat,a≤1048576→n≤1048576→∃ b:Bool,Call pg 456 [I a,I n] [I a,I n] (B b)
set_option maxRecDepth 10000 in
theorem t_cop {pg:Pg} (hp:pg.fn 456=some c_spec_l03Coprime):S_cop pg:=by
 intro a n ha hn
 obtain ⟨b,_,h⟩:=Call.find (α:=Bool) (Q:=fun _=>True) (args:=[I a,I n]) (r:=fun b=>B b) hp rfl (by simp) (by
  show wp _ _ c_spec_l03Coprime.body _ _
  generalize hR:(fun (x:X) (e:Env)=>∃ b:Bool,True∧post c_spec_l03Coprime.rs [I a,I n] [I a,I n] (B b) x e)=R
  have hfin:∀ b:Bool,R .ret (fr [(4,some (.val (B b)))]):=fun b=>by
   subst hR
   exact ⟨b,trivial,by simp [post,c_spec_l03Coprime]⟩
  simp [c_spec_l03Coprime]
  refine j0m (α:=Nat) (fun k=>n+1-k) (fun k e=>2≤k∧e=fr [(0,some (.val (I a))),(1,some (.val (I n))),(5,some (.val (I k)))]) ?_ 2 _ ⟨by omega,rfl⟩
  rintro k e ⟨hk,rfl⟩
  by_cases hkn:k≤n
  · have hk0:¬k=0:=by omega
    by_cases h1:(a:Int) % k=0
    · by_cases h2:(n:Int) % k=0
      · simp [hkn,hk0,h1,h2]
        exact hfin false
      · simp [hkn,hk0,h1,h2]
        exact ⟨by omega,k+1,by omega,by omega,rfl⟩
    · simp [hkn,hk0,h1,j01]
      exact ⟨by omega,k+1,by omega,by omega,rfl⟩
  · have hkn':n<k:=by omega
    simp [hkn]
    exact hfin true)
 exact ⟨b,h⟩
def S_alx (pg:Pg):Prop:=∀ n a b:Nat,n≤64→a≤64→b≤64→∃ t:List (List Int),TabN n t∧Call pg 455 [I n,I a,I b] [I n,I a,I b] (j09 t)
set_option maxRecDepth 10000 in
theorem t_alx {pg:Pg} (hp:pg.fn 455=some c_spec_l03Alexander):S_alx pg:=by
 intro n a b hn ha hb
 refine Call.find hp rfl (by simp) ?_
 show wp _ _ c_spec_l03Alexander.body _ _
 generalize hR:(fun (x:X) (e:Env)=>∃ l:List (List Int),TabN n l∧post c_spec_l03Alexander.rs [I n,I a,I b] [I n,I a,I b] (j09 l) x e)=R
 simp [c_spec_l03Alexander]
 refine j0a (fun k e=>∃ s:List (List Int),(s.length=k∧∀ r∈s,RowIn n r)∧e=fr [(0,some (.val (I n))),(1,some (.val (I a))),(2,some (.val (I b))),(7,some (.val (j09 s))),(8,some (.val (I k)))]) n ?_ ?_ 0 _ (by omega) ⟨[],⟨rfl,by simp⟩,rfl⟩
 · rintro k e hk ⟨s,⟨g3,g4⟩,rfl⟩
   simp [hk]
   refine j0a (fun j e=>∃ q:List Int,(q.length=j∧∀ v∈q,0≤v∧v<n)∧e=fr [(0,some (.val (I n))),(1,some (.val (I a))),(2,some (.val (I b))),(7,some (.val (j09 s))),(8,some (.val (I k))),(9,some (.val (ownL q))),(10,some (.val (I j)))]) n ?_ ?_ 0 _ (by omega) ⟨[],⟨rfl,by simp⟩,rfl⟩
   · rintro j e hj ⟨q,⟨i3,i4⟩,rfl⟩
     obtain ⟨u,hu,hu2⟩:∃ u:Nat,(b:Int)*k=u∧u≤4096:=⟨b*k,by simp,Nat.mul_le_mul hb (by omega:k≤64)⟩
     obtain ⟨v,hv,hv2⟩:∃ v:Nat,(a:Int)*j=v∧v≤4096:=⟨a*j,by simp,Nat.mul_le_mul ha (by omega:j≤64)⟩
     obtain ⟨m,hm,hm2⟩:∃ m:Nat,((u:Int)+v).tmod n=m∧m<n:=⟨(u+v) % n,by rw [Int.tmod_eq_emod_of_nonneg (by omega),Int.natCast_emod];simp,Nat.mod_lt _ (by omega)⟩
     have hn0:¬n=0:=by omega
     simp [hj,hu,hv,hm,hn0]
     exact ⟨by omega,by omega,by omega,by unfold roomy;omega,by omega,q++[(m:Int)],⟨by simp [i3],snoc_in i4 (by omega)⟩,by simp only [ownL,List.map_append,List.map_cons,List.map_nil]⟩
   · rintro e ⟨q,⟨i3,i4⟩,rfl⟩
     simp
     exact ⟨by unfold roomy;omega,by omega,s++[q],TabN.snoc ⟨g3,g4⟩ ⟨i3,i4⟩,by simp only [j09,rows,List.map_append,List.map_cons,List.map_nil]⟩
 · rintro e ⟨s,⟨g3,g4⟩,rfl⟩
   simp
   subst hR
   exact ⟨s,⟨g3,g4⟩,by simp [post,c_spec_l03Alexander]⟩
theorem ins_perm {k:Nat} {q:List Int} (h:RowIn k q) (hd:q.Nodup) (r:Nat):RowIn (k+1) (q.take r++(k:Int)::q.drop r)∧(q.take r++(k:Int)::q.drop r).Nodup:=by
 have hp:(q.take r++(k:Int)::q.drop r).Perm ((k:Int)::q):=by
  have:=(List.perm_middle (a:=(k:Int)) (l₁:=q.take r) (l₂:=q.drop r))
  rwa [List.take_append_drop] at this
 refine ⟨⟨by rw [hp.length_eq];simp [h.1],fun v hv=>?_⟩,hp.nodup_iff.2 (List.nodup_cons.2 ⟨fun hm=>?_,hd⟩)⟩
 · rcases List.mem_cons.1 (hp.mem_iff.1 hv) with rfl | hm
   · omega
   · have:=h.2 v hm;omega
 · have:=h.2 _ hm;omega
def S_dpm (pg:Pg):Prop:=∀ (c:Rw Int) (s:Int×Int) (n:Nat),Sr c s→n≤64→∃ (s':Int×Int) (p:List Int),(Sr c s'∧RowIn n p∧p.Nodup)∧Call pg 338 [src c s,I n] [src c s',I n] (ownL p)
set_option maxRecDepth 10000 in
theorem t_dpm {pg:Pg} (hp:pg.fn 338=some c_spec_l03DrawPerm) (h336:S_nxt pg):S_dpm pg:=by
 intro c s n hs hn
 have hfind:=Call.findA (α:=(Int×Int)×List Int) (Q:=fun Y=>Sr c Y.1∧RowIn n Y.2∧Y.2.Nodup) (args:=[src c s,I n]) (args':=fun Y=>[src c Y.1,I n]) (r:=fun Y=>ownL Y.2) hp rfl (by simp [F.lets,c_spec_l03DrawPerm,List.range,List.range.loop]) (by simp [kindOf]) ?_
 · obtain ⟨Y,h1,h2⟩:=hfind
   exact ⟨_,_,h1,h2⟩
 show wp _ _ c_spec_l03DrawPerm.body (postX _ _ _ _ _) _
 generalize hR:postX (fun Y:(Int×Int)×List Int=>Sr c Y.1∧RowIn n Y.2∧Y.2.Nodup) c_spec_l03DrawPerm.rs [src c s,I n] (fun Y=>[src c Y.1,I n]) (fun Y=>ownL Y.2)=R
 simp [c_spec_l03DrawPerm]
 refine j0a (fun k e=>∃ (s':Int×Int) (q:List Int),(Sr c s'∧RowIn k q∧q.Nodup)∧e=fr [(0,some (.val (src c s'))),(1,some (.val (I n))),(5,some (.val (ownL q))),(6,some (.val (I k)))]) n ?_ ?_ 0 _ (by omega) ⟨s,[],⟨hs,⟨rfl,by simp⟩,by simp⟩,rfl⟩
 · rintro k e hk ⟨s1,q,⟨g1,g2,g3⟩,rfl⟩
   obtain ⟨s2,r,⟨j1,j2⟩,hc⟩:=h336.at g1 (n:=k+1) (by omega)
   have hql:=g2.1
   obtain ⟨i1,i2⟩:=ins_perm g2 g3 r
   have hrq:r≤q.length:=by omega
   simp [hk]
   refine ⟨by omega,?_⟩
   refine callS (ts':=[rawB c,I s2.1,H64 s2.2]) (r:=I r) (by simpa using hc) ?_
   have w1:win (q.map I) r (q.length-r)=(q.drop r).map I:=by
    rw [win,List.map_drop]
    exact List.take_of_length_le (by simp)
   have w0:win (q.map I) 0 r=(q.take r).map I:=by rw [win,List.map_take];rfl
   simp only [ownL] at *
   simp [hrq,roomy,w1,w0,-List.map_drop,-List.map_take]
   refine ⟨by omega,by omega,by omega,by omega,s2.1,s2.2,q.take r++(k:Int)::q.drop r,⟨j1,i1,i2⟩,by simp⟩
 · rintro e ⟨s1,q,⟨g1,g2,g3⟩,rfl⟩
   simp
   subst hR
   exact ⟨(s1,q),⟨g1,g2,g3⟩,by simp [post,c_spec_l03DrawPerm]⟩
end Go.Mch
namespace Go.Mch
def grwL:Nat→Nat→List Int→List (List Int)→List (List Int)
 | 0,_,p,l=>l++[p]
 | k+1,n,p,l=>(List.range n).foldl (fun l (i:Nat)=>if (i:Int)∈p then l else grwL k n (p++[(i:Int)]) l) l
def grwK (k n:Nat) (p:List Int) (l:List (List Int)) (i:Nat):List (List Int):=(List.range i).foldl (fun l (i:Nat)=>if (i:Int)∈p then l else grwL k n (p++[(i:Int)]) l) l
theorem grwK_succ (k n:Nat) (p:List Int) (l:List (List Int)) (i:Nat):grwK k n p l (i+1)=if (i:Int)∈p then grwK k n p l i else grwL k n (p++[(i:Int)]) (grwK k n p l i):=by
 simp [grwK,List.range_succ,List.foldl_append]
theorem grwL_len (n:Nat):∀ (k:Nat) (p:List Int) (l:List (List Int)),(grwL k n p l).length≤l.length+n ^ k:=by
 intro k
 induction k with
 | zero=>intro p l;simp [grwL]
 | succ k ih =>
  intro p l
  have h:∀ i,(grwK k n p l i).length≤l.length+i*n ^ k:=by
   intro i
   induction i with
   | zero=>simp [grwK]
   | succ i ihi =>
    rw [grwK_succ,Nat.add_mul]
    split
    · omega
    · have:=ih (p++[(i:Int)]) (grwK k n p l i)
      omega
  have:=h n
  rw [Nat.pow_succ,Nat.mul_comm (n ^ k)]
  exact this
theorem grwL_succ (k n:Nat) (p:List Int) (l:List (List Int)):grwL (k+1) n p l=grwK k n p l n:=rfl
def S_grw (pg:Pg) (k:Nat):Prop:=∀ (p:List Int) (l:List (List Int)),p.length+k=3→l.length+3*3 ^ k≤1000→∃ x:T,Call pg 466 [I 3,ownL p,j09 l] [I 3,x,.gone] (j09 (grwL k 3 p l))
theorem t_grw0 {pg:Pg} (hp:pg.fn 466=some c_spec_l01Grow):S_grw pg 0:=by
 intro p l h hl
 refine ⟨.gone,Call.intro_tak hp rfl (by simp [F.letg,T.isGone,c_spec_l01Grow,List.range,List.range.loop]) ?_⟩
 show wp _ _ c_spec_l01Grow.body (post [.t 6] _ _ _) _
 have h3:(p.length:Int)=3:=by omega
 simp [c_spec_l01Grow,kindOf,h3]
 exact ⟨by unfold roomy;omega,by simp [rows,grwL]⟩
theorem t_grwS {pg:Pg} {k:Nat} (hp:pg.fn 466=some c_spec_l01Grow) (h62:S_has pg) (h31:S_own pg) (h466:S_grw pg k) (hk:k≤2):S_grw pg (k+1):=by
 intro p l h hl
 refine ⟨ownL p,Call.intro_tak hp rfl (by simp [F.letg,T.isGone,c_spec_l01Grow,List.range,List.range.loop]) ?_⟩
 show wp _ _ c_spec_l01Grow.body (post [.t 6] _ _ _) _
 have h3:¬(p.length:Int)=3:=by omega
 simp [c_spec_l01Grow,kindOf,h3]
 refine j0a (fun i e=>(grwK k 3 p l i).length≤l.length+i*3 ^ k∧e=fr [(0,some (.val (I 3))),(1,some (.val (ownL p))),(2,some (.val (j09 (grwK k 3 p l i)))),(7,some (.val (I i)))]) 3 ?_ ?_ 0 _ (by omega) ⟨by simp [grwK],by simp [grwK]⟩
 · rintro i e hi ⟨g1,rfl⟩
   have hi':(i:Int)<3:=by omega
   have hk3:3 ^ k≤9:=Nat.pow_le_pow_right (by omega:0<3) hk
   have hpw:3 ^ (k+1)=3*3 ^ k:=by rw [Nat.pow_succ,Nat.mul_comm]
   have hik:i*3 ^ k≤2*3 ^ k:=Nat.mul_le_mul_right _ (by omega)
   have hb:(grwK k 3 p l i).length+3*3 ^ k≤1000:=by omega
   have g2:=grwK_succ k 3 p l i
   have gl:=grwL_len 3 k (p++[(i:Int)]) (grwK k 3 p l i)
   have hc1:=h62 p i (by omega)
   have hc2:=h31 p (by omega)
   obtain ⟨z,hc3⟩:=h466 (p++[(i:Int)]) (grwK k 3 p l i) (by simp;omega) hb
   simp [hi']
   refine j0e hc1 rfl rfl (fun _=>rfl) ?_
   by_cases hm:(i:Int)∈p
   · rw [if_pos hm] at g2
     simp [hm]
     refine ⟨by omega,by rw [g2,Nat.add_mul];omega,by rw [g2]⟩
   · rw [if_neg hm] at g2
     simp [hm]
     refine j0e hc2 rfl rfl (fun _=>by simp) ?_
     simp
     refine ⟨by unfold roomy;omega,?_⟩
     refine callM (ts':=[I 3,z,.gone]) (r:=j09 (grwL k 3 (p++[(i:Int)]) (grwK k 3 p l i))) ?_ ?_ ?_ ?_
     · simp
     · have e:T.lendL (p.map I++[I (i:Int)])=p.map I++[I (i:Int)]:=by
        rw [show p.map I++[I (i:Int)]=(p++[(i:Int)]).map I by simp]
        exact lendL_mapI _
       simpa [ownL,e] using hc3
     · simp
     simp
     exact ⟨by omega,by rw [g2,Nat.add_mul];omega,by rw [g2]⟩
 · rintro e ⟨g1,rfl⟩
   rw [grwL_succ]
   generalize grwK k 3 p l 3=z at *
   simp [post]
def perm3:List (List Int):=[[0,1,2],[0,2,1],[1,0,2],[1,2,0],[2,0,1],[2,1,0]]
def S_perms3 (pg:Pg):Prop:=Call pg 457 [I 3] [I 3] (j09 perm3)
theorem t_perms3 {pg:Pg} (hp:pg.fn 457=some c_spec_l01Perms) (h466:S_grw pg 3):S_perms3 pg:=by
 obtain ⟨z,hc⟩:=h466 [] [] rfl (by decide)
 have e:grwL 3 3 [] []=perm3:=by decide
 rw [e] at hc
 have hc':Call pg 466 [I 3,.mem .own (some 1) [],.mem .own (some 1) []] [I 3,z,.gone] (j09 perm3):=hc
 refine Call.intro hp rfl (by simp) ?_
 show wp _ _ c_spec_l01Perms.body (post [.t 2] _ _ _) _
 simp [c_spec_l01Perms]
 refine callM (ts':=[I 3,z,.gone]) (r:=j09 perm3) ?_ ?_ ?_ ?_
 · simp
 · simpa using hc'
 · simp
 simp
theorem t_grw3 {pg:Pg} (hp:pg.fn 466=some c_spec_l01Grow) (h62:S_has pg) (h31:S_own pg):S_grw pg 3:=by
 have h0:=t_grw0 hp
 have h1:=t_grwS hp h62 h31 h0 (by omega)
 have h2:=t_grwS hp h62 h31 h1 (by omega)
 exact t_grwS hp h62 h31 h2 (by omega)
end Go.Mch
namespace Go.Mch
def exch3:List (List Int):=[[0,2,1],[1,0,2],[2,1,0]]
structure Cnj (L:List (List Int)):Prop where
 pos:0<L.length
 six:L.length≤6
 pm:∀ p∈L,Pm p∧p.length=3
 cl:∀ i j (hi:i<L.length) (hj:j<L.length),∃ m,∃ h:m<L.length,L[m]=thenL (thenL (invL L[i]) L[j]) L[i]
theorem cnj_of {L:List (List Int)} (h1:0<L.length) (h2:L.length≤6) (h3:∀ p∈L,(∀ x∈p,0≤x∧x<(p.length:Int))∧p.Nodup∧p.length=3) (h4:∀ i<L.length,∀ j<L.length,∃ m,m<L.length∧L.getD m []=thenL (thenL (invL (L.getD i [])) (L.getD j [])) (L.getD i [])):Cnj L:=by
 refine ⟨h1,h2,fun p hp=>⟨⟨⟨(h3 p hp).1,(h3 p hp).2.1⟩,by have:=(h3 p hp).2.2;omega,by have:=(h3 p hp).2.2;omega⟩,(h3 p hp).2.2⟩,fun i j hi hj=>?_⟩
 obtain ⟨m,hm,e⟩:=h4 i hi j hj
 refine ⟨m,hm,?_⟩
 simpa [hi,hj,hm] using e
theorem cnj_perm:Cnj perm3:=cnj_of (by decide) (by decide) (by decide) (by decide)
theorem cnj_exch:Cnj exch3:=cnj_of (by decide) (by decide) (by decide) (by decide)
theorem tmodX {a n:Nat} (h:0<n):∃ m:Nat,((a:Nat):Int).tmod n=m∧m<n:=⟨a % n,by rw [Int.tmod_eq_emod_of_nonneg (by omega),Int.natCast_emod],Nat.mod_lt _ h⟩
def S_dtb (pg:Pg):Prop:=∀ (c:Rw Int) (s:Int×Int) (most:Nat),Sr c s→0<most→most≤12→∃ (s':Int×Int) (n:Nat) (t:List (List Int)),(Sr c s'∧0<n∧n≤most∧TabN n t)∧Call pg 444 [src c s,I most] [src c s',I most] (j09 t)
set_option maxHeartbeats 2000000 in
set_option maxRecDepth 10000 in
theorem t_dtb {pg:Pg} (hp:pg.fn 444=some j1u) (h336:S_nxt pg) (h338:S_dpm pg) (h31:S_own pg) (h455:S_alx pg) (h456:S_cop pg) (h457:S_perms3 pg) (h304:S_inv pg 304) (h279:S_then pg 279) (h67:S_same pg):S_dtb pg:=by
 intro c s most hs m0 m12
 have hfind:=Call.findA (α:=(Int×Int)×Nat×List (List Int)) (Q:=fun Y=>Sr c Y.1∧0<Y.2.1∧Y.2.1≤most∧TabN Y.2.1 Y.2.2) (args:=[src c s,I most]) (args':=fun Y=>[src c Y.1,I most]) (r:=fun Y=>j09 Y.2.2) hp rfl (by simp [F.lets,j1u,List.range,List.range.loop]) (by simp [kindOf]) ?_
 · obtain ⟨Y,h1,h2⟩:=hfind
   exact ⟨_,_,_,h1,h2⟩
 show wp _ _ j1u.body (postX _ _ _ _ _) _
 generalize hR:postX (fun Y:(Int×Int)×Nat×List (List Int)=>Sr c Y.1∧0<Y.2.1∧Y.2.1≤most∧TabN Y.2.1 Y.2.2) j1u.rs [src c s,I most] (fun Y=>[src c Y.1,I most]) (fun Y=>j09 Y.2.2)=R
 have hfin:∀ (s':Int×Int) (k:Nat) (t:List (List Int)),Sr c s'→0<k→k≤most→TabN k t→R .ret (fr [(0,some (.val (src c s'))),(1,some (.val (I most))),(4,some (.val (j09 t)))]):=by
  intro s' k X a1 a2 a3 a4
  subst hR
  exact ⟨(s',k,X),⟨a1,a2,a3,a4⟩,by simp [post,j1u]⟩
 obtain ⟨s1,r1,⟨k1,k2⟩,hc1⟩:=h336.at hs (n:=most) m0
 obtain ⟨s2,kd,⟨k3,k4⟩,hc2⟩:=h336.at k1 (n:=5) (by omega)
 obtain ⟨n,hn⟩:∃ n:Nat,(1:Int)+r1=n:=⟨1+r1,by omega⟩
 have hn0:0<n:=by omega
 have hnm:n≤most:=by omega
 have hnn:¬n=0:=by omega
 simp [j1u]
 refine callS (ts':=[rawB c,I s1.1,H64 s1.2]) (r:=I r1) (by simpa using hc1) ?_
 simp [hn]
 refine ⟨by omega,?_⟩
 refine callS (ts':=[rawB c,I s2.1,H64 s2.2]) (r:=I kd) (by simpa using hc2) ?_
 by_cases hk0:kd=0
 · obtain ⟨s3,p,⟨j1,j2,j3⟩,hc3⟩:=h338 c s2 n k3 (by omega)
   simp [hk0]
   refine callS (ts':=[rawB c,I s3.1,H64 s3.2]) (r:=ownL p) (by simpa using hc3) ?_
   simp
   refine j0a (fun k e=>∃ t:List (List Int),(t.length=k∧∀ r∈t,RowIn n r)∧e=fr [(0,some (.val (src c s3))),(1,some (.val (I most))),(5,some (.val (I n))),(6,some (.val (ownL p))),(7,some (.val (j09 t))),(8,some (.val (I k)))]) n ?_ ?_ 0 _ (by omega) ⟨[],⟨rfl,by simp⟩,rfl⟩
   · rintro k e hk ⟨t,⟨g1,g2⟩,rfl⟩
     have hpl:=j2.1
     simp [hk]
     refine j0e (h31 p (by omega)) rfl rfl (fun _=>by simp) ?_
     simp
     exact ⟨by unfold roomy;omega,by omega,t++[p],TabN.snoc ⟨g1,g2⟩ j2,by simp only [j09,rows,List.map_append,List.map_cons,List.map_nil]⟩
   · rintro e ⟨t,g,rfl⟩
     simp
     exact hfin s3 n t j1 hn0 hnm g
 · by_cases hk1:kd=1
   · obtain ⟨a2,ha2,ha2'⟩:=tmodX (a:=2) hn0
     have ha3:(2:Int).tmod n=a2:=ha2
     obtain ⟨n1,hn1⟩:∃ n1:Nat,(n:Int)-1=n1:=⟨n-1,by omega⟩
     obtain ⟨t,ht,hc3⟩:=h455 n n1 a2 (by omega) (by omega) (by omega)
     simp [hk1,hnn,ha3,hn1]
     refine ⟨by omega,?_⟩
     refine j0e hc3 rfl rfl (fun _=>by simp) ?_
     simp
     exact hfin s2 n t k3 hn0 hnm ht
   · by_cases hk2:kd=2
     · simp [hk2]
       refine j0a (fun k e=>∃ s':Int×Int,Sr c s'∧e=fr [(0,some (.val (src c s'))),(1,some (.val (I most))),(5,some (.val (I n))),(9,some (.val (I k)))]) 6 ?_ ?_ 0 _ (by omega) ⟨s2,k3,rfl⟩
       · rintro k e hk ⟨s3,g1,rfl⟩
         obtain ⟨s4,a,⟨j1,j2⟩,hd1⟩:=h336.at g1 (n:=n) hn0
         obtain ⟨b,hcb⟩:=h456 a n (by omega) (by omega)
         obtain ⟨z,hz⟩:∃ z:Nat,(1:Int)-a+n=z:=⟨1+n-a,by omega⟩
         obtain ⟨y,hy,hy'⟩:=tmodX (a:=z) hn0
         obtain ⟨t,ht,hct⟩:=h455 n a y (by omega) (by omega) (by omega)
         have hk':(k:Int)<6:=by omega
         simp [hk']
         refine callS (ts':=[rawB c,I s4.1,H64 s4.2]) (r:=I a) (by simpa using hd1) ?_
         simp
         refine j0e hcb rfl rfl (fun _=>rfl) ?_
         cases b with
         | true =>
          simp [hz,hnn,hy,-tmod_nat]
          refine ⟨by omega,by omega,?_⟩
          refine j0e hct rfl rfl (fun _=>by simp) ?_
          simp
          exact hfin s4 n t j1 hn0 hnm ht
         | false =>
          simp
          exact ⟨by omega,s4.1,s4.2,j1,rfl⟩
       · rintro e ⟨s3,g1,rfl⟩
         simp
         obtain ⟨s4,u,⟨v1,v2⟩,hcu⟩:=h336.at g1 (n:=n) hn0
         obtain ⟨g,hg,hg0,hgn,hgu⟩:∃ g:Nat,mmI true 1 (u:Int)=g∧0<g∧g≤12∧(u≠0→g=u):=by
          by_cases hu:u=0
          · exact ⟨1,by simp [mmI,hu],by omega,by omega,fun h=>(h hu).elim⟩
          · exact ⟨u,by simp [mmI];omega,by omega,by omega,fun _=>rfl⟩
         obtain ⟨g1,hg1⟩:∃ g1:Nat,(g:Int)-1=g1:=⟨g-1,by omega⟩
         obtain ⟨g2,hg2,hg2'⟩:=tmodX (a:=2) hg0
         have hg2:(2:Int).tmod g=g2:=hg2
         obtain ⟨d,hd⟩:∃ d:Nat,(n:Int)-u=d:=⟨n-u,by omega⟩
         have hd0:0<d:=by omega
         obtain ⟨d1,hd1,hd1'⟩:=tmodX (a:=1) hd0
         have hd1:(1:Int).tmod d=d1:=hd1
         obtain ⟨A,hA,hcA⟩:=h455 g g1 g2 (by omega) (by omega) (by omega)
         obtain ⟨D,hD,hcD⟩:=h455 d d1 0 (by omega) (by omega) (by omega)
         obtain ⟨s5,p,⟨v3,v4,v5⟩,hcp⟩:=h338 c s4 d v1 (by omega)
         have hgz:¬g=0:=by omega
         have hdz:¬d=0:=by omega
         refine callS (ts':=[rawB c,I s4.1,H64 s4.2]) (r:=I u) (by simpa using hcu) ?_
         simp [hg,hgz,hg1,hg2,-tmod_nat]
         refine ⟨by omega,?_⟩
         refine j0e hcA rfl rfl (fun _=>by simp) ?_
         simp [hd,hdz,hd1,-tmod_nat]
         refine ⟨by omega,?_⟩
         refine j0e hcD rfl rfl (fun _=>by simp) ?_
         by_cases hu0:u=0
         · simp [hu0]
           have hdn:d=n:=by omega
           subst hdn
           exact hfin s4 d D v1 hn0 hnm hD
         · simp [hu0,hd]
           refine ⟨by omega,?_⟩
           refine callS (ts':=[rawB c,I s5.1,H64 s5.2]) (r:=ownL p) (by simpa using hcp) ?_
           simp
           refine j0a (fun k e=>∃ t:List (List Int),(t.length=k∧∀ r∈t,RowIn n r)∧e=fr [(0,some (.val (src c s5))),(1,some (.val (I most))),(5,some (.val (I n))),(18,some (.val (I u))),(19,some (.val (j09 A))),(20,some (.val (j09 D))),(21,some (.val (ownL p))),(22,some (.val (j09 t))),(23,some (.val (I k)))]) n ?_ ?_ 0 _ (by omega) ⟨[],⟨rfl,by simp⟩,rfl⟩
           · rintro k e hk ⟨t,⟨w1,w2⟩,rfl⟩
             simp [hk]
             refine j0a (fun j e=>∃ q:List Int,(q.length=j∧∀ v∈q,0≤v∧v<n)∧e=fr [(0,some (.val (src c s5))),(1,some (.val (I most))),(5,some (.val (I n))),(18,some (.val (I u))),(19,some (.val (j09 A))),(20,some (.val (j09 D))),(21,some (.val (ownL p))),(22,some (.val (j09 t))),(23,some (.val (I k))),(24,some (.val (ownL q))),(25,some (.val (I j)))]) n ?_ ?_ 0 _ (by omega) ⟨[],⟨rfl,by simp⟩,rfl⟩
             · rintro j e hj ⟨q,⟨x1,x2⟩,rfl⟩
               by_cases hku:k<u
               · by_cases hju:j<u
                 · have hgu':=hgu hu0
                   subst hgu'
                   obtain ⟨y1,y2,y3,y4,y5⟩:=hA.at hku hju
                   simp [hj,hku,hju]
                   have hgr:(rows A)[k]?=some (ownL A[k]):=by rw [rows_get,List.getElem?_eq_getElem y1];rfl
                   simp [y1,hgr,y2]
                   exact ⟨by unfold roomy;omega,by omega,q++[(A[k])[j]],⟨by simp [x1],snoc_in x2 (by omega)⟩,by simp only [ownL,List.map_append,List.map_cons,List.map_nil]⟩
                 · have hju':u≤j:=by omega
                   have hku':¬u≤k:=by omega
                   simp [hj,hku,hju,hku',j01]
                   exact ⟨by unfold roomy;omega,by omega,q++[(j:Int)],⟨by simp [x1],snoc_in x2 (by omega)⟩,by simp only [ownL,List.map_append,List.map_cons,List.map_nil]⟩
               · have hku':u≤k:=by omega
                 by_cases hju:j<u
                 · have hju':¬u≤j:=by omega
                   simp [hj,hku,hku',hju',j01]
                   exact ⟨by unfold roomy;omega,by omega,q++[(j:Int)],⟨by simp [x1],snoc_in x2 (by omega)⟩,by simp only [ownL,List.map_append,List.map_cons,List.map_nil]⟩
                 · have hju':u≤j:=by omega
                   simp [hj,hku,hku',hju',j01]
                   obtain ⟨ku,eku⟩:∃ ku:Nat,(k:Int)-u=ku:=⟨k-u,by omega⟩
                   obtain ⟨ju,eju⟩:∃ ju:Nat,(j:Int)-u=ju:=⟨j-u,by omega⟩
                   obtain ⟨y1,y2,y3,y4,y5⟩:=hD.at (i:=ku) (j:=ju) (by omega) (by omega)
                   have hgr:(rows D)[ku]?=some (ownL D[ku]):=by rw [rows_get,List.getElem?_eq_getElem y1];rfl
                   obtain ⟨z,ez⟩:∃ z:Nat,(D[ku])[ju]=z:=⟨((D[ku])[ju]).toNat,by omega⟩
                   have hpl:=v4.1
                   have hz:z<p.length:=by omega
                   have hpz:=v4.2 _ (List.getElem_mem hz)
                   have kk:k-u=ku:=by omega
                   have jj:j-u=ju:=by omega
                   simp [eku,eju,kk,jj,y1,hgr,y2,ez,hz]
                   exact ⟨by omega,by omega,by omega,by unfold roomy;omega,by omega,q++[(u:Int)+p[z]],⟨by simp [x1],snoc_in x2 (by omega)⟩,by simp only [ownL,List.map_append,List.map_cons,List.map_nil]⟩
             · rintro e ⟨q,⟨x1,x2⟩,rfl⟩
               simp
               exact ⟨by unfold roomy;omega,by omega,t++[q],TabN.snoc ⟨w1,w2⟩ ⟨x1,x2⟩,by simp only [j09,rows,List.map_append,List.map_cons,List.map_nil]⟩
           · rintro e ⟨t,w,rfl⟩
             simp
             exact hfin s5 n t v3 hn0 hnm w
     · by_cases hk3:kd=3
       · by_cases hm6:6≤most
         · have hm6':(6:Int)≤most:=by omega
           obtain ⟨sK,z,⟨k5,k6⟩,hcz⟩:=h336.at k3 (n:=2) (by omega)
           simp [hk3,hm6']
           refine j0e h457 rfl rfl (fun _=>by simp) ?_
           simp
           refine callS (ts':=[rawB c,I sK.1,H64 sK.2]) (r:=I z) (by simpa using hcz) ?_
           by_cases hz:z=0
           · have hL:=cnj_exch
             simp [hz]
             refine j0a (fun i e=>∃ t:List (List Int),(t.length=i∧∀ r∈t,RowIn exch3.length r)∧e=fr [(0,some (.val (src c sK))),(1,some (.val (I most))),(11,some (.val (j09 exch3))),(12,some (.val (j09 t))),(13,some (.val (I i)))]) exch3.length ?_ ?_ 0 _ (by omega) ⟨[],⟨rfl,by simp⟩,rfl⟩
             · rintro i e hi ⟨t,⟨w1,w2⟩,rfl⟩
               simp [hi]
               refine j0a (fun j e=>∃ q:List Int,(q.length=j∧∀ v∈q,0≤v∧v<exch3.length)∧e=fr [(0,some (.val (src c sK))),(1,some (.val (I most))),(11,some (.val (j09 exch3))),(12,some (.val (j09 t))),(13,some (.val (I i))),(14,some (.val (ownL q))),(15,some (.val (I j)))]) exch3.length ?_ ?_ 0 _ (by omega) ⟨[],⟨rfl,by simp⟩,rfl⟩
               · rintro j e hj ⟨q,⟨x1,x2⟩,rfl⟩
                 obtain ⟨m,hm,em⟩:=hL.cl i j hi hj
                 obtain ⟨pi,li⟩:=hL.pm _ (List.getElem_mem hi)
                 obtain ⟨pj,lj⟩:=hL.pm _ (List.getElem_mem hj)
                 have gi:(rows exch3)[i]?=some (ownL exch3[i]):=by rw [rows_get,List.getElem?_eq_getElem hi];rfl
                 have gj:(rows exch3)[j]?=some (ownL exch3[j]):=by rw [rows_get,List.getElem?_eq_getElem hj];rfl
                 have h1:=h304 exch3[i] pi
                 have h2:=h279 (invL exch3[i]) exch3[j] (by simp;omega) (by
                  have:=(invL_ok pi).1.2
                  intro x hx
                  have:=this x hx
                  omega)
                 have h3:=h279 (thenL (invL exch3[i]) exch3[j]) exch3[i] (by simp;omega) (by
                  intro x hx
                  rw [thenL,List.mem_map] at hx
                  obtain ⟨y,hy,rfl⟩:=hx
                  have hy2:=(invL_ok pi).1.2 y hy
                  have hyl:y.toNat<(exch3[j]).length:=by omega
                  rw [List.getD_eq_getElem?_getD,List.getElem?_eq_getElem hyl,Option.getD_some]
                  have:=pj.1.1 _ (List.getElem_mem hyl)
                  omega)
                 rw [← em] at h3
                 simp [hi,hj,gi,gj]
                 refine j0e h1 rfl rfl (fun _=>by simp) ?_
                 simp [hj,gj]
                 refine j0e h2 rfl rfl (fun _=>by simp) ?_
                 simp [hi,gi]
                 refine j0e h3 rfl rfl (fun _=>by simp) ?_
                 simp
                 refine j0m (α:=Nat) (fun k=>exch3.length-k) (fun k e=>k≤m∧e=fr [(0,some (.val (src c sK))),(1,some (.val (I most))),(11,some (.val (j09 exch3))),(12,some (.val (j09 t))),(13,some (.val (I i))),(14,some (.val (ownL q))),(15,some (.val (I j))),(16,some (.val (ownL exch3[m]))),(17,some (.val (I k)))]) ?_ 0 _ ⟨by omega,rfl⟩
                 rintro k e ⟨hkm,rfl⟩
                 have hkl:k<exch3.length:=by omega
                 have gk:(rows exch3)[k]?=some (ownL exch3[k]):=by rw [rows_get,List.getElem?_eq_getElem hkl];rfl
                 have lk:=(hL.pm _ (List.getElem_mem hkl)).2
                 have h4:=h67 exch3[k] exch3[m] (by omega)
                 have hsix:=hL.six
                 simp [hkl,gk]
                 refine j0e h4 rfl rfl (fun _=>rfl) ?_
                 by_cases he:exch3[k]=exch3[m]
                 · simp [he]
                   exact ⟨by unfold roomy;omega,by omega,q++[(k:Int)],⟨by simp [x1],snoc_in x2 (by omega)⟩,by simp only [ownL,List.map_append,List.map_cons,List.map_nil]⟩
                 · have hne:k≠m:=fun h=>he (by subst h;rfl)
                   simp [he]
                   exact ⟨by omega,k+1,by omega,by omega,rfl⟩
               · rintro e ⟨q,⟨x1,x2⟩,rfl⟩
                 simp
                 have hsix:=hL.six
                 exact ⟨by unfold roomy;omega,by omega,t++[q],TabN.snoc ⟨w1,w2⟩ ⟨x1,x2⟩,by simp only [j09,rows,List.map_append,List.map_cons,List.map_nil]⟩
             · rintro e ⟨t,w,rfl⟩
               simp
               exact hfin sK exch3.length t k5 hL.pos (by have:=hL.six;omega) w
           · have hL:=cnj_perm
             simp [hz]
             refine j0a (fun i e=>∃ t:List (List Int),(t.length=i∧∀ r∈t,RowIn perm3.length r)∧e=fr [(0,some (.val (src c sK))),(1,some (.val (I most))),(11,some (.val (j09 perm3))),(12,some (.val (j09 t))),(13,some (.val (I i)))]) perm3.length ?_ ?_ 0 _ (by omega) ⟨[],⟨rfl,by simp⟩,rfl⟩
             · rintro i e hi ⟨t,⟨w1,w2⟩,rfl⟩
               simp [hi]
               refine j0a (fun j e=>∃ q:List Int,(q.length=j∧∀ v∈q,0≤v∧v<perm3.length)∧e=fr [(0,some (.val (src c sK))),(1,some (.val (I most))),(11,some (.val (j09 perm3))),(12,some (.val (j09 t))),(13,some (.val (I i))),(14,some (.val (ownL q))),(15,some (.val (I j)))]) perm3.length ?_ ?_ 0 _ (by omega) ⟨[],⟨rfl,by simp⟩,rfl⟩
               · rintro j e hj ⟨q,⟨x1,x2⟩,rfl⟩
                 obtain ⟨m,hm,em⟩:=hL.cl i j hi hj
                 obtain ⟨pi,li⟩:=hL.pm _ (List.getElem_mem hi)
                 obtain ⟨pj,lj⟩:=hL.pm _ (List.getElem_mem hj)
                 have gi:(rows perm3)[i]?=some (ownL perm3[i]):=by rw [rows_get,List.getElem?_eq_getElem hi];rfl
                 have gj:(rows perm3)[j]?=some (ownL perm3[j]):=by rw [rows_get,List.getElem?_eq_getElem hj];rfl
                 have h1:=h304 perm3[i] pi
                 have h2:=h279 (invL perm3[i]) perm3[j] (by simp;omega) (by
                  have:=(invL_ok pi).1.2
                  intro x hx
                  have:=this x hx
                  omega)
                 have h3:=h279 (thenL (invL perm3[i]) perm3[j]) perm3[i] (by simp;omega) (by
                  intro x hx
                  rw [thenL,List.mem_map] at hx
                  obtain ⟨y,hy,rfl⟩:=hx
                  have hy2:=(invL_ok pi).1.2 y hy
                  have hyl:y.toNat<(perm3[j]).length:=by omega
                  rw [List.getD_eq_getElem?_getD,List.getElem?_eq_getElem hyl,Option.getD_some]
                  have:=pj.1.1 _ (List.getElem_mem hyl)
                  omega)
                 rw [← em] at h3
                 simp [hi,hj,gi,gj]
                 refine j0e h1 rfl rfl (fun _=>by simp) ?_
                 simp [hj,gj]
                 refine j0e h2 rfl rfl (fun _=>by simp) ?_
                 simp [hi,gi]
                 refine j0e h3 rfl rfl (fun _=>by simp) ?_
                 simp
                 refine j0m (α:=Nat) (fun k=>perm3.length-k) (fun k e=>k≤m∧e=fr [(0,some (.val (src c sK))),(1,some (.val (I most))),(11,some (.val (j09 perm3))),(12,some (.val (j09 t))),(13,some (.val (I i))),(14,some (.val (ownL q))),(15,some (.val (I j))),(16,some (.val (ownL perm3[m]))),(17,some (.val (I k)))]) ?_ 0 _ ⟨by omega,rfl⟩
                 rintro k e ⟨hkm,rfl⟩
                 have hkl:k<perm3.length:=by omega
                 have gk:(rows perm3)[k]?=some (ownL perm3[k]):=by rw [rows_get,List.getElem?_eq_getElem hkl];rfl
                 have lk:=(hL.pm _ (List.getElem_mem hkl)).2
                 have h4:=h67 perm3[k] perm3[m] (by omega)
                 have hsix:=hL.six
                 simp [hkl,gk]
                 refine j0e h4 rfl rfl (fun _=>rfl) ?_
                 by_cases he:perm3[k]=perm3[m]
                 · simp [he]
                   exact ⟨by unfold roomy;omega,by omega,q++[(k:Int)],⟨by simp [x1],snoc_in x2 (by omega)⟩,by simp only [ownL,List.map_append,List.map_cons,List.map_nil]⟩
                 · have hne:k≠m:=fun h=>he (by subst h;rfl)
                   simp [he]
                   exact ⟨by omega,k+1,by omega,by omega,rfl⟩
               · rintro e ⟨q,⟨x1,x2⟩,rfl⟩
                 simp
                 have hsix:=hL.six
                 exact ⟨by unfold roomy;omega,by omega,t++[q],TabN.snoc ⟨w1,w2⟩ ⟨x1,x2⟩,by simp only [j09,rows,List.map_append,List.map_cons,List.map_nil]⟩
             · rintro e ⟨t,w,rfl⟩
               simp
               exact hfin sK perm3.length t k5 hL.pos (by have:=hL.six;omega) w
         · have hm6':¬(6:Int)≤most:=by omega
           simp [hk3,hm6']
           obtain ⟨s4,u,⟨v1,v2⟩,hcu⟩:=h336.at k3 (n:=n) hn0
           obtain ⟨g,hg,hg0,hgn,hgu⟩:∃ g:Nat,mmI true 1 (u:Int)=g∧0<g∧g≤12∧(u≠0→g=u):=by
            by_cases hu:u=0
            · exact ⟨1,by simp [mmI,hu],by omega,by omega,fun h=>(h hu).elim⟩
            · exact ⟨u,by simp [mmI];omega,by omega,by omega,fun _=>rfl⟩
           obtain ⟨g1,hg1⟩:∃ g1:Nat,(g:Int)-1=g1:=⟨g-1,by omega⟩
           obtain ⟨g2,hg2,hg2'⟩:=tmodX (a:=2) hg0
           have hg2:(2:Int).tmod g=g2:=hg2
           obtain ⟨d,hd⟩:∃ d:Nat,(n:Int)-u=d:=⟨n-u,by omega⟩
           have hd0:0<d:=by omega
           obtain ⟨d1,hd1,hd1'⟩:=tmodX (a:=1) hd0
           have hd1:(1:Int).tmod d=d1:=hd1
           obtain ⟨A,hA,hcA⟩:=h455 g g1 g2 (by omega) (by omega) (by omega)
           obtain ⟨D,hD,hcD⟩:=h455 d d1 0 (by omega) (by omega) (by omega)
           obtain ⟨s5,p,⟨v3,v4,v5⟩,hcp⟩:=h338 c s4 d v1 (by omega)
           have hgz:¬g=0:=by omega
           have hdz:¬d=0:=by omega
           refine callS (ts':=[rawB c,I s4.1,H64 s4.2]) (r:=I u) (by simpa using hcu) ?_
           simp [hg,hgz,hg1,hg2,-tmod_nat]
           refine ⟨by omega,?_⟩
           refine j0e hcA rfl rfl (fun _=>by simp) ?_
           simp [hd,hdz,hd1,-tmod_nat]
           refine ⟨by omega,?_⟩
           refine j0e hcD rfl rfl (fun _=>by simp) ?_
           by_cases hu0:u=0
           · simp [hu0]
             have hdn:d=n:=by omega
             subst hdn
             exact hfin s4 d D v1 hn0 hnm hD
           · simp [hu0,hd]
             refine ⟨by omega,?_⟩
             refine callS (ts':=[rawB c,I s5.1,H64 s5.2]) (r:=ownL p) (by simpa using hcp) ?_
             simp
             refine j0a (fun k e=>∃ t:List (List Int),(t.length=k∧∀ r∈t,RowIn n r)∧e=fr [(0,some (.val (src c s5))),(1,some (.val (I most))),(5,some (.val (I n))),(18,some (.val (I u))),(19,some (.val (j09 A))),(20,some (.val (j09 D))),(21,some (.val (ownL p))),(22,some (.val (j09 t))),(23,some (.val (I k)))]) n ?_ ?_ 0 _ (by omega) ⟨[],⟨rfl,by simp⟩,rfl⟩
             · rintro k e hk ⟨t,⟨w1,w2⟩,rfl⟩
               simp [hk]
               refine j0a (fun j e=>∃ q:List Int,(q.length=j∧∀ v∈q,0≤v∧v<n)∧e=fr [(0,some (.val (src c s5))),(1,some (.val (I most))),(5,some (.val (I n))),(18,some (.val (I u))),(19,some (.val (j09 A))),(20,some (.val (j09 D))),(21,some (.val (ownL p))),(22,some (.val (j09 t))),(23,some (.val (I k))),(24,some (.val (ownL q))),(25,some (.val (I j)))]) n ?_ ?_ 0 _ (by omega) ⟨[],⟨rfl,by simp⟩,rfl⟩
               · rintro j e hj ⟨q,⟨x1,x2⟩,rfl⟩
                 by_cases hku:k<u
                 · by_cases hju:j<u
                   · have hgu':=hgu hu0
                     subst hgu'
                     obtain ⟨y1,y2,y3,y4,y5⟩:=hA.at hku hju
                     simp [hj,hku,hju]
                     have hgr:(rows A)[k]?=some (ownL A[k]):=by rw [rows_get,List.getElem?_eq_getElem y1];rfl
                     simp [y1,hgr,y2]
                     exact ⟨by unfold roomy;omega,by omega,q++[(A[k])[j]],⟨by simp [x1],snoc_in x2 (by omega)⟩,by simp only [ownL,List.map_append,List.map_cons,List.map_nil]⟩
                   · have hju':u≤j:=by omega
                     have hku':¬u≤k:=by omega
                     simp [hj,hku,hju,hku',j01]
                     exact ⟨by unfold roomy;omega,by omega,q++[(j:Int)],⟨by simp [x1],snoc_in x2 (by omega)⟩,by simp only [ownL,List.map_append,List.map_cons,List.map_nil]⟩
                 · have hku':u≤k:=by omega
                   by_cases hju:j<u
                   · have hju':¬u≤j:=by omega
                     simp [hj,hku,hku',hju',j01]
                     exact ⟨by unfold roomy;omega,by omega,q++[(j:Int)],⟨by simp [x1],snoc_in x2 (by omega)⟩,by simp only [ownL,List.map_append,List.map_cons,List.map_nil]⟩
                   · have hju':u≤j:=by omega
                     simp [hj,hku,hku',hju',j01]
                     obtain ⟨ku,eku⟩:∃ ku:Nat,(k:Int)-u=ku:=⟨k-u,by omega⟩
                     obtain ⟨ju,eju⟩:∃ ju:Nat,(j:Int)-u=ju:=⟨j-u,by omega⟩
                     obtain ⟨y1,y2,y3,y4,y5⟩:=hD.at (i:=ku) (j:=ju) (by omega) (by omega)
                     have hgr:(rows D)[ku]?=some (ownL D[ku]):=by rw [rows_get,List.getElem?_eq_getElem y1];rfl
                     obtain ⟨z,ez⟩:∃ z:Nat,(D[ku])[ju]=z:=⟨((D[ku])[ju]).toNat,by omega⟩
                     have hpl:=v4.1
                     have hz:z<p.length:=by omega
                     have hpz:=v4.2 _ (List.getElem_mem hz)
                     have kk:k-u=ku:=by omega
                     have jj:j-u=ju:=by omega
                     simp [eku,eju,kk,jj,y1,hgr,y2,ez,hz]
                     exact ⟨by omega,by omega,by omega,by unfold roomy;omega,by omega,q++[(u:Int)+p[z]],⟨by simp [x1],snoc_in x2 (by omega)⟩,by simp only [ownL,List.map_append,List.map_cons,List.map_nil]⟩
               · rintro e ⟨q,⟨x1,x2⟩,rfl⟩
                 simp
                 exact ⟨by unfold roomy;omega,by omega,t++[q],TabN.snoc ⟨w1,w2⟩ ⟨x1,x2⟩,by simp only [j09,rows,List.map_append,List.map_cons,List.map_nil]⟩
             · rintro e ⟨t,w,rfl⟩
               simp
               exact hfin s5 n t v3 hn0 hnm w
       · have e1:¬(kd:Int)=1:=by omega
         have e2:¬(kd:Int)=2:=by omega
         have e3:¬(kd:Int)=3:=by omega
         simp [hk0,e1,e2,e3]
         obtain ⟨s4,u,⟨v1,v2⟩,hcu⟩:=h336.at k3 (n:=n) hn0
         obtain ⟨g,hg,hg0,hgn,hgu⟩:∃ g:Nat,mmI true 1 (u:Int)=g∧0<g∧g≤12∧(u≠0→g=u):=by
          by_cases hu:u=0
          · exact ⟨1,by simp [mmI,hu],by omega,by omega,fun h=>(h hu).elim⟩
          · exact ⟨u,by simp [mmI];omega,by omega,by omega,fun _=>rfl⟩
         obtain ⟨g1,hg1⟩:∃ g1:Nat,(g:Int)-1=g1:=⟨g-1,by omega⟩
         obtain ⟨g2,hg2,hg2'⟩:=tmodX (a:=2) hg0
         have hg2:(2:Int).tmod g=g2:=hg2
         obtain ⟨d,hd⟩:∃ d:Nat,(n:Int)-u=d:=⟨n-u,by omega⟩
         have hd0:0<d:=by omega
         obtain ⟨d1,hd1,hd1'⟩:=tmodX (a:=1) hd0
         have hd1:(1:Int).tmod d=d1:=hd1
         obtain ⟨A,hA,hcA⟩:=h455 g g1 g2 (by omega) (by omega) (by omega)
         obtain ⟨D,hD,hcD⟩:=h455 d d1 0 (by omega) (by omega) (by omega)
         obtain ⟨s5,p,⟨v3,v4,v5⟩,hcp⟩:=h338 c s4 d v1 (by omega)
         have hgz:¬g=0:=by omega
         have hdz:¬d=0:=by omega
         refine callS (ts':=[rawB c,I s4.1,H64 s4.2]) (r:=I u) (by simpa using hcu) ?_
         simp [hg,hgz,hg1,hg2,-tmod_nat]
         refine ⟨by omega,?_⟩
         refine j0e hcA rfl rfl (fun _=>by simp) ?_
         simp [hd,hdz,hd1,-tmod_nat]
         refine ⟨by omega,?_⟩
         refine j0e hcD rfl rfl (fun _=>by simp) ?_
         by_cases hu0:u=0
         · simp [hu0]
           have hdn:d=n:=by omega
           subst hdn
           exact hfin s4 d D v1 hn0 hnm hD
         · simp [hu0,hd]
           refine ⟨by omega,?_⟩
           refine callS (ts':=[rawB c,I s5.1,H64 s5.2]) (r:=ownL p) (by simpa using hcp) ?_
           simp
           refine j0a (fun k e=>∃ t:List (List Int),(t.length=k∧∀ r∈t,RowIn n r)∧e=fr [(0,some (.val (src c s5))),(1,some (.val (I most))),(5,some (.val (I n))),(18,some (.val (I u))),(19,some (.val (j09 A))),(20,some (.val (j09 D))),(21,some (.val (ownL p))),(22,some (.val (j09 t))),(23,some (.val (I k)))]) n ?_ ?_ 0 _ (by omega) ⟨[],⟨rfl,by simp⟩,rfl⟩
           · rintro k e hk ⟨t,⟨w1,w2⟩,rfl⟩
             simp [hk]
             refine j0a (fun j e=>∃ q:List Int,(q.length=j∧∀ v∈q,0≤v∧v<n)∧e=fr [(0,some (.val (src c s5))),(1,some (.val (I most))),(5,some (.val (I n))),(18,some (.val (I u))),(19,some (.val (j09 A))),(20,some (.val (j09 D))),(21,some (.val (ownL p))),(22,some (.val (j09 t))),(23,some (.val (I k))),(24,some (.val (ownL q))),(25,some (.val (I j)))]) n ?_ ?_ 0 _ (by omega) ⟨[],⟨rfl,by simp⟩,rfl⟩
             · rintro j e hj ⟨q,⟨x1,x2⟩,rfl⟩
               by_cases hku:k<u
               · by_cases hju:j<u
                 · have hgu':=hgu hu0
                   subst hgu'
                   obtain ⟨y1,y2,y3,y4,y5⟩:=hA.at hku hju
                   simp [hj,hku,hju]
                   have hgr:(rows A)[k]?=some (ownL A[k]):=by rw [rows_get,List.getElem?_eq_getElem y1];rfl
                   simp [y1,hgr,y2]
                   exact ⟨by unfold roomy;omega,by omega,q++[(A[k])[j]],⟨by simp [x1],snoc_in x2 (by omega)⟩,by simp only [ownL,List.map_append,List.map_cons,List.map_nil]⟩
                 · have hju':u≤j:=by omega
                   have hku':¬u≤k:=by omega
                   simp [hj,hku,hju,hku',j01]
                   exact ⟨by unfold roomy;omega,by omega,q++[(j:Int)],⟨by simp [x1],snoc_in x2 (by omega)⟩,by simp only [ownL,List.map_append,List.map_cons,List.map_nil]⟩
               · have hku':u≤k:=by omega
                 by_cases hju:j<u
                 · have hju':¬u≤j:=by omega
                   simp [hj,hku,hku',hju',j01]
                   exact ⟨by unfold roomy;omega,by omega,q++[(j:Int)],⟨by simp [x1],snoc_in x2 (by omega)⟩,by simp only [ownL,List.map_append,List.map_cons,List.map_nil]⟩
                 · have hju':u≤j:=by omega
                   simp [hj,hku,hku',hju',j01]
                   obtain ⟨ku,eku⟩:∃ ku:Nat,(k:Int)-u=ku:=⟨k-u,by omega⟩
                   obtain ⟨ju,eju⟩:∃ ju:Nat,(j:Int)-u=ju:=⟨j-u,by omega⟩
                   obtain ⟨y1,y2,y3,y4,y5⟩:=hD.at (i:=ku) (j:=ju) (by omega) (by omega)
                   have hgr:(rows D)[ku]?=some (ownL D[ku]):=by rw [rows_get,List.getElem?_eq_getElem y1];rfl
                   obtain ⟨z,ez⟩:∃ z:Nat,(D[ku])[ju]=z:=⟨((D[ku])[ju]).toNat,by omega⟩
                   have hpl:=v4.1
                   have hz:z<p.length:=by omega
                   have hpz:=v4.2 _ (List.getElem_mem hz)
                   have kk:k-u=ku:=by omega
                   have jj:j-u=ju:=by omega
                   simp [eku,eju,kk,jj,y1,hgr,y2,ez,hz]
                   exact ⟨by omega,by omega,by omega,by unfold roomy;omega,by omega,q++[(u:Int)+p[z]],⟨by simp [x1],snoc_in x2 (by omega)⟩,by simp only [ownL,List.map_append,List.map_cons,List.map_nil]⟩
             · rintro e ⟨q,⟨x1,x2⟩,rfl⟩
               simp
               exact ⟨by unfold roomy;omega,by omega,t++[q],TabN.snoc ⟨w1,w2⟩ ⟨x1,x2⟩,by simp only [j09,rows,List.map_append,List.map_cons,List.map_nil]⟩
           · rintro e ⟨t,w,rfl⟩
             simp
             exact hfin s5 n t v3 hn0 hnm w
end Go.Mch
namespace Go.Mch
def S_d3 (pg:Pg):Prop:=∀ (c:Rw Int) (s:Int×Int) (most:Nat),Sr c s→0<most→most≤12→∃ (s':Int×Int) (n:Nat) (t:List (List Int)),(Sr c s'∧0<n∧n≤most∧TabN n t)∧Call pg 401 [src c s,I most] [src c s',I most] (ownC t)
set_option maxRecDepth 10000 in
theorem t_d3 {pg:Pg} (hp:pg.fn 401=some c_spec_l03Draw) (h336:S_nxt pg) (h444:S_dtb pg) (h338:S_dpm pg) (h303:S_image pg 303):S_d3 pg:=by
 intro c s most hs m0 m12
 have hfind:=Call.findA (α:=(Int×Int)×Nat×List (List Int)) (Q:=fun Y=>Sr c Y.1∧0<Y.2.1∧Y.2.1≤most∧TabN Y.2.1 Y.2.2) (args:=[src c s,I most]) (args':=fun Y=>[src c Y.1,I most]) (r:=fun Y=>ownC Y.2.2) hp rfl (by simp [F.lets,c_spec_l03Draw,List.range,List.range.loop]) (by simp [kindOf]) ?_
 · obtain ⟨Y,h1,h2⟩:=hfind
   exact ⟨_,_,_,h1,h2⟩
 show wp _ _ c_spec_l03Draw.body (postX _ _ _ _ _) _
 generalize hR:postX (fun Y:(Int×Int)×Nat×List (List Int)=>Sr c Y.1∧0<Y.2.1∧Y.2.1≤most∧TabN Y.2.1 Y.2.2) c_spec_l03Draw.rs [src c s,I most] (fun Y=>[src c Y.1,I most]) (fun Y=>ownC Y.2.2)=R
 have hfin:∀ (s':Int×Int) (k:Nat) (t:List (List Int)),Sr c s'→0<k→k≤most→TabN k t→R .ret (fr [(0,some (.val (src c s'))),(1,some (.val (I most))),(4,some (.val (.mem .own none [j09 t])))]):=by
  intro s' k X a1 a2 a3 a4
  subst hR
  exact ⟨(s',k,X),⟨a1,a2,a3,a4⟩,by simp [post,c_spec_l03Draw]⟩
 obtain ⟨s1,n,t,⟨k1,k2,k3,k4⟩,hc1⟩:=h444 c s most hs m0 m12
 obtain ⟨s2,r,⟨k5,_⟩,hc2⟩:=h336.at k1 (n:=2) (by omega)
 obtain ⟨s3,p,⟨k6,k7,k8⟩,hc3⟩:=h338 c s2 n k5 (by omega)
 have hpm:=pm_of k7 k8 k2 (by omega)
 have hl1:=k4.1
 have hc4:=h303 t p k4.tab hpm (by rw [k7.1,hl1])
 subst hl1
 simp [c_spec_l03Draw]
 refine callS (ts':=[rawB c,I s1.1,H64 s1.2]) (r:=j09 t) (by simpa using hc1) ?_
 simp
 refine callS (ts':=[rawB c,I s2.1,H64 s2.2]) (r:=I r) (by simpa using hc2) ?_
 by_cases hr:r=0
 · simp [hr]
   refine callS (ts':=[rawB c,I s3.1,H64 s3.2]) (r:=ownL p) (by simpa using hc3) ?_
   simp
   refine j0e hc4 rfl rfl (fun _=>by simp) ?_
   simp
   exact hfin s3 _ (imT t p) k6 k2 k3 (imT_tabN k4 hpm k7.1)
 · simp [hr]
   exact hfin s2 _ t k5 k2 k3 k4
end Go.Mch
namespace Go.Mch
theorem S_likeI.ix {pg:Pg} (h:S_likeI pg) (X Y:List Int) (hs:X.length≤1048576):Call pg 141 [ix X,ix Y] [ix X,ix Y] (B (decide (X=Y))):=h (.of X) (.of Y) hs
end Go.Mch
namespace Go.Mch
def S_dtu (pg:Pg):Prop:=∀ (c:Rw Int) (s:Int×Int) (n most:Nat),Sr c s→n≤64→most≤12→∃ (s':Int×Int) (w:List Int),(Sr c s'∧w.length≤13∧∀ v∈w,0≤v∧v≤64)∧Call pg 311 [src c s,I n,I most] [src c s',I n,I most] (ownL w)
set_option maxRecDepth 10000 in
theorem t_dtu {pg:Pg} (hp:pg.fn 311=some j1t) (h336:S_nxt pg):S_dtu pg:=by
 intro c s n most hs hn hm
 have hfind:=Call.findA (α:=(Int×Int)×List Int) (Q:=fun Y=>Sr c Y.1∧Y.2.length≤13∧∀ v∈Y.2,0≤v∧v≤64) (args:=[src c s,I n,I most]) (args':=fun Y=>[src c Y.1,I n,I most]) (r:=fun Y=>ownL Y.2) hp rfl (by simp [F.lets,j1t,List.range,List.range.loop]) (by simp [kindOf]) ?_
 · obtain ⟨Y,h1,h2⟩:=hfind
   exact ⟨_,_,h1,h2⟩
 show wp _ _ j1t.body (postX _ _ _ _ _) _
 generalize hR:postX (fun Y:(Int×Int)×List Int=>Sr c Y.1∧Y.2.length≤13∧∀ v∈Y.2,0≤v∧v≤64) j1t.rs [src c s,I n,I most] (fun Y=>[src c Y.1,I n,I most]) (fun Y=>ownL Y.2)=R
 have hfin:∀ (s':Int×Int) (w:List Int),Sr c s'→w.length≤13→(∀ v∈w,0≤v∧v≤64)→R .ret (fr [(0,some (.val (src c s'))),(1,some (.val (I n))),(2,some (.val (I most))),(6,some (.val (ownL w)))]):=by
  intro s' w a1 a2 a3
  subst hR
  exact ⟨(s',w),⟨a1,a2,a3⟩,by simp [post,j1t]⟩
 obtain ⟨s1,k,⟨k1,k2⟩,hc1⟩:=h336.at hs (n:=most+1) (by omega)
 have snoc:∀ {w:List Int} {x:Int},(∀ v∈w,0≤v∧v≤64)→(0≤x∧x≤64)→∀ v∈w++[x],0≤v∧v≤64:=fun h hx v hv=>by
  rcases List.mem_append.1 hv with h1 | h1
  · exact h v h1
  · rw [List.mem_singleton.1 h1];exact hx
 simp [j1t]
 refine ⟨by omega,?_⟩
 refine callS (ts':=[rawB c,I s1.1,H64 s1.2]) (r:=I k) (by simpa using hc1) ?_
 simp
 refine j0m (α:=Nat) (fun m=>m) (fun m e=>m≤k∧∃ (s':Int×Int) (w:List Int),(Sr c s'∧w.length+m=k∧∀ v∈w,0≤v∧v≤64)∧e=fr [(0,some (.val (src c s'))),(1,some (.val (I n))),(2,some (.val (I most))),(7,some (.val (ownL w))),(8,some (.val (I m)))]) ?_ k _ ⟨by omega,s1,[],⟨k1,by simp,by simp⟩,rfl⟩
 rintro m e ⟨hmk,s2,w,⟨g1,g2,g3⟩,rfl⟩
 by_cases hm0:0<m
 · obtain ⟨s3,x,⟨j1,j2,j3,j4⟩,hc2⟩:=h336 c s2 n g1
   have hx:0≤x∧x≤64:=by
    by_cases h1:(1:Int)≤n
    · have:=j3 h1;omega
    · have:=j4 (by omega);omega
   obtain ⟨m,rfl⟩:∃ m',m=m'+1:=⟨m-1,by omega⟩
   have hmp:(0:Int)<(m:Int)+1:=by omega
   simp [hmp]
   refine callS (ts':=[rawB c,I s3.1,H64 s3.2]) (r:=I x) (by simpa using hc2) ?_
   simp
   refine ⟨by unfold roomy;omega,by omega,m,by omega,by omega,s3.1,s3.2,w++[x],⟨j1,by simp;omega,snoc g3 hx⟩,by simp [ownL]⟩
 · obtain ⟨s3,z,⟨j1,j2⟩,hc2⟩:=h336.at g1 (n:=24) (by omega)
   simp [hm0]
   refine callS (ts':=[rawB c,I s3.1,H64 s3.2]) (r:=I z) (by simpa using hc2) ?_
   by_cases hz0:z=0
   · simp [hz0]
     refine ⟨by unfold roomy;omega,?_⟩
     have:=hfin s3 (w++[(n:Int)]) j1 (by simp;omega) (snoc g3 (by omega))
     simpa [ownL] using this
   · by_cases hz1:z=1
     · simp [hz1]
       refine j0m (α:=Nat) (fun l=>13-l) (fun l e=>l≤13∧∃ w:List Int,(w.length=l∧∀ v∈w,0≤v∧v≤64)∧(e=fr [(0,some (.val (src c s3))),(1,some (.val (I n))),(2,some (.val (I most))),(7,some (.val (ownL w)))]∨e=fr [(0,some (.val (src c s3))),(1,some (.val (I n))),(2,some (.val (I most))),(7,some (.val (ownL w))),(32,some (.val (B true)))])) ?_ w.length _ ⟨by omega,w,⟨rfl,g3⟩,.inr rfl⟩
       rintro l e ⟨hl,w,⟨x1,x2⟩,he⟩
       rcases he with rfl | rfl
       all_goals
        by_cases h13:l<13
        · have h13':(w.length:Int)<13:=by omega
          simp [h13']
          exact ⟨by unfold roomy;omega,l+1,by omega,by omega,w++[0],⟨by simp [x1],snoc x2 (by omega)⟩,.inl (by simp [ownL])⟩
        · have h13':¬(w.length:Int)<13:=by omega
          simp [h13']
          exact hfin s3 w j1 (by omega) x2
     · have e1:¬(z:Int)=1:=by omega
       simp [hz0,e1]
       exact hfin s3 w j1 (by omega) g3
end Go.Mch
namespace Go.Mch
def S_s3 (pg:Pg):Prop:=∀ (n:Nat) (t:List (List Int)),0<n→n≤12→TabN n t→∃ X:S2,PMN n X.1 X.2∧Call pg 324 [cyT t] [cyT t] (ownS X)
set_option maxRecDepth 10000 in
theorem t_s3 {pg:Pg} (hp:pg.fn 324=some c_spec_l03Solution) (h280:S_copyT pg 280):S_s3 pg:=by
 intro n t n0 n12 ht
 have hl:=ht.1
 refine Call.find hp rfl (by simp) ?_
 show wp _ _ c_spec_l03Solution.body _ _
 generalize hR:(fun (x:X) (e:Env)=>∃ X:S2,PMN n X.1 X.2∧post c_spec_l03Solution.rs [cyT t] [cyT t] (ownS X) x e)=R
 have hc1:=h280 t ⟨by omega,fun r hr=>by have:=(ht.2 r hr).1;omega⟩
 simp [c_spec_l03Solution]
 refine j0e hc1 rfl rfl (fun _=>by simp) ?_
 simp
 refine j0a (fun k e=>∃ s:List (List Int),(s.length=k∧∀ r∈s,RowIn n r)∧e=fr [(1,some (.val (.mem .own none [tb t]))),(2,some (.val (.mem .own none [nil,nil]))),(3,some (.val (.mem .own none [j09 t,ownN2 s]))),(4,some (.val (I k)))]) n ?_ ?_ 0 _ (by omega) ⟨[],⟨rfl,by simp⟩,rfl⟩
 · rintro k e hk ⟨s,⟨g3,g4⟩,rfl⟩
   simp [hk,hl]
   refine j0a (fun j e=>∃ q:List Int,(q.length=j∧∀ v∈q,0≤v∧v<n)∧e=fr [(1,some (.val (.mem .own none [tb t]))),(2,some (.val (.mem .own none [nil,nil]))),(3,some (.val (.mem .own none [j09 t,ownN2 s]))),(4,some (.val (I k))),(5,some (.val (ownL q))),(6,some (.val (I j)))]) n ?_ ?_ 0 _ (by omega) ⟨[],⟨rfl,by simp⟩,rfl⟩
   · rintro j e hj ⟨q,⟨i3,i4⟩,rfl⟩
     simp [hj,hl]
     exact ⟨by unfold roomy;omega,by omega,q++[(k:Int)],⟨by simp [i3],snoc_in i4 (by omega)⟩,by simp only [ownL,List.map_append,List.map_cons,List.map_nil]⟩
   · rintro e ⟨q,⟨i3,i4⟩,rfl⟩
     by_cases hk0:k=0
     · subst hk0
       obtain rfl:s=[]:=List.length_eq_zero_iff.1 g3
       simp [hl]
       exact ⟨by unfold roomy;omega,[q],⟨rfl,one_row ⟨i3,i4⟩⟩,rfl⟩
     · rw [ownN2_ne g3 (by omega)]
       simp [hl]
       exact ⟨by unfold roomy;omega,by omega,s++[q],TabN.snoc ⟨g3,g4⟩ ⟨i3,i4⟩,by simp only [ownN2_snoc]⟩
 · rintro e ⟨s,⟨g3,g4⟩,rfl⟩
   rw [ownN2_ne g3 n0]
   simp [hl]
   subst hR
   exact ⟨(t,s),⟨ht,⟨g3,g4⟩⟩,by simp [post,c_spec_l03Solution]⟩
end Go.Mch
namespace Go.Mch

theorem perm_of {p:List Int} (h:isPerm p):j05 p:=by
 refine (perm_permuted h.1 h.2.1 fun x hx=>?_).1 h
 refine Classical.byContradiction fun hn=>?_
 have hx2:x ∉ nums p.length:=fun hm=>hn (mem_nums.1 hm)
 have:=len_le_of_sub (x::nums p.length) p (List.nodup_cons.2 ⟨hx2,nums_nodup _⟩) fun y hy=>by
  rcases List.mem_cons.1 hy with rfl | hy
  · exact hx
  · have hr:=mem_nums.1 hy
    have:=h.2.2 y.toNat (by omega)
    rw [show ((y.toNat:Nat):Int)=y by omega] at this
    exact this
 simp [nums] at this
 omega
set_option maxRecDepth 10000 in
theorem t_tw_impl {pg:Pg} (hp:pg.fn 171=some c_impl_TwistedSolution) (h33:S_isRk pg 33) (h66:S_isPermuted pg) (h306:S_image pg 306) (h305:S_eqTb pg 305) (h307:S_inv pg 307) (h308:S_solBy pg) (h309:S_tw1 pg):S_tw pg 171:=by
 intro t p hf hpl
 refine Call.intro hp rfl (by simp) ?_
 show wp _ _ c_impl_TwistedSolution.body (post [.cell 4 (some 2),.t 5] _ _ _) _
 simp [c_impl_TwistedSolution]
 refine j0e (h33 t hf) rfl rfl (fun _=>rfl) ?_
 by_cases h1:isRk t
 · have ht:Tab t:=h1.1.2.2
   have hn0:=h1.1.1
   have hn1:=h1.1.2.1
   simp [j1p h1]
   by_cases hl:p.length=t.length
   · simp [hl]
     refine j0e (h66 p hpl) rfl rfl (fun _=>rfl) ?_
     by_cases h2:j05 p
     · have hpm:Pm p:=⟨h2,by omega,by omega⟩
       simp [h2]
       refine j0e (h306 t p ht hpm hl) rfl rfl (fun _=>by simp) ?_
       simp
       refine j0e (h305 (imT t p) t ⟨by simp [imT];omega,fun r hr=>by rw [tabL_row hr];omega⟩) rfl rfl (fun _=>rfl) ?_
       by_cases h3:imT t p=t
       · have hb:=h308 p.length (twG p) (twH t p) 309 [.mem .old none [ix p],.mem .old none [ix (invL p)],.mem .old none [tb t]] hpl (by simp) (by simp) fun x y hx hy=>h309 t p x y ht hpm hl hx hy
         have hiv:=h307 p hpm
         generalize invL p=V at *
         simp [h3]
         refine j0e hiv rfl rfl (fun _=>by simp) ?_
         simp
         refine j0e hb rfl rfl (fun _=>by simp) ?_
         simp [twR,twC,h1,hl,h2,h3,solT,twF,twS]
       · simp [h3,twR,twC,h1,hl,h2,solT]
     · simp [h2,twR,twC,h1,hl,solT]
   · have hl':¬(p.length:Int)=t.length:=by omega
     simp [hl,hl',twR,twC,h1,solT,j01]
 · simp [twR,twC,h1,solT]
set_option maxRecDepth 10000 in
theorem t_tw_spec {pg:Pg} (hp:pg.fn 170=some c_spec_TwistedSolution) (h28:S_isRk pg 28) (h47:S_perm pg 47) (h303:S_image pg 303) (h302:S_eqTb pg 302) (h304:S_inv pg 304):S_tw pg 170:=by
 intro t p hf hpl
 refine Call.intro hp rfl (by simp) ?_
 show wp _ _ c_spec_TwistedSolution.body (post [.cell 4 (some 2),.t 5] _ _ _) _
 simp [c_spec_TwistedSolution]
 refine j0e (h28 t hf) rfl rfl (fun _=>rfl) ?_
 by_cases h1:isRk t
 · have ht:Tab t:=h1.1.2.2
   have hn0:=h1.1.1
   have hn1:=h1.1.2.1
   simp [j1p h1]
   refine j0e (h47 p hpl) rfl rfl (fun _=>rfl) ?_
   by_cases h2:isPerm p
   · simp [h2]
     by_cases hl:p.length=t.length
     · have hpm:Pm p:=⟨perm_of h2,by omega,by omega⟩
       simp [hl]
       refine j0e (h303 t p ht hpm hl) rfl rfl (fun _=>by simp) ?_
       simp
       refine j0e (h302 (imT t p) t ⟨by simp [imT];omega,fun r hr=>by rw [tabL_row hr];omega⟩) rfl rfl (fun _=>rfl) ?_
       by_cases h3:imT t p=t
       · have hiv:=h304 p hpm
         simp [h3]
         refine j0e hiv rfl rfl (fun _=>by simp) ?_
         simp
         refine j0a (fun i e=>e=fr [(1,some (.val (ix p))),(2,some (.val (.mem .own none [tb t]))),(4,some (.val (.mem .own none [nil,nil]))),(6,some (.val (.mem .own (some 1) ((invL p).map I)))),(7,some (.val (.mem .own none [rowN ((twF p).take i),rowN ((twS t p).take i)]))),(8,some (.val (I i)))]) p.length ?_ ?_ 0 _ (by omega) ?_
         · rintro i e hi rfl
           have hF:(twF p).take (i+1)=(twF p).take i++[rowG (twG p) i p.length]:=tabL_take (twG p) hi
           have hS:(twS t p).take (i+1)=(twS t p).take i++[rowG (twH t p) i p.length]:=tabL_take (twH t p) hi
           have hFl:((twF p).take i).length≤i:=by simp;omega
           have hSl:((twS t p).take i).length≤i:=by simp;omega
           rw [hF,hS,rowN_snoc,rowN_snoc]
           generalize (twF p).take i=X at *
           generalize (twS t p).take i=Y at *
           clear hF hS
           simp [hi]
           refine j0a (fun j e=>e=fr [(1,some (.val (ix p))),(2,some (.val (.mem .own none [tb t]))),(4,some (.val (.mem .own none [nil,nil]))),(6,some (.val (.mem .own (some 1) ((invL p).map I)))),(7,some (.val (.mem .own none [rowN X,rowN Y]))),(8,some (.val (I i))),(9,some (.val (.mem .own (some 1) ((rowG (twG p) i j).map I)))),(10,some (.val (.mem .own (some 1) ((rowG (twH t p) i j).map I)))),(11,some (.val (I j)))]) p.length ?_ ?_ 0 _ (by omega) ?_
           · rintro j e hj rfl
             have hGl:=rowG_length (twG p) i j
             have hHl:=rowG_length (twH t p) i j
             rw [rowG_succ,rowG_succ]
             generalize rowG (twG p) i j=P at *
             generalize rowG (twH t p) i j=Q at *
             have hr:=hpm.inL _ (List.getElem_mem hj)
             have e1:p.getD j 0=p[j]:=by simp [hj]
             unfold twH twG
             rw [e1]
             generalize hb:p[j]=b at *
             have hbt:b.toNat<t.length:=by omega
             have hbt2:b<t.length:=by omega
             have hrow:=ht.row hbt
             have hbr:i<(t[b.toNat]).length:=by omega
             have hv:=get_v2 hbt hbr
             have hv1:=ht.nonneg b.toNat i
             have hv2:=ht.lt (by omega) b.toNat i
             generalize v2 t b.toNat i=v at *
             have hvl:v.toNat<(invL p).length:=by rw [invL_length];omega
             have hvl2:v<(invL p).length:=by rw [invL_length];omega
             have hg:=invL_get hvl
             generalize invQ p v.toNat=w at *
             generalize invL p=V at *
             simp [hj,hb,hr,hbt,hbt2,hbr,hv,hv1,hvl,hvl2,hg,hGl,hHl,roomy]
             omega
           · rintro e rfl
             have hPl:=rowG_length (twG p) i p.length
             have hQl:=rowG_length (twH t p) i p.length
             generalize rowG (twG p) i p.length=P at *
             generalize rowG (twH t p) i p.length=Q at *
             by_cases hX:X=[]
             · by_cases hY:Y=[]
               · subst hX hY
                 simp [rowN,roomy,rows]
                 omega
               · subst hX
                 simp [rowN,hY,roomy,rows]
                 omega
             · by_cases hY:Y=[]
               · subst hY
                 simp [rowN,hX,roomy,rows]
                 omega
               · simp [rowN,hX,hY,roomy]
                 omega
           · simp [rowG]
         · rintro e rfl
           have hF:(twF p).take p.length=twF p:=List.take_of_length_le (by simp [twF])
           have hS:(twS t p).take p.length=twS t p:=List.take_of_length_le (by simp [twS])
           have hFn:twF p≠[]:=tabL_ne hpm.pos
           have hSn:twS t p≠[]:=tabL_ne hpm.pos
           have hpp:=perm_of h2
           rw [hF,hS,rowN_ne hFn,rowN_ne hSn]
           simp [twR,twC,h1,hl,hpp,h3,solT]
         · simp [rowN]
       · simp [h3,twR,twC,h1,hl,perm_of h2,solT]
     · have hl':¬(p.length:Int)=t.length:=by omega
       simp [hl,hl',twR,twC,h1,solT]
   · have hno:p.length=t.length→¬j05 p:=fun hl hpp=>h2 ((perm_permuted (by omega) (by omega) hpp.1).2 hpp)
     have hno2:¬(p.length=t.length∧j05 p):=fun hh=>hno hh.1 hh.2
     have hno3:¬(p.length=t.length∧j05 p∧imT t p=t):=fun hh=>hno hh.1 hh.2.1
     simp [h2,twR,twC,h1,hno2,hno3,solT,j01]
 · simp [twR,twC,h1,solT]
end Go.Mch
namespace Go.Mch
def SqS (X:S2):Prop:=∃ m,0<m∧m≤12∧(X.1.length=m∧∀ r∈X.1,r.length=m)∧(X.2.length=m∧∀ r∈X.2,r.length=m)
theorem PMN.sq {n:Nat} {X:S2} (h:PMN n X.1 X.2) (n0:0<n) (n12:n≤12):SqS X:=⟨n,n0,n12,⟨h.1.1,fun r hr=>(h.1.2 r hr).1⟩,h.2.1,fun r hr=>(h.2.2 r hr).1⟩
theorem SqS.bd {X:S2} (h:SqS X):Bd X.1∧Bd X.2:=by
 obtain ⟨m,h0,h12,⟨a1,a2⟩,b1,b2⟩:=h
 exact ⟨⟨by omega,fun r hr=>by have:=a2 r hr;omega⟩,by omega,fun r hr=>by have:=b2 r hr;omega⟩
def S_d6 (pg:Pg):Prop:=∀ (c:Rw Int) (s:Int×Int) (most:Nat),Sr c s→0<most→most≤12→∃ (s':Int×Int) (X:S2),(Sr c s'∧SqS X)∧Call pg 354 [src c s,I most] [src c s',I most] (ownS X)
set_option maxRecDepth 10000 in
theorem t_d6 {pg:Pg} (hp:pg.fn 354=some c_spec_l06Draw) (h336:S_nxt pg) (h401:S_d3 pg) (h324:S_s3 pg) (h170:S_tw pg 170) (h412:S_dr2 pg):S_d6 pg:=by
 intro c s most hs m0 m12
 have hfind:=Call.findA (α:=(Int×Int)×S2) (Q:=fun Y=>Sr c Y.1∧SqS Y.2) (args:=[src c s,I most]) (args':=fun Y=>[src c Y.1,I most]) (r:=fun Y=>ownS Y.2) hp rfl (by simp [F.lets,c_spec_l06Draw,List.range,List.range.loop]) (by simp [kindOf]) ?_
 · obtain ⟨Y,h1,h2⟩:=hfind
   exact ⟨_,_,h1,h2⟩
 show wp _ _ c_spec_l06Draw.body (postX _ _ _ _ _) _
 generalize hR:postX (fun Y:(Int×Int)×S2=>Sr c Y.1∧SqS Y.2) c_spec_l06Draw.rs [src c s,I most] (fun Y=>[src c Y.1,I most]) (fun Y=>ownS Y.2)=R
 have hfin:∀ (s':Int×Int) (X:S2),Sr c s'→SqS X→R .ret (fr [(0,some (.val (src c s'))),(1,some (.val (I most))),(4,some (.val (.mem .own none [j09 X.1,j09 X.2])))]):=by
  intro s' X a1 a2
  subst hR
  exact ⟨(s',X),⟨a1,a2⟩,by simp [post,c_spec_l06Draw]⟩
 obtain ⟨s1,kd,⟨k1,k2⟩,hc1⟩:=h336.at hs (n:=3) (by omega)
 obtain ⟨s2,n,t,⟨k3,k4,k5,k6⟩,hc2⟩:=h401 c s1 most k1 m0 m12
 simp [c_spec_l06Draw]
 refine callS (ts':=[rawB c,I s1.1,H64 s1.2]) (r:=I kd) (by simpa using hc1) ?_
 by_cases hk0:kd=0
 · obtain ⟨X,hX,hc3⟩:=h324 n t k4 (by omega) k6
   simp [hk0]
   refine callS (ts':=[rawB c,I s2.1,H64 s2.2]) (r:=ownC t) (by simpa using hc2) ?_
   simp
   refine j0e hc3 rfl rfl (fun _=>by simp) ?_
   simp
   exact hfin s2 X k3 (hX.sq k4 (by omega))
 · by_cases hk1:kd=1
   · have ht0:0<t.length:=by rw [k6.1];exact k4
     have hrow:=(k6.2 _ (List.getElem_mem ht0)).1
     have htl:=k6.1
     have hc3:=h170 t t[0] ⟨by omega,fun r hr=>by have:=(k6.2 r hr).1;omega⟩ (by omega)
     simp [hk1]
     refine callS (ts':=[rawB c,I s2.1,H64 s2.2]) (r:=ownC t) (by simpa using hc2) ?_
     simp [ht0]
     by_cases hz:isRk t∧t[0].length=t.length∧j05 t[0]∧imT t t[0]=t
     · have e1:twR t t[0]=some (twF t[0],twS t t[0]):=if_pos hz
       have e2:twC t t[0]=0:=by simp only [twC];rw [if_pos hz.1,if_pos ⟨hz.2.1,hz.2.2.1⟩,if_pos hz.2.2.2]
       rw [e1,e2] at hc3
       simp only [solT] at hc3
       refine j0e hc3 rfl rfl (fun _=>by simp) ?_
       simp [V.scAt]
       refine hfin s2 (twF t[0],twS t t[0]) k3 ⟨t.length,ht0,by omega,⟨by simp [twF];omega,fun r hr=>?_⟩,by simp [twS];omega,fun r hr=>?_⟩
       · rw [tabL_row hr];omega
       · rw [tabL_row hr];omega
     · have e1:twR t t[0]=none:=if_neg hz
       have e2:¬twC t t[0]=0:=by
        intro hh
        simp only [twC] at hh
        split at hh
        · rename_i h1
          split at hh
          · rename_i h2
            split at hh
            · rename_i h3
              exact hz ⟨h1,h2.1,h2.2,h3⟩
            · omega
          · omega
        · omega
       obtain ⟨s3,m,X,⟨j1,j2,j3,j4⟩,hc4⟩:=h412 c s2 most k3 m0 m12
       rw [e1] at hc3
       simp only [solT] at hc3
       refine j0e hc3 rfl rfl (fun _=>by simp) ?_
       simp [V.scAt,e2]
       refine callS (ts':=[rawB c,I s3.1,H64 s3.2]) (r:=ownS X) (by simpa using hc4) ?_
       simp
       exact hfin s3 X j1 (j4.sq j2 (by omega))
   · have e1:¬(kd:Int)=1:=by omega
     obtain ⟨s3,m,X,⟨j1,j2,j3,j4⟩,hc3⟩:=h412 c s1 most k1 m0 m12
     simp [hk0,e1]
     refine callS (ts':=[rawB c,I s3.1,H64 s3.2]) (r:=ownS X) (by simpa using hc3) ?_
     simp
     exact hfin s3 X j1 (j4.sq j2 (by omega))
set_option maxRecDepth 10000 in
theorem t_dDR {pg:Pg} (hp:pg.fn 233=some j1r) (h269:S_from pg) (h336:S_nxt pg) (h354:S_d6 pg):S_drS pg 233:=by
 intro c hc
 obtain ⟨s,hs,hc1⟩:=h269 c hc
 obtain ⟨s1,X,⟨k1,hX⟩,hc2⟩:=h354 c s 6 hs (by omega) (by omega)
 obtain ⟨m,m0,m12,⟨a1,a2⟩,b1,b2⟩:=id hX
 obtain ⟨s2,r,⟨k2,k3⟩,hc3⟩:=h336.at k1 (n:=12) (by omega)
 have h0:0<X.1.length:=by omega
 have hrow:=a2 _ (List.getElem_mem h0)
 have h00:0<X.1[0].length:=by omega
 obtain ⟨s3,v,⟨j1,j2⟩,hc4⟩:=h336.at k2 (n:=X.1.length+1) (by omega)
 have hbd:=hX.bd
 by_cases hr:r=0
 · refine ⟨(X.1.set 0 (X.1[0].set 0 (v:Int)),X.2),⟨hbd.1.set (by simp;omega),hbd.2⟩,Call.intro hp rfl (by simp) ?_⟩
   show wp _ _ j1r.body (post [.cell 2 (some 2)] _ _ _) _
   simp [j1r]
   refine j0e hc1 rfl rfl (fun h=>by simp at h) ?_
   simp
   refine callS (ts':=[rawB c,I s1.1,H64 s1.2]) (r:=ownS X) (by simpa using hc2) ?_
   simp
   refine callS (ts':=[rawB c,I s2.1,H64 s2.2]) (r:=I r) (by simpa using hc3) ?_
   simp [hr,h0]
   refine ⟨by omega,?_⟩
   refine callS (ts':=[rawB c,I s3.1,H64 s3.2]) (r:=I v) (by simpa using hc4) ?_
   simp [h0,h00]
   exact ⟨by omega,by simp only [← rows_set1,ownL,List.map_set]⟩
 · refine ⟨X,hbd,Call.intro hp rfl (by simp) ?_⟩
   show wp _ _ j1r.body (post [.cell 2 (some 2)] _ _ _) _
   simp [j1r]
   refine j0e hc1 rfl rfl (fun h=>by simp at h) ?_
   simp
   refine callS (ts':=[rawB c,I s1.1,H64 s1.2]) (r:=ownS X) (by simpa using hc2) ?_
   simp
   refine callS (ts':=[rawB c,I s2.1,H64 s2.2]) (r:=I r) (by simpa using hc3) ?_
   simp [hr,j01]
def S_drU (pg:Pg) (f:Nat):Prop:=∀ c:Rw Int,okB c→∃ (X:S2) (w:List Int),(Bd X.1∧Bd X.2∧w.length≤13∧∀ v∈w,0≤v∧v≤64)∧Call pg f [rawB c] [rawB c] (.tup [ownS X,ownL w])
set_option maxRecDepth 10000 in
theorem t_dTO {pg:Pg} (hp:pg.fn 175=some c_spec_DrawTupleOrbit) (h269:S_from pg) (h233:S_drS pg 233) (h311:S_dtu pg):S_drU pg 175:=by
 intro c hc
 obtain ⟨s,hs,hc1⟩:=h269 c hc
 obtain ⟨X,⟨k1,k2⟩,hc2⟩:=h233 c hc
 have hl:=k1.1
 obtain ⟨s1,w,⟨k3,k4,k5⟩,hc3⟩:=h311 c s X.1.length 4 hs (by omega) (by omega)
 refine ⟨X,w,⟨k1,k2,k4,k5⟩,Call.intro hp rfl (by simp) ?_⟩
 show wp _ _ c_spec_DrawTupleOrbit.body (post [.cell 2 (some 2),.t 3] _ _ _) _
 simp [c_spec_DrawTupleOrbit]
 refine j0e hc1 rfl rfl (fun h=>by simp at h) ?_
 simp
 refine j0e hc2 rfl rfl (fun _=>by simp) ?_
 simp
 refine callS (ts':=[rawB c,I s1.1,H64 s1.2]) (r:=ownL w) (by simpa using hc3) ?_
 simp
set_option maxRecDepth 10000 in
theorem t_dCT {pg:Pg} (hp:pg.fn 179=some j1c) (h269:S_from pg) (h233:S_drS pg 233) (h292:S_pick pg):S_drK pg 179:=by
 intro c hc
 obtain ⟨s,hs,hc1⟩:=h269 c hc
 obtain ⟨X,⟨k1,k2⟩,hc2⟩:=h233 c hc
 have hl:=k1.1
 obtain ⟨s1,z,⟨k3,k4⟩,hc3⟩:=h292 c s [0,1,2,2,3,3,4,-1,13] hs (by simp) (by simp)
 have hz:-1≤z∧z≤13:=by simp at k4;rcases k4 with rfl | rfl | rfl | rfl | rfl | rfl | rfl | rfl | rfl <;> omega
 have hm:-1≤mmI false z 3∧mmI false z 3≤13:=by
  simp only [mmI]
  split <;> split <;> omega
 by_cases h4:4<X.1.length
 · refine ⟨X,mmI false z 3,⟨k1,k2,by constructor <;> omega⟩,Call.intro hp rfl (by simp) ?_⟩
   show wp _ _ j1c.body (post [.cell 2 (some 2),.t 3] _ _ _) _
   simp [j1c]
   refine j0e hc1 rfl rfl (fun h=>by simp at h) ?_
   simp
   refine j0e hc2 rfl rfl (fun _=>by simp) ?_
   simp
   refine callS (ts':=[rawB c,I s1.1,H64 s1.2]) (r:=I z) (by simpa [ix] using hc3) ?_
   have h4':(4:Int)<X.1.length:=by omega
   simp [h4']
 · refine ⟨X,z,⟨k1,k2,by constructor <;> omega⟩,Call.intro hp rfl (by simp) ?_⟩
   show wp _ _ j1c.body (post [.cell 2 (some 2),.t 3] _ _ _) _
   simp [j1c]
   refine j0e hc1 rfl rfl (fun h=>by simp at h) ?_
   simp
   refine j0e hc2 rfl rfl (fun _=>by simp) ?_
   simp
   refine callS (ts':=[rawB c,I s1.1,H64 s1.2]) (r:=I z) (by simpa [ix] using hc3) ?_
   have h4':¬(4:Int)<X.1.length:=by omega
   simp [h4']
end Go.Mch
namespace Go.Mch
theorem tab_fit {f s:List (List Int)} (h:PM f s):fits f∧fits s:=by
 have h12:=h.small
 have hl:=h.len
 exact ⟨⟨by omega,fun r hr=>by have:=(h.tf r hr).1;omega⟩,⟨by omega,fun r hr=>by have:=(h.ts r hr).1;omega⟩⟩
theorem Bd.fits {t:List (List Int)} (h:Bd t):fits t:=⟨by have:=h.1;omega,fun r hr=>by have:=h.2 r hr;omega⟩
end Go.Mch
namespace Go.Mch

def ra (f s:List (List Int)) (x y:Nat):Nat:=σN (raT f s) x y
theorem ra_v {f s:List (List Int)} (h:PM f s) {x y:Nat} (hx:x<f.length) (hy:y<f.length):v2 (raT f s) x y=raV f s x y∧(ra f s x y:Int)=raV f s x y∧ra f s x y<f.length:=by
 have e:v2 (raT f s) x y=raV f s x y:=v2_tabL hx hy
 have hr:=raV_in h x y
 unfold ra σN
 rw [e]
 exact ⟨rfl,by omega,by omega⟩
theorem ixOf_row {f s:List (List Int)} (h:PM f s) (hn:permRows f) {a b:Nat} (ha:a<f.length) (hb:b<f.length):ixOf (f.getD a []) (σN f a b:Int)=b:=by
 have e:f.getD a []=f[a]:=by simp [ha]
 have hr:=hn _ (List.getElem_mem ha)
 have hl:=h.tf.row ha
 have h1:=(h.v2f a b).1
 rw [e]
 have hm:(σN f a b:Int)∈f[a]:=by
  rw [h1,v2,e,List.getD_eq_getElem?_getD,List.getElem?_eq_getElem (by omega)]
  exact List.getElem_mem _
 obtain ⟨i1,i2⟩:=ixOf_in hm
 have hg:=ixOf_getD f[a] (σN f a b:Int) i1
 have:(ixOf f[a] (σN f a b:Int)).toNat=b:=by
  refine row_inj hr (by omega) (by omega) ?_
  rw [hg,h1,v2,e]
 omega
theorem ra_at {f s:List (List Int)} (h:Rg f s) {a b:Nat} (ha:a<f.length) (hb:b<f.length):ra f s (σN f a b) a=σN f (σN f a b) (τN s b a):=by
 have e:=(ra_v h.1 (h.1.v2f a b).2 ha).2.1
 unfold raV at e
 rw [ixOf_row h.1 h.2.2.1 ha hb,Int.toNat_natCast] at e
 have h2:=h.1.v2s a b
 have h3:=h.1.v2f (σN f a b) (τN s b a)
 rw [← h2.1,Int.toNat_natCast,← h3.1] at e
 omega
theorem ra_lt {f s:List (List Int)} (h:PM f s) (x y:Nat):ra f s x y<f.length:=by
 have ht:=raT_tab h
 have h0:=h.pos
 have:=ht.lt (by simpa using h0) x y
 have:=ht.nonneg x y
 simp only [raT_length] at *
 unfold ra σN
 omega
theorem ra_aut {f s:List (List Int)} (h:Rg f s) {c x y:Nat} (hc:c<f.length) (hx:x<f.length) (hy:y<f.length):σN f c (ra f s x y)=ra f s (σN f c x) (σN f c y):=by
 have nd:=nd_of h
 obtain ⟨b,hb,rfl⟩:=nd.ss y x hy hx
 have tcy:=nd.rt y c hy hc
 have e1:=nd.e1 c y b hc hy hb
 have e2:=nd.e2 c y b hc hy hb
 have hb':=nd.rs (τN s y c) b tcy hb
 have ha':=nd.rs c y hc hy
 rw [ra_at h hy hb,← e1,ra_at h ha' hb',e2]
 have hx':=nd.rs y b hy hb
 have tb:=nd.rt b y hb hy
 have e3:=nd.e1 c (σN f y b) (τN s b y) hc hx' tb
 rw [← e3,e1]


theorem g2_nat {f s:List (List Int)} (h:PM f s) (x y:Int):g2 f x y=(σN f x.toNat y.toNat:Int)∧g2 s x y=(τN s y.toNat x.toNat:Int):=⟨(h.v2f _ _).1.symm,(h.v2s _ _).1.symm⟩
theorem g2_ra {f s:List (List Int)} (h:PM f s) (x y:Int):g2 (raT f s) x y=(ra f s x.toNat y.toNat:Int):=by
 have:=(raT_tab h).nonneg x.toNat y.toNat
 unfold g2 ra σN
 omega
theorem gm_cons (f:List (List Int)) (x:Int) (w:List Int):gmL f (x::w)=x::(gmL f w).map (g2 f x):=by
 unfold gmL
 rw [List.length_cons,List.range_succ_eq_map]
 simp
theorem gm_nil (f:List (List Int)):gmL f []=[]:=rfl
@[simp] theorem gm_length (f:List (List Int)) (w:List Int):(gmL f w).length=w.length:=by simp [gmL]
theorem gm_app (f:List (List Int)) (u w:List Int):gmL f (u++w)=gmL f u++(gmL f w).map fun x=>u.foldr (g2 f) x:=by
 induction u with
 | nil=>simp [gm_nil]
 | cons a u ih=>simp [gm_cons,ih]
theorem gm_in {f s:List (List Int)} (h:PM f s) {w:List Int} (hw:inN f.length w):inN f.length (gmL f w):=by
 induction w with
 | nil=>exact hw
 | cons a w ih =>
  rw [gm_cons]
  intro v hv
  rcases List.mem_cons.1 hv with rfl | hv
  · exact hw _ List.mem_cons_self
  · obtain ⟨x,_,rfl⟩:=List.mem_map.1 hv
    exact h.gF _ _
theorem dW_mid (f s:List (List Int)) (u v:List Int) (a b:Int):dW f s (u++a::b::v) u.length=u++g2 f a b::g2 s a b::v:=by
 simp [dW,List.getD_eq_getElem?_getD]
theorem rW_mid (t:List (List Int)) (u v:List Int) (a b:Int):rW t (u++a::b::v) u.length=u++b::g2 t b a::v:=by
 simp [rW,List.getD_eq_getElem?_getD]
theorem cut_at {w:List Int} {k:Nat} (hk:k+1<w.length):∃ u a b v,w=u++a::b::v∧u.length=k:=by
 refine ⟨w.take k,w[k],w[k+1],w.drop (k+2),?_,by simp;omega⟩
 rw [← List.drop_eq_getElem_cons (i:=k+1),← List.drop_eq_getElem_cons,List.take_append_drop]
theorem fold_aut {f s:List (List Int)} (h:Rg f s):∀ (u:List Int) (x y:Int),inN f.length u→(0≤x∧x<f.length)→(0≤y∧y<f.length) →
 u.foldr (g2 f) (g2 (raT f s) x y)=g2 (raT f s) (u.foldr (g2 f) x) (u.foldr (g2 f) y):=by
 intro u x y hu hx hy
 induction u with
 | nil=>rfl
 | cons a u ih =>
  have hu':inN f.length u:=fun v hv=>hu v (List.mem_cons_of_mem _ hv)
  have ha:=hu a List.mem_cons_self
  have hX:=foldg_in h.1 u hx
  have hY:=foldg_in h.1 u hy
  simp only [List.foldr_cons]
  rw [ih hu']
  generalize u.foldr (g2 f) x=X at *
  generalize u.foldr (g2 f) y=Y at *
  rw [g2_ra h.1,(g2_nat h.1 a _).1,Int.toNat_natCast,ra_aut h (by omega) (by omega) (by omega),(g2_nat h.1 a X).1,(g2_nat h.1 a Y).1,g2_ra h.1,Int.toNat_natCast,Int.toNat_natCast]
theorem gm_move {f s:List (List Int)} (h:Rg f s) {w:List Int} (hw:inN f.length w) {k:Nat} (hk:k+1<w.length):gmL f (dW f s w k)=rW (raT f s) (gmL f w) k:=by
 obtain ⟨u,a,b,v,rfl,rfl⟩:=cut_at hk
 have hu:inN f.length u:=fun v hv=>hw v (by simp [hv])
 have ha:=hw a (by simp)
 have hb:=hw b (by simp)
 have hv:inN f.length v:=fun x hx=>hw x (by simp [hx])
 have nd:=nd_of h
 obtain ⟨A,rfl⟩:∃ A:Nat,a=A:=⟨a.toNat,by omega⟩
 obtain ⟨B,rfl⟩:∃ B:Nat,b=B:=⟨b.toNat,by omega⟩
 have hA:A<f.length:=by omega
 have hB:B<f.length:=by omega
 rw [dW_mid,gm_app,gm_app]
 simp only [gm_cons,List.map_cons]
 have hl:(gmL f u).length=u.length:=by simp
 rw [← hl,rW_mid]
 have e0:=(g2_nat h.1 A B).1
 have e1:=(g2_nat h.1 A B).2
 simp only [Int.toNat_natCast] at e0 e1
 have e2:g2 (raT f s) (u.foldr (g2 f) (g2 f A B)) (u.foldr (g2 f) A)=u.foldr (g2 f) (g2 f (g2 f A B) (g2 s A B)):=by
  rw [← fold_aut h u _ _ hu (h.1.gF _ _) ha,e0,e1,g2_ra h.1,(g2_nat h.1 _ _).1]
  simp only [Int.toNat_natCast]
  rw [ra_at h hA hB]
 rw [e2,e0,e1]
 simp only [List.map_map]
 congr 3
 refine List.map_congr_left fun x hx=>?_
 simp only [Function.comp]
 have hx:=gm_in h.1 hv x hx
 obtain ⟨X,rfl⟩:∃ X:Nat,x=X:=⟨x.toNat,by omega⟩
 have e3:=nd.e1 A B X hA hB (by omega)
 rw [(g2_nat h.1 (τN s B A:Int) X).1,(g2_nat h.1 (σN f A B:Int) _).1,(g2_nat h.1 (B:Int) X).1,(g2_nat h.1 (A:Int) _).1]
 simp only [Int.toNat_natCast]
 rw [e3]
theorem gb_fold {f s:List (List Int)} (h:PM f s) (hn:permRows f):∀ (u:List Int) (x:Int),inN f.length u→(0≤x∧x<f.length)→u.foldl (fun x o=>ixOf (f.getD o.toNat []) x) (u.foldr (g2 f) x)=x:=by
 intro u x hu hx
 induction u with
 | nil=>rfl
 | cons a u ih =>
  have hu':inN f.length u:=fun v hv=>hu v (List.mem_cons_of_mem _ hv)
  have ha:=hu a List.mem_cons_self
  have hX:=foldg_in h u hx
  simp only [List.foldr_cons,List.foldl_cons]
  rw [(g2_nat h a _).1,ixOf_row h hn (by omega) (by omega),Int.toNat_of_nonneg hX.1]
  exact ih hu'
theorem gb_gm {f s:List (List Int)} (h:PM f s) (hn:permRows f) {w:List Int} (hw:inN f.length w):∀ k,k≤w.length→gbL f (gmL f w) k=w.take k:=by
 intro k hk
 induction k with
 | zero=>simp [gbL]
 | succ k ih =>
  have hk':k<w.length:=by omega
  rw [gbL,ih (by omega),List.take_succ_eq_append_getElem hk']
  congr 2
  have e:(gmL f w).getD k 0=(w.take k).foldr (g2 f) w[k]:=by
   rw [List.getD_eq_getElem?_getD,List.getElem?_eq_getElem (by simpa using hk')]
   simp [gmL,hk']
  rw [e]
  exact gb_fold h hn _ _ (fun v hv=>hw v (List.mem_of_mem_take hv)) (hw _ (List.getElem_mem hk'))
theorem row_sur {f s:List (List Int)} (h:Rg f s) {a:Int} (ha:0≤a∧a<f.length):∀ w:List Int,inN f.length w→∃ v,inN f.length v∧v.length=w.length∧v.map (g2 f a)=w:=by
 have nd:=nd_of h
 intro w
 induction w with
 | nil=>intro _;exact ⟨[],by intro x hx;simp at hx,rfl,rfl⟩
 | cons b w ih =>
  intro hw
  obtain ⟨v,v1,v2,v3⟩:=ih fun x hx=>hw x (List.mem_cons_of_mem _ hx)
  have hb:=hw b List.mem_cons_self
  obtain ⟨y,y1,y2⟩:=nd.ss a.toNat b.toNat (by omega) (by omega)
  refine ⟨(y:Int)::v,fun x hx=>?_,by simp [v2],?_⟩
  · rcases List.mem_cons.1 hx with rfl | hx
    · omega
    · exact v1 x hx
  · rw [List.map_cons,v3,(g2_nat h.1 _ _).1,Int.toNat_natCast,y2,Int.toNat_of_nonneg hb.1]
theorem gm_sur {f s:List (List Int)} (h:Rg f s):∀ (n:Nat) (w:List Int),w.length=n→inN f.length w→∃ v,inN f.length v∧v.length=w.length∧gmL f v=w:=by
 intro n
 induction n with
 | zero=>intro w hl _;exact ⟨[],by intro x hx;simp at hx,by simp [hl],by rw [List.length_eq_zero_iff.1 hl];rfl⟩
 | succ n ih =>
  intro w hl hw
  obtain ⟨a,w,rfl⟩:∃ a v,w=a::v:=by cases w with
   | nil=>simp at hl
   | cons a v=>exact ⟨a,v,rfl⟩
  have ha:=hw a List.mem_cons_self
  obtain ⟨u,u1,u2,u3⟩:=row_sur h ha w fun x hx=>hw x (List.mem_cons_of_mem _ hx)
  simp only [List.length_cons] at hl
  obtain ⟨v,v1,v2,v3⟩:=ih u (by omega) u1
  refine ⟨a::v,fun x hx=>?_,by simp [v2,u2],by rw [gm_cons,v3,u3]⟩
  rcases List.mem_cons.1 hx with rfl | hx
  · exact ha
  · exact v1 x hx
theorem gm_inj {f s:List (List Int)} (h:Rg f s) {v w:List Int} (hv:inN f.length v) (hw:inN f.length w) (he:gmL f v=gmL f w):v=w:=by
 have hl:=congrArg List.length he
 simp only [gm_length] at hl
 have h1:=gb_gm h.1 h.2.2.1 hv v.length (Nat.le_refl _)
 have h2:=gb_gm h.1 h.2.2.1 hw w.length (Nat.le_refl _)
 rw [List.take_length] at h1 h2
 rw [← h1,← h2,he,hl]


theorem ra_sd {f s:List (List Int)} (h:Rg f s) {p q r:Nat} (hp:p<f.length) (hq:q<f.length) (hr:r<f.length):ra f s r (ra f s q p)=ra f s (ra f s r q) (ra f s r p):=by
 have hw:inN f.length [(p:Int),q,r]:=w3_in hp hq hr
 obtain ⟨w,w1,w2,w3⟩:=gm_sur h 3 _ rfl hw
 obtain ⟨x,y,z,rfl⟩:∃ x y z,w=[x,y,z]:=by
  match w,w2 with
  | [x,y,z],_=>exact ⟨x,y,z,rfl⟩
 have hx:=w1 x (by simp)
 have hy:=w1 y (by simp)
 have hz:=w1 z (by simp)
 have hyb:=h.2.1 x.toNat y.toNat z.toNat (by omega) (by omega) (by omega)
 unfold ybAt at hyb
 rw [Int.toNat_of_nonneg hx.1,Int.toNat_of_nonneg hy.1,Int.toNat_of_nonneg hz.1] at hyb
 have he:=congrArg (gmL f) hyb
 have i1:=fun i=>dW_in h.1 w1 i
 have i2:=fun i j=>dW_in h.1 (i1 i) j
 rw [gm_move h (i2 0 1) (by simp),gm_move h (i1 0) (by simp),gm_move h w1 (by simp),gm_move h (i2 1 0) (by simp),gm_move h (i1 1) (by simp),gm_move h w1 (by simp),w3] at he
 have e:∀ a b:Int,g2 (raT f s) a b=(ra f s a.toNat b.toNat:Int):=g2_ra h.1
 simp [rW,e] at he
 omega
theorem ra_inj {f s:List (List Int)} (h:Rg f s) (hi:Inj f s) {x y y':Nat} (hx:x<f.length) (hy:y<f.length) (hy':y'<f.length) (he:ra f s x y=ra f s x y'):y=y':=by
 have nd:=nd_of h
 obtain ⟨b,hb,hbx⟩:=nd.ss y x hy hx
 obtain ⟨c,hc,hcx⟩:=nd.ss y' x hy' hx
 have e1:=ra_at h hy hb
 have e2:=ra_at h hy' hc
 rw [hbx] at e1
 rw [hcx] at e2
 rw [e1,e2] at he
 have he:=nd.is x _ _ hx (nd.rt b y hb hy) (nd.rt c y' hc hy') he
 refine (inj_pair hi hy hb hy' hc ?_ ?_).1
 · rw [← (h.1.v2f y b).1,← (h.1.v2f y' c).1,hbx,hcx]
 · rw [← (h.1.v2s y b).1,← (h.1.v2s y' c).1,he]
theorem ra_rck {f s:List (List Int)} (h:Rg f s) (hi:Inj f s):isRk (raT f s):=by
 have h0:=h.1.pos
 have h12:=h.1.small
 refine ⟨⟨by simp;omega,by simp;omega,raT_tab h.1⟩,?_,?_⟩
 · intro r hr
   have:raT f s=tabL f.length fun x y=>(ra f s x y:Int):=tabL_congr fun x y hx hy=>(ra_v h.1 hx hy).2.1.symm
   rw [this] at hr
   simp only [tabL,List.mem_map,List.mem_range] at hr
   obtain ⟨x,hx,rfl⟩:=hr
   exact permuted_row (fun y _=>ra_lt h.1 x y) fun y y' h1 h2 he=>ra_inj h hi hx h1 h2 he
 · intro x y z hx hy hz
   simp only [raT_length] at hx hy hz
   have hv:∀ a b:Nat,v2 (raT f s) a b=(ra f s a b:Int):=fun a b=>by
    have:=(raT_tab h.1).nonneg a b
    unfold ra σN
    omega
   unfold sdAt
   simp only [hv,Int.toNat_natCast]
   rw [ra_sd h hz hy hx]
end Go.Mch
