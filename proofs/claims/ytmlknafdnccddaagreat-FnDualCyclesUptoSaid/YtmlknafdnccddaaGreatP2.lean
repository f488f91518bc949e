/- Our texts YlK YlN,end to end. -/
import Derived.Test.YtmlknafdnccddaaGreatP1
namespace Go.Mch
def S_big (pg:Pg):Prop:=∀ c:Rw Int,Call pg 128 [rawB c] [rawB c] (B (decide ((4096:Int)<(lst c).length)))
theorem t_big {pg:Pg} (hp:pg.fn 128=some c_laws_big):S_big pg:=by
 intro c
 refine Call.intro hp rfl (by simp) ?_
 show wp _ _ c_laws_big.body (post [.t 2] _ _ _) _
 simp [c_laws_big]
def S_likeI (pg:Pg):Prop:=∀ a b:Rw Int,(lst a).length≤1048576→Call pg 141 [rawI a,rawI b] [rawI a,rawI b] (B (decide (lst a=lst b)))
theorem t_likeI {pg:Pg} (hp:pg.fn 141=some c_laws_likeInts):S_likeI pg:=by
 intro a b ha
 refine Call.intro hp rfl (by simp) ?_
 show wp _ _ c_laws_likeInts.body (post [.t 4] _ _ _) _
 by_cases hl:(lst a).length=(lst b).length
 · simp [c_laws_likeInts,hl]
   refine wpLoop_count (fun k e=>(∀ i,i<k→(lst a)[i]?=(lst b)[i]?)∧e=fr [(0,some (.val (rawI a))),(1,some (.val (rawI b))),(5,some (.val (I k)))]) (lst a).length ?_ ?_ 0 _ (by omega) ?_
   · rintro k e hk ⟨h1,rfl⟩
     have hk2:k<(lst b).length:=by omega
     by_cases hne:(lst a)[k]=(lst b)[k]
     · simp [hk,hk2,hne]
       refine ⟨by omega,fun i hi=>?_⟩
       rcases Nat.lt_or_ge i k with h2 | h2
       · exact h1 i h2
       · have:i=k:=by omega
         subst this
         rw [List.getElem?_eq_getElem hk,List.getElem?_eq_getElem hk2,hne]
     · simp [hk,hk2,hne]
       intro h2
       exact hne (by simp [h2])
   · rintro e ⟨h1,rfl⟩
     simp [hl]
     apply List.ext_getElem?
     intro i
     rcases Nat.lt_or_ge i (lst a).length with h2 | h2
     · exact h1 i h2
     · rw [List.getElem?_eq_none h2,List.getElem?_eq_none (by omega)]
   · exact ⟨fun i hi=>by omega,by simp⟩
 · have:lst a≠lst b:=fun h=>hl (by rw [h])
   have h2:((lst a).length:Int)≠(lst b).length:=by omega
   simp [c_laws_likeInts,h2,this]

def S_likeT (pg:Pg):Prop:=∀ a b:Rw (Rw Int),small a→Call pg 137 [rawT a,rawT b] [rawT a,rawT b] (B (decide ((lst a).map lst=(lst b).map lst)))
theorem t_likeT {pg:Pg} (hp:pg.fn 137=some c_laws_likeRows5) (h141:S_likeI pg):S_likeT pg:=by
 intro a b ⟨ha,hr⟩
 refine Call.intro hp rfl (by simp) ?_
 show wp _ _ c_laws_likeRows5.body (post [.t 4] _ _ _) _
 by_cases hl:(lst a).length=(lst b).length
 · simp [c_laws_likeRows5,hl]
   refine wpLoop_count (fun k e=>(∀ i,i<k→((lst a).map lst)[i]?=((lst b).map lst)[i]?)∧e=fr [(0,some (.val (rawT a))),(1,some (.val (rawT b))),(5,some (.val (I k)))]) (lst a).length ?_ ?_ 0 _ (by omega) ?_
   · rintro k e hk ⟨h1,rfl⟩
     have hk2:k<(lst b).length:=by omega
     simp [hk,hk2]
     refine callR (h141 _ _ (hr _ (List.getElem_mem hk))) rfl rfl (fun _=>rfl) ?_
     by_cases hne:lst (lst a)[k]=lst (lst b)[k]
     · simp [hne]
       refine ⟨by omega,fun i hi=>?_⟩
       rcases Nat.lt_or_ge i k with h2 | h2
       · have:=h1 i h2
         simpa using this
       · have:i=k:=by omega
         subst this
         simp [hk,hk2,hne]
     · simp [hne]
       intro h2
       have h3:=congrArg (fun l=>l[k]?) h2
       simp [hk,hk2] at h3
       exact hne h3
   · rintro e ⟨h1,rfl⟩
     simp [hl]
     apply List.ext_getElem?
     intro i
     rcases Nat.lt_or_ge i (lst a).length with h2 | h2
     · exact h1 i h2
     · rw [List.getElem?_eq_none (by simpa using h2),List.getElem?_eq_none (by simp;omega)]
   · exact ⟨fun i hi=>by omega,by simp⟩
 · have:(lst a).map lst≠(lst b).map lst:=fun h=>hl (by have:=congrArg List.length h;simpa using this)
   have h2:((lst a).length:Int)≠(lst b).length:=by omega
   simp [c_laws_likeRows5,h2,this]

def S_same9 (pg:Pg):Prop:=∀ a b:Rw (Rw Int),small a→Call pg 178 [rawT a,rawT b] [rawT a,rawT b] (B (decide ((lst a).map lst=(lst b).map lst)))
theorem S_likeT.tb {pg:Pg} (h:S_likeT pg) (X Y:List (List Int)) (hs:smallT X):Call pg 137 [tb X,tb Y] [tb X,tb Y] (B (decide (X=Y))):=by
 have:=h (ryT (some X)) (ryT (some Y)) (small_ry hs)
 simp only [rawT_ry,lst_ry] at this
 exact this
def S_likeS (pg:Pg):Prop:=∀ X Y Z W:List (List Int),smallT X→smallT Y→Call pg 218 [sol X Y,sol Z W] [sol X Y,sol Z W] (B (decide (X=Z∧Y=W)))
set_option maxRecDepth 10000 in
theorem t_likeS {pg:Pg} (hp:pg.fn 218=some c_laws_likeSolution5) (h137:S_likeT pg):S_likeS pg:=by
 intro X Y Z W hX hY
 refine Call.intro hp rfl (by simp) ?_
 show wp _ _ c_laws_likeSolution5.body (post [.t 4] _ _ _) _
 simp [c_laws_likeSolution5]
 refine callR (h137.tb X Z hX) rfl rfl (fun _=>rfl) ?_
 by_cases h:X=Z
 · simp [h]
   refine callR (h137.tb Y W hY) rfl rfl (fun _=>rfl) ?_
   simp
 · simp [h,undefV]
end Go.Mch
namespace Go.Mch
theorem S_likeI.ix {pg:Pg} (h:S_likeI pg) (X Y:List Int) (hs:X.length≤1048576):Call pg 141 [ix X,ix Y] [ix X,ix Y] (B (decide (X=Y))):=h (.of X) (.of Y) hs
end Go.Mch
