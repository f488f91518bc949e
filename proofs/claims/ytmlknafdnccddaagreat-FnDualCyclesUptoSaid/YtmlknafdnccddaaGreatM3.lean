/- Our texts YdA YdB YdC YdD YdE YdF YdG YbV,end to end. -/
import Derived.Test.YtmlknafdnccddaaGreatM2
namespace Go.Mch

theorem lendL_length:∀ ts:List T,(T.lendL ts).length=ts.length
 | []=>rfl
 | t::ts=>by simp [T.lendL,lendL_length ts]

theorem lendL_get:∀ (ts:List T) (i:Nat),(T.lendL ts)[i]?=(ts[i]?).map T.lend
 | [],_=>by simp [T.lendL]
 | t::ts,0=>by simp [T.lendL]
 | t::ts,i+1=>by simpa [T.lendL] using lendL_get ts i

mutual
theorem noOwn_lend:∀ t:T,t.noOwn=true→t.lend.noOwn=true
 | .sc _,_=>rfl
 | .gone,_=>rfl
 | .nul,_=>rfl
 | .fn f caps,_=>by simp only [T.lend,T.noOwn];exact eryL_noOwn (by decide) caps
 | .agg ts,h=>by simp only [T.lend,T.noOwn] at h ⊢;exact noOwnL_lend ts h
 | .tup ts,h=>by simp only [T.lend,T.noOwn] at h ⊢;exact noOwnL_lend ts h
 | .mem k s ts,h=>by
  simp only [T.lend,T.noOwn,Bool.and_eq_true,bne_iff_ne,ne_eq] at h ⊢
  refine ⟨?_,noOwnL_lend ts h.2⟩
  rw [if_neg h.1];decide
theorem noOwnL_lend:∀ ts:List T,T.noOwnL ts=true→T.noOwnL (T.lendL ts)=true
 | [],_=>rfl
 | t::ts,h=>by
  simp only [T.lendL,T.noOwnL,Bool.and_eq_true] at h ⊢
  exact ⟨noOwn_lend t h.1,noOwnL_lend ts h.2⟩
end

mutual
theorem cnt_lend {w:World} {b:Nat}:∀ (t:T) (v:Value),cnt w v b t.lend=cnt w v b t
 | .sc _,_=>rfl
 | .gone,_=>rfl
 | .nul,_=>rfl
 | .fn f caps,_=>rfl
 | .agg ts,v=>by simp only [T.lend,cnt];exact cntL_lend ts _ 0
 | .tup ts,v=>by simp only [T.lend,cnt];exact cntL_lend ts _ 0
 | .set _,_=>rfl
 | .mem k s ts,v=>by
  by_cases hk:k=.own
  · subst hk;simp only [T.lend,if_true,cnt_own,cntL_lend ts _ 0]
  · simp only [T.lend,if_neg hk];rw [cnt_imm hk,cnt_imm (by decide)]
theorem cntL_lend {w:World} {b:Nat}:∀ (ts:List T) (g:Nat→Value) (i:Nat),cntL w g b i (T.lendL ts)=cntL w g b i ts
 | [],_,_=>rfl
 | t::ts,g,i=>by simp only [T.lendL,cntL,cnt_lend t,cntL_lend ts]
end

mutual
theorem rep_lend {fm:Nat→Nat} {ok ok':K→Nat→Prop} {w:World} (hok:∀ k b,k≠.own→ok k b→ok' .old b) :
 ∀ (t:T) (v:Value),(∀ b,1≤cnt w v b t→ok .own b→ok' .own b)→rep fm ok w v t→rep fm ok' w v t.lend
 | .sc _,_,_,h=>h
 | .gone,_,_,_=>trivial
 | .nul,_,_,h=>h
 | .fn f caps,v,_,h=>by
  simp only [rep,T.lend] at h ⊢
  exact ⟨by rw [eryL_length];exact h.1,eryL_noOwn (by decide) caps,repL_ery hok caps _ 0 (.inl h.2.1) h.2.2⟩
 | .agg ts,v,ho,h=>by
  simp only [rep,T.lend,cnt] at h ho ⊢
  exact ⟨by rw [lendL_length];exact h.1,repL_lend hok ts _ 0 ho h.2⟩
 | .tup ts,v,ho,h=>by
  simp only [rep,T.lend,cnt] at h ho ⊢
  exact ⟨by rw [lendL_length];exact h.1,repL_lend hok ts _ 0 ho h.2⟩
 | .set ks,v,ho,h=>by
  simp only [rep,T.lend,cnt] at h ho ⊢
  exact ⟨h.1,ho _ (by simp) h.2⟩
 | .mem k s ts,v,ho,h=>by
  simp only [T.lend]
  rw [rep_mem] at h ⊢
  rw [lendL_length]
  obtain ⟨h1,h2,h3,h4,h5⟩:=h
  by_cases hk:k=.own
  · subst hk
    simp only [cnt_own] at ho
    rw [if_pos rfl]
    exact ⟨h1,fun _=>ho _ (by simp) (h2 (.inl rfl)),h3,fun hh=>(hh rfl).elim,repL_lend hok ts _ 0 (fun b hb=>ho b (by omega)) h5⟩
  · rw [if_neg hk]
    refine ⟨h1,fun hh=>?_,fun hh=>(by cases hh),fun _=>noOwnL_lend ts (h4 hk),repL_lend hok ts _ 0 (fun b hb=>by rw [cntL_noOwn w _ b ts 0 (h4 hk)] at hb;omega) h5⟩
    rcases hh with hh | hh
    · cases hh
    · refine hok k _ hk (h2 (.inr fun e'=>hh ?_))
      rw [e'];rfl
theorem repL_lend {fm:Nat→Nat} {ok ok':K→Nat→Prop} {w:World} (hok:∀ k b,k≠.own→ok k b→ok' .old b) :
 ∀ (ts:List T) (g:Nat→Value) (i:Nat),(∀ b,1≤cntL w g b i ts→ok .own b→ok' .own b)→repL fm ok w g i ts→repL fm ok' w g i (T.lendL ts)
 | [],_,_,_,_=>trivial
 | t::ts,g,i,ho,h=>by
  simp only [repL,T.lendL,cntL] at h ho ⊢
  exact ⟨rep_lend hok t _ (fun b hb=>ho b (by omega)) h.1,repL_lend hok ts g (i+1) (fun b hb=>ho b (by omega)) h.2⟩
end

theorem cntL_ex {w:World} {g:Nat→Value} {b:Nat}:∀ (ts:List T) (i:Nat),1≤cntL w g b i ts→∃ j t,ts[j]?=some t∧1≤cnt w (g (i+j)) b t
 | [],_,h=>by simp [cntL] at h
 | t::ts,i,h=>by
  simp only [cntL] at h
  by_cases h1:1≤cnt w (g i) b t
  · exact ⟨0,t,rfl,h1⟩
  · have h0:1≤cntL w g b (i+1) ts:=by omega
    obtain ⟨j,u,h2,h3⟩:=cntL_ex ts (i+1) h0
    exact ⟨j+1,u,by simpa using h2,by rwa [show i+(j+1)=i+1+j from by omega]⟩

theorem cntL_one {w:World} {g:Nat→Value} {b:Nat}:∀ (ts:List T) (i:Nat),(∀ j t,ts[j]?=some t→cnt w (g (i+j)) b t≤1) →
 (∀ j k t u,j<k→ts[j]?=some t→ts[k]?=some u→1≤cnt w (g (i+j)) b t→1≤cnt w (g (i+k)) b u→False)→cntL w g b i ts≤1
 | [],_,_,_=>by simp [cntL]
 | t::ts,i,h1,h2=>by
  simp only [cntL]
  have h3:=h1 0 t rfl
  rw [Nat.add_zero] at h3
  have h4:=cntL_one (w:=w) (g:=g) (b:=b) ts (i+1) (fun j u hj=>by
   have:=h1 (j+1) u (by simpa using hj)
   rwa [show i+(j+1)=i+1+j from by omega] at this) (fun j k u u' hjk hj hk ha hb=>h2 (j+1) (k+1) u u' (by omega) (by simpa using hj) (by simpa using hk)
    (by rwa [show i+(j+1)=i+1+j from by omega]) (by rwa [show i+(k+1)=i+1+k from by omega]))
  rcases Nat.eq_zero_or_pos (cnt w (g i) b t) with h5 | h5
  · omega
  · rcases Nat.eq_zero_or_pos (cntL w g b (i+1) ts) with h6 | h6
    · omega
    · obtain ⟨j,u,h7,h8⟩:=cntL_ex ts (i+1) h6
      exact (h2 0 (j+1) t u (by omega) rfl (by simpa using h7) h5 (by rwa [show i+(j+1)=i+1+j from by omega])).elim

theorem backArgs_get {e:Env}:∀ (ts:List T) (s i:Nat),(backArgs e s ts)[i]?=(ts[i]?).map fun t=>if t.noOwn then t else slotT e (s+i)
 | [],_,_=>by simp [backArgs]
 | t::ts,s,0=>by simp [backArgs]
 | t::ts,s,i+1=>by
  simp only [backArgs,List.getElem?_cons_succ]
  rw [backArgs_get ts (s+1) i,show s+1+i=s+(i+1) from by omega]

theorem slotT_own {e:Env} {s:Nat} {v:Value} {w:World} {b:Nat} (h:1≤cnt w v b (slotT e s)):e s=some (.val (slotT e s)):=by
 unfold slotT at *
 split at h
 · rename_i t ht;rw [ht]
 · simp [cnt] at h

theorem T.isGone_eq {t:T} (h:t.isGone=true):t=.gone:=by
 cases t <;> simp [T.isGone] at h ⊢

theorem callm_core {P:Program} {cx:Cx} {q:Nat} {e1:Env} {vl:Vl} {w:World} {ts caps ts':List T} {us cs:Array Value} {id:Nat} {r:T} (hN:∀ b,¬cx.N b)
 (hR:R cx (e1.add q (.val (.tup ts))) vl w) (hc:Clr e1 q) (hq:vl q=.tuple us) (hcs:cs.size=caps.length) (hno:T.noOwnL caps=true)
 (hcaps:repL cx.fm (okR cx (Own (e1.add q (.val (.tup ts))) vl w)) w (fun j=>cs.getD j undef) 0 caps)
 (hp:Pact P cx.fm id (T.lendL ts++T.eryL .old caps) (ts'++T.eryL .old caps) r) (hl:ts'.length=ts.length) :
 Calls P (cx.fm id) (us++cs) w fun en w'=>∃ v,en=.returned v∧∃ fs:List T,fs.length=ts.length∧(∀ (i:Nat) (t:T),ts[i]?=some t→t.lend.noOwn=false→fs[i]?=ts'[i]?) ∧
  R cx (e1.add q (.val (.tup (fs++[r])))) (vadd vl q (.tuple (us.push v))) w'∧∀ p s t u,e1 s=some (.val t)→t.at p=some u→nodeV w' (vl s) p=nodeV w (vl s) p:=by
 obtain ⟨who,hw⟩:=hR.who
 have hrep:=srep_val hR (add_self ..)
 rw [hq] at hrep
 simp only [Mch.rep] at hrep
 obtain ⟨⟨_,hus,hsz⟩,hrepL⟩:=hrep
 cases hus
 have hkid:kid w (.tuple us)=fun i=>us.getD i undef:=rfl
 have hlt:∀ b,Own (e1.add q (.val (.tup ts))) vl w b→okR cx (Own (e1.add q (.val (.tup ts))) vl w) .own b∧b<w.heap.size:=by
  rintro b ⟨s,t,ht,hb⟩
  exact rep_owned t _ (srep_val hR ht) b hb
 have hnq:e1 q=none:=(hc q (Nat.le_refl _)).1
 have hoth:∀ b,(∃ s u,s≠q∧e1 s=some (.val u)∧1≤cnt w (vl s) b u)→Own (e1.add q (.val (.tup ts))) vl w b:=by
  rintro b ⟨s,u,h1,h2,h3⟩
  exact ⟨s,u,by rw [add_ne h1];exact h2,h3⟩
 have hMq:∀ b,1≤cnt w (.tuple us) b (.tup ts)→Own (e1.add q (.val (.tup ts))) vl w b:=fun b hb=>⟨q,_,add_self ..,by rw [hq];exact hb⟩
 have hA':∀ b,(cx.A b∨∃ s u,s≠q∧e1 s=some (.val u)∧1≤cnt w (vl s) b u)→b<w.heap.size:=fun b hb=>by
  rcases hb with h1 | h1
  · have:=cx.hA b h1;have:=hR.keeps.size;omega
  · exact (hlt b (hoth b h1)).2
 have hdis:∀ b,1≤cnt w (.tuple us) b (.tup ts)→¬(cx.A b∨∃ s u,s≠q∧e1 s=some (.val u)∧1≤cnt w (vl s) b u):=by
  rintro b hb (h1 | ⟨s,u,h1,h2,h3⟩)
  · exact (hlt b (hMq b hb)).1.1 h1
  · have h4:=(hw q _ (add_self ..) b).2 (by rw [hq];exact hb)
    have h5:=(hw s u (by rw [add_ne h1];exact h2) b).2 h3
    exact h1 (h5.symm.trans h4)
 have hlen:(us++cs).size=(T.lendL ts++T.eryL .old caps).length:=by simp [hcs,hsz,eryL_length,lendL_length]
 -- the callee's slots
 have hval:∀ s t,(T.lendL ts++T.eryL .old caps)[s]?=some t→(∃ u,ts[s]?=some u∧t=u.lend∧s<ts.length∧(us++cs).getD s undef=us.getD s undef)∨(ts.length≤s∧t.noOwn=true):=fun s t ht=>by
  rcases Nat.lt_or_ge s ts.length with h1 | h1
  · rw [List.getElem?_append_left (by rw [lendL_length];exact h1),lendL_get,Option.map_eq_some_iff] at ht
    obtain ⟨u,h2,h3⟩:=ht
    refine .inl ⟨u,h2,h3.symm,h1,?_⟩
    simp only [Array.getD_eq_getD_getElem?]
    rw [Array.getElem?_append_left (by omega)]
  · rw [List.getElem?_append_right (by rw [lendL_length];exact h1)] at ht
    exact .inr ⟨h1,noOwnL_get (eryL_noOwn (by decide) caps) ht⟩
 have hown':∀ b,Own (init (T.lendL ts++T.eryL .old caps)) (fun s=>(us++cs).getD s undef) w b→1≤cnt w (.tuple us) b (.tup ts):=by
  rintro b ⟨s,t,ht,hb⟩
  obtain ⟨t',h1,h2⟩:=init_some ht
  cases h2
  rcases hval s t h1 with ⟨u,h3,rfl,h4,h5⟩ | ⟨h3,h4⟩
  · simp only at hb
    rw [h5,cnt_lend] at hb
    have:=cntL_get (w:=w) (g:=fun i=>us.getD i undef) (b:=b) ts 0 s h3
    simp only [Nat.zero_add] at this
    simp only [cnt,hkid]
    omega
  · rw [cnt_noOwn _ _ _ _ h4] at hb;omega
 have htwo:∀ b s s' t t',s≠s'→ts[s]?=some t→ts[s']?=some t'→1≤cnt w (us.getD s undef) b t→1≤cnt w (us.getD s' undef) b t'→False:=fun b s s' t t' hne h1 h2 h3 h4=>by
  have h5:=node_still.cntL_two (w:=w) (g:=fun i=>us.getD i undef) (b:=b) ts 0 s s' hne h1 h2
  simp only [Nat.zero_add] at h5
  have h6:=(hw q _ (add_self ..) b).1
  rw [hq] at h6
  simp only [cnt,hkid] at h6
  omega
 generalize hcx:cx0 cx.fm w (fun b=>cx.A b∨∃ s u,s≠q∧e1 s=some (.val u)∧1≤cnt w (vl s) b u) (fun b=>1≤cnt w (.tuple us) b (.tup ts)) hA'=cx'
 have hok:∀ k b,k≠.own→okR cx (Own (e1.add q (.val (.tup ts))) vl w) k b→okR cx' (Own (init (T.lendL ts++T.eryL .old caps)) (fun s=>(us++cs).getD s undef) w) .old b:=fun k b hk ho=>by
  subst hcx
  refine ⟨fun hh=>?_,fun hh=>(by cases hh),fun hh=>(by cases hh),fun _=>⟨fun hh=>(ho.2.2.2 hk).1 (hMq b (hown' b hh)),fun h=>h⟩⟩
  rcases hh with hh | hh
  · exact ho.1 hh
  · exact (ho.2.2.2 hk).1 (hoth b hh)
 have hL:repL cx.fm (okR cx' (Own (init (T.lendL ts++T.eryL .old caps)) (fun s=>(us++cs).getD s undef) w)) w (fun s=>(us++cs).getD s undef) 0 (T.lendL ts++T.eryL .old caps):=by
  rw [repL_append]
  refine ⟨repL_congr _ 0 (fun j _ hj=>?_) (repL_lend hok ts _ 0 (fun b hb _=>?_) hrepL),?_⟩
  · rw [lendL_length] at hj
    simp only [kid,Array.getD_eq_getD_getElem?]
    rw [Array.getElem?_append_left (by omega)]
  · subst hcx
    exact ⟨hdis b hb,fun _=>.inr hb,fun hh=>(by cases hh),fun hh=>(hh rfl).elim⟩
  · have h9:=repL_ery hok caps _ 0 (.inl hno) hcaps
    have h10:=(repL_shift (fm:=cx.fm) (ok:=okR cx' (Own (init (T.lendL ts++T.eryL .old caps)) (fun s=>(us++cs).getD s undef) w)) (w:=w) (g:=fun s=>(us++cs).getD s undef) (T.eryL .old caps) 0 ts.length).2
    rw [lendL_length]
    refine h10 (repL_congr _ 0 (fun j _ hj=>?_) h9)
    simp only [Array.getD_eq_getD_getElem?]
    rw [Array.getElem?_append_right (by omega)]
    congr 2
    omega
 have hR':R cx' (init (T.lendL ts++T.eryL .old caps)) (fun s=>(us++cs).getD s undef) w:=by
  refine ⟨by subst hcx;exact Keeps.refl _ _,?_,fun s x hx=>?_⟩
  · refine ⟨fun b=>Classical.epsilon fun i=>∃ t,ts[i]?=some t∧1≤cnt w (us.getD i undef) b t,fun s t ht b=>?_⟩
    obtain ⟨t',h1,h2⟩:=init_some ht
    cases h2
    rcases hval s t h1 with ⟨u,h3,rfl,h4,h5⟩ | ⟨h3,h4⟩
    · simp only
      rw [h5,cnt_lend]
      refine ⟨?_,fun h6=>?_⟩
      · have:=cntL_get (w:=w) (g:=fun i=>us.getD i undef) (b:=b) ts 0 s h3
        simp only [Nat.zero_add] at this
        have h6:=(hw q _ (add_self ..) b).1
        rw [hq] at h6
        simp only [cnt,hkid] at h6
        omega
      · have hex:∃ i t,ts[i]?=some t∧1≤cnt w (us.getD i undef) b t:=⟨s,u,h3,h6⟩
        obtain ⟨t2,h7,h8⟩:=Classical.epsilon_spec hex
        by_cases hne:Classical.epsilon (fun i=>∃ t,ts[i]?=some t∧1≤cnt w (us.getD i undef) b t)=s
        · exact hne
        · exact (htwo b _ s t2 u hne h7 h3 h8 h6).elim
    · rw [cnt_noOwn _ _ _ _ h4]
      exact ⟨by omega,fun h=>by omega⟩
  · obtain ⟨t,h1,rfl⟩:=init_some hx
    have:=repL_get _ 0 s hL h1
    rw [Nat.zero_add] at this
    refine .inl ⟨t,rfl,?_⟩
    have hfm:cx'.fm=cx.fm:=by subst hcx;rfl
    rw [hfm]
    exact this
 subst hcx
 have hkind:kindOf (T.lendL ts++T.eryL .old caps)=.fresh→∀ b,¬1≤cnt w (.tuple us) b (.tup ts):=fun hk b hb=>by
  unfold kindOf at hk
  split at hk
  · rename_i hn
    simp only [cnt] at hb
    rw [← cntL_lend] at hb
    have h1:T.noOwnL (T.lendL ts)=true:=by
     rw [noOwnL_append,Bool.and_eq_true] at hn;exact hn.1
    rw [cntL_noOwn _ _ _ _ _ h1] at hb
    omega
  · cases hk
 refine Calls.mono (hp.2 w (us++cs) _ _ hA' hlen hkind hR') fun en w' hbk=>?_
 cases en with
 | panicked c=>exact hbk.elim
 | outgrown=>exact hbk.elim
 | returned v =>
  obtain ⟨q',e',vl',hq',hRb,hcb,hv,hargs,hfix⟩:=hbk
  have hsame:∀ b,b<w.heap.size→¬1≤cnt w (.tuple us) b (.tup ts)→w'.heap[b]?=w.heap[b]?:=fun b hb hm=>hRb.keeps.block b hb hm
  have hn':(T.lendL ts++T.eryL .old caps).length=ts.length+caps.length:=by simp [lendL_length,eryL_length]
  -- the float's new trees
  have hfs:∃ fs:List T,fs.length=ts.length∧(∀ (i:Nat) (t:T),ts[i]?=some t→t.lend.noOwn=false→fs[i]?=ts'[i]?∧fs[i]?=some (slotT e' i))∧(∀ (i:Nat) (t:T),ts[i]?=some t→t.lend.noOwn=true→fs[i]?=some .gone):=by
   refine ⟨(List.range ts.length).map fun i=>if (ts.getD i .gone).lend.noOwn then .gone else slotT e' i,by simp,fun i t ht hn=>?_,fun i t ht hn=>?_⟩
   · have hi:i<ts.length:=by
      rcases Nat.lt_or_ge i ts.length with h | h
      · exact h
      · rw [List.getElem?_eq_none h] at ht;cases ht
     have hg:ts.getD i .gone=t:=by rw [List.getD_eq_getElem?_getD,ht];rfl
     have h1:((List.range ts.length).map fun i=>if (ts.getD i .gone).lend.noOwn then T.gone else slotT e' i)[i]?=some (slotT e' i):=by
      rw [List.getElem?_map,List.getElem?_range hi]
      simp only [Option.map_some,hg,hn]
      rfl
     refine ⟨?_,h1⟩
     rw [h1]
     have h2:=congrArg (fun l=>l[i]?) hargs
     simp only [backArgs_get,Nat.zero_add] at h2
     rw [List.getElem?_append_left (by omega),List.getElem?_append_left (by rw [lendL_length];exact hi),lendL_get,ht] at h2
     simp only [Option.map_some,hn] at h2
     exact h2.symm
   · have hi:i<ts.length:=by
      rcases Nat.lt_or_ge i ts.length with h | h
      · exact h
      · rw [List.getElem?_eq_none h] at ht;cases ht
     have hg:ts.getD i .gone=t:=by rw [List.getD_eq_getElem?_getD,ht];rfl
     rw [List.getElem?_map,List.getElem?_range hi]
     simp only [Option.map_some,hg,hn]
     rfl
  obtain ⟨fs,hfl,hf1,hf2⟩:=hfs
  refine ⟨v,rfl,fs,hfl,fun i t ht hn=>(hf1 i t ht hn).1,?_,fun p s t u hs hpu=>?_⟩
  · -- where a part of the new float is owned
    have hpart:∀ j t,(fs++[r])[j]?=some t→(j<ts.length∧((t=.gone)∨(t=slotT e' j∧(us.push v).getD j undef=vl' j∧j≠q')))∨(j=ts.length∧t=r∧(us.push v).getD j undef=vl' q'):=fun j t hj=>by
     rcases Nat.lt_or_ge j ts.length with h1 | h1
     · refine .inl ⟨h1,?_⟩
       rw [List.getElem?_append_left (by omega)] at hj
       obtain ⟨u,hu⟩:∃ u,ts[j]?=some u:=⟨_,List.getElem?_eq_getElem h1⟩
       cases hn:u.lend.noOwn with
       | true=>rw [hf2 j u hu hn] at hj;cases hj;exact .inl rfl
       | false =>
        rw [(hf1 j u hu hn).2] at hj
        cases hj
        cases hgn:(slotT e' j).isGone with
        | true=>exact .inl (T.isGone_eq hgn)
        | false =>
        refine .inr ⟨rfl,?_,by omega⟩
        have h2:=hfix j (by omega) (by
         rw [List.getD_eq_getElem?_getD,List.getElem?_append_left (by rw [lendL_length];exact h1),lendL_get,hu]
         exact hn) hgn
        rw [h2]
        simp only [Array.getD_eq_getD_getElem?]
        rw [Array.getElem?_append_left (by omega),Array.getElem?_push,if_neg (by omega)]
     · have h2:j=ts.length:=by
        rcases Nat.lt_or_ge ts.length j with h2 | h2
        · rw [List.getElem?_eq_none (by simp;omega)] at hj;cases hj
        · omega
       subst h2
       rw [List.getElem?_append_right (by omega),hfl] at hj
       simp only [Nat.sub_self,List.getElem?_cons_zero,Option.some.injEq] at hj
       refine .inr ⟨rfl,hj.symm,?_⟩
       rw [hv,Array.getD_eq_getD_getElem?,Array.getElem?_push,if_pos (by omega)]
       rfl
    obtain ⟨who',hw'⟩:=hRb.who
    have hslot:∀ j t b,(fs++[r])[j]?=some t→1≤cnt w' ((us.push v).getD j undef) b t→∃ s,(e'.add q' (.val r)) s=some (.val t)∧(us.push v).getD j undef=vl' s∧((j<ts.length∧s=j∧s≠q')∨(j=ts.length∧s=q')):=fun j t b hj hb=>by
     rcases hpart j t hj with ⟨h1,h2 | ⟨h2,h3,h4⟩⟩ | ⟨h1,h2,h3⟩
     · subst h2;simp [cnt] at hb
     · subst h2
       exact ⟨j,by rw [add_ne h4];exact slotT_own hb,h3,.inl ⟨h1,rfl,h4⟩⟩
     · subst h2
       exact ⟨q',add_self ..,h3,.inr ⟨h1,rfl⟩⟩
    have hkn:kid w' (.tuple (us.push v))=fun i=>(us.push v).getD i undef:=rfl
    have hOwn:∀ b,1≤cnt w' (.tuple (us.push v)) b (.tup (fs++[r]))→Own (e'.add q' (.val r)) vl' w' b:=fun b hb=>by
     simp only [cnt,hkn] at hb
     obtain ⟨j,t,hj,hb⟩:=cntL_ex _ 0 hb
     rw [Nat.zero_add] at hb
     obtain ⟨s,h1,h2,_⟩:=hslot j t b hj hb
     exact ⟨s,t,h1,by rw [← h2];exact hb⟩
    have hnew:∀ b,Own (e'.add q' (.val r)) vl' w' b→(w.heap.size≤b∨1≤cnt w (.tuple us) b (.tup ts))∧¬(cx.A b∨∃ s u,s≠q∧e1 s=some (.val u)∧1≤cnt w (vl s) b u):=by
     rintro b ⟨s,t,ht,hb⟩
     have:=(rep_owned t _ (srep_val hRb ht) b hb).1
     exact ⟨this.2.1 rfl,this.1⟩
    have hkeep2:Keeps cx.M cx.w0 w':=by
     have hk:=hR.keeps
     have hk2:=hRb.keeps
     refine ⟨hk2.os.trans hk.os,hk2.tape.trans hk.tape,hk2.output.trans hk.output,Nat.le_trans hk.size hk2.size,fun b hb hm=>?_⟩
     refine (hsame b (Nat.lt_of_lt_of_le hb hk.size) fun hh=>?_).trans (hk.block b hb hm)
     rcases (hlt b (hMq b hh)).1.2.1 rfl with h1 | h1
     · omega
     · exact hm h1
    have h2:=hR.world (w':=w) (touch:=fun _=>False) (N:=fun b=>w.heap.size≤b∧1≤cnt w' (.tuple (us.push v)) b (.tup (fs++[r]))) (fun _ _ _=>rfl) (fun _ _ _ _ h=>h) (fun _ _ _ _ h=>h.elim) hR.keeps (fun b hb=>.inr hb.1)
    have h4:=h2.retag (w':=w') (touch:=fun b=>1≤cnt w (.tuple us) b (.tup ts)) (q:=q) (d:=q) (t':=.tup (fs++[r])) (v':=.tuple (us.push v)) (e':=e1.add q (.val (.tup (fs++[r])))) (add_self ..) hsame (fun b hb=>by rw [hq];exact hb) hkeep2
     (by
      simp only [Mch.rep]
      refine ⟨⟨_,rfl,by simp [hfl,hsz]⟩,?_⟩
      have conv:∀ (t:T) (x:Value),(∃ s,(e'.add q' (.val r)) s=some (.val t)∧x=vl' s)→Mch.rep cx.fm (okR { cx with N:=fun b=>w.heap.size≤b∧1≤cnt w' (.tuple (us.push v)) b (.tup (fs++[r])) } (fun b=>(∃ s u,s≠q∧(e1.add q (.val (.tup ts))) s=some (.val u)∧1≤cnt w (vl s) b u)∨1≤cnt w' (.tuple (us.push v)) b (.tup (fs++[r])))) w' x t:=by
       rintro t x ⟨s,h5,rfl⟩
       have hothq:∀ b,(∃ s u,s≠q∧(e1.add q (.val (.tup ts))) s=some (.val u)∧1≤cnt w (vl s) b u)→∃ s u,s≠q∧e1 s=some (.val u)∧1≤cnt w (vl s) b u:=by
        rintro b ⟨s,u,g1,g2,g3⟩
        rw [add_ne g1] at g2
        exact ⟨s,u,g1,g2,g3⟩
       have hwsz:=hR.keeps.size
       refine rep_ok (fun k b hk _ ho=>⟨fun hA=>ho.1 (.inl hA),fun hh=>(hk hh).elim,fun hh=>Nat.le_trans hwsz (ho.2.2.1 hh),fun _=>⟨fun hh=>hh.elim (fun hh=>ho.1 (.inr (hothq b hh))) (fun hh=>(ho.2.2.2 hk).1 (hOwn b hh)),fun hh=>(ho.2.2.2 hk).1 (hOwn b hh.2)⟩⟩) t _ (fun b hb _ _=>?_) (srep_val hRb h5)
       obtain ⟨h6,h7⟩:=hnew b ⟨s,t,h5,hb⟩
       refine ⟨fun hA=>h7 (.inl hA),fun _=>?_,fun hh=>(by cases hh),fun hh=>(hh rfl).elim⟩
       rcases h6 with h6 | h6
       · exact .inl (Nat.le_trans hwsz h6)
       · exact (hlt b (hMq b h6)).1.2.1 rfl
      have all:∀ (l:List T) (i:Nat),(∀ j t,l[j]?=some t→(fs++[r])[i+j]?=some t)→repL cx.fm (okR { cx with N:=fun b=>w.heap.size≤b∧1≤cnt w' (.tuple (us.push v)) b (.tup (fs++[r])) } (fun b=>(∃ s u,s≠q∧(e1.add q (.val (.tup ts))) s=some (.val u)∧1≤cnt w (vl s) b u)∨1≤cnt w' (.tuple (us.push v)) b (.tup (fs++[r])))) w' (kid w' (.tuple (us.push v))) i l:=by
       intro l
       induction l with
       | nil=>intro i _;trivial
       | cons t l ih =>
        intro i hi
        refine ⟨?_,ih (i+1) fun j u hj=>by
         have:=hi (j+1) u (by simpa using hj)
         rwa [show i+(j+1)=i+1+j from by omega] at this⟩
        have h0:=hi 0 t rfl
        rw [Nat.add_zero] at h0
        rw [hkn]
        rcases hpart i t h0 with ⟨g1,g2 | ⟨g2,g3,g4⟩⟩ | ⟨g1,g2,g3⟩
        · subst g2;trivial
        · by_cases hgo:e' i=some (.val t)
          · exact conv t _ ⟨i,by rw [add_ne g4];exact hgo,g3⟩
          · have:t=.gone:=by
             subst g2
             unfold slotT at hgo ⊢
             split
             · rename_i t ht;rw [ht] at hgo;exact (hgo rfl).elim
             · rfl
            subst this;trivial
        · subst g2
          exact conv t _ ⟨q',add_self ..,g3⟩
      exact all _ 0 fun j t hj=>by rwa [Nat.zero_add])
     (fun b=>by
      simp only [cnt,hkn]
      refine cntL_one _ 0 (fun j t hj=>?_) (fun j k t u hjk hj hk ha hb=>?_)
      · rw [Nat.zero_add]
        rcases Nat.eq_zero_or_pos (cnt w' ((us.push v).getD j undef) b t) with h5 | h5
        · omega
        · obtain ⟨s,g1,g2,_⟩:=hslot j t b hj h5
          rw [g2]
          exact (hw' s t g1 b).1
      · rw [Nat.zero_add] at ha hb
        obtain ⟨s,g1,g2,g3⟩:=hslot j t b hj ha
        obtain ⟨s2,k1,k2,k3⟩:=hslot k u b hk hb
        rw [g2] at ha;rw [k2] at hb
        have h5:=(hw' s t g1 b).2 ha
        have h6:=(hw' s2 u k1 b).2 hb
        omega)
     (fun b hb=>by
      rcases (hnew b (hOwn b hb)).1 with h5 | h5
      · exact .inr ⟨⟨h5,hb⟩,fun hh=>by have:=(hlt b hh).2;omega⟩
      · exact .inl (by rw [hq];exact h5))
     (add_self ..) (fun s x hs hx=>by
      rw [add_ne hs] at hx
      refine ⟨hs,by rw [add_ne hs];exact hx,fun r' hr=>?_⟩
      have hne:r'≠q:=fun e'=>by subst e';rw [(hc r' (Nat.le_refl _)).2 s x hx] at hr;cases hr
      exact ⟨hne,hne,by rw [add_ne hne,add_ne hne]⟩)
    exact h4.unN (N:=cx.N) (fun b hb=>(hN b hb).elim)
  · have hsq:s≠q:=fun e'=>by subst e';rw [hnq] at hs;cases hs
    refine frame_node hsame p t (vl s) (srep_val hR (by rw [add_ne hsq];exact hs)) (fun b hb=>?_) hpu
    rcases Nat.eq_zero_or_pos (cnt w (vl s) b t) with h5 | h5
    · exact h5
    · exact (hdis b hb (.inr ⟨s,t,hsq,hs,h5⟩)).elim

end Go.Mch
namespace Go.Mch

mutual
def Fits (w:World) (vl:Vl) (q:Nat) (v:Value):V→Prop
 | .val _=>True
 | .sref r p _ _ _=>r<q∧nodeV w (vl r) p=v
 | .pref r p _=>r<q∧nodeV w (vl r) p=v
 | .vagg vs=>FitsL w vl q (kid w v) 0 vs
 | .vtup _=>False
 | .same _=>False
 | .vfn _ _=>False
def FitsL (w:World) (vl:Vl) (q:Nat) (g:Nat→Value) (i:Nat):List V→Prop
 | []=>True
 | x::xs=>Fits w vl q (g i) x∧FitsL w vl q g (i+1) xs
end

mutual
theorem fits_of {fm:Nat→Nat} {ok:K→Nat→Prop} {e e1:Env} {vl vl':Vl} {w w':World} {q:Nat} (hd:∀ j,q≤j→e j=none) (hnode:∀ r p,r<q→e1.isHole r p=true→nodeV w' (vl' r) p=nodeV w (vl r) p) (hshp:∀ r p s ts t,e r=some (.val t)→t.at p=some (.mem .own s ts)→shp w (nodeV w (vl r) p) s ts.length) :
 ∀ (x:V) (v:Value),arep fm ok e vl w v x→e.whole x=true→e1.hole x=true→Fits w' vl' q v x
 | .val _,_,_,_,_=>trivial
 | .sref r p sz off len,v,h,hw,hh=>by
  simp only [arep] at h
  simp only [Env.whole,Bool.and_eq_true,beq_iff_eq] at hw
  simp only [Env.hole] at hh
  obtain ⟨h0,t,ts,h1,h2,h3,o',h4,h5,h6,h7⟩:=h
  obtain ⟨rfl,hw⟩:=hw
  have hrq:r<q:=by
   rcases Nat.lt_or_ge r q with h' | h'
   · exact h'
   · rw [hd r h'] at h1;cases h1
  refine ⟨hrq,?_⟩
  · rw [hnode r p hrq hh]
    have ht:e.tree r p=some (.mem .own (some sz) ts):=by simp [Env.tree,h1,h2]
    rw [ht] at hw
    simp only [beq_iff_eq] at hw
    have:=h7 (.inr rfl)
    rw [Nat.zero_mul,Nat.add_zero] at this
    obtain ⟨⟨len',k1,k2,k3,_⟩,_⟩:=hshp r p _ _ _ h1 h2
    have hle:len=len':=Nat.eq_of_mul_eq_mul_right h0 (hw.trans k2)
    rw [h4,this,Nat.sub_zero,hle]
    exact k1
 | .pref r p off,v,h,hw,hh=>by
  simp only [arep] at h
  simp only [Env.whole,Bool.and_eq_true,beq_iff_eq] at hw
  simp only [Env.hole] at hh
  obtain ⟨t,s,ts,h1,h2,h3,h4⟩:=h
  obtain ⟨rfl,hw⟩:=hw
  have ht:e.tree r p=some (.mem .own s ts):=by simp [Env.tree,h1,h2]
  rw [ht] at hw
  have hs:s=none:=by
   cases s with
   | none=>rfl
   | some sz=>simp at hw
  subst hs
  have hrq:r<q:=by
   rcases Nat.lt_or_ge r q with h' | h'
   · exact h'
   · rw [hd r h'] at h1;cases h1
  refine ⟨hrq,?_⟩
  rw [hnode r p hrq hh,h4,Nat.add_zero]
  exact (hshp r p _ _ _ h1 h2).1
 | .vagg vs,v,h,hw,hh=>by
  simp only [arep] at h
  simp only [Env.whole] at hw
  simp only [Env.hole] at hh
  obtain ⟨⟨cs,rfl,_⟩,h⟩:=h
  exact fitsL_of hd hnode hshp vs _ 0 h hw hh
 | .vtup _,_,_,hw,_=>by simp [Env.whole] at hw
 | .same _,_,_,hw,_=>by simp [Env.whole] at hw
 | .vfn _ _,_,_,hw,_=>by simp [Env.whole] at hw
theorem fitsL_of {fm:Nat→Nat} {ok:K→Nat→Prop} {e e1:Env} {vl vl':Vl} {w w':World} {q:Nat} (hd:∀ j,q≤j→e j=none) (hnode:∀ r p,r<q→e1.isHole r p=true→nodeV w' (vl' r) p=nodeV w (vl r) p) (hshp:∀ r p s ts t,e r=some (.val t)→t.at p=some (.mem .own s ts)→shp w (nodeV w (vl r) p) s ts.length) :
 ∀ (xs:List V) (g:Nat→Value) (i:Nat),arepL fm ok e vl w g i xs→e.wholeL xs=true→e1.holeL xs=true→FitsL w' vl' q g i xs
 | [],_,_,_,_,_=>trivial
 | x::xs,g,i,h,hw,hh=>by
  simp only [arepL] at h
  simp only [Env.wholeL,Bool.and_eq_true] at hw
  simp only [Env.holeL,Bool.and_eq_true] at hh
  exact ⟨fits_of hd hnode hshp x _ h.1 hw.1 hh.1,fitsL_of hd hnode hshp xs g (i+1) h.2 hw.2 hh.2⟩
end

theorem at_setAt_ne {x:T}:∀ (p q:List Nat) (t:T),p.isPrefixOf q=false→q.isPrefixOf p=false→(t.setAt p x).at q=t.at q
 | [],_,_,h,_=>by simp at h
 | _::_,[],_,_,h=>by simp at h
 | i::p,j::q,t,h1,h2=>by
  cases hk:t.kids with
  | nil =>
   have:t.setAt (i::p) x=t.withKids []:=by simp only [T.setAt,hk,List.set_nil]
   have hwk:(t.withKids []).kids=[]:=by
    cases t with
    | mem k s ts=>cases k <;> rfl
    | _=>rfl
   rw [this]
   simp only [T.at]
   rw [hwk,hk]
  | cons c cs =>
   have hk2:(t.setAt (i::p) x).kids=t.kids.set i ((t.kids.getD i .gone).setAt p x):=by
    cases t with
    | mem k s ts=>cases k <;> simp [T.setAt,T.withKids,T.kids] at hk ⊢
    | agg ts=>rfl
    | tup ts=>rfl
    | _=>simp [T.kids] at hk
   simp only [T.at,hk2]
   by_cases hij:i=j
   · subst hij
     simp only [List.isPrefixOf,beq_self_eq_true,Bool.true_and] at h1 h2
     rcases Nat.lt_or_ge i t.kids.length with hlt | hge
     · rw [List.getElem?_set_self hlt,List.getElem?_eq_getElem hlt,List.getD_eq_getElem?_getD,List.getElem?_eq_getElem hlt]
       simp only [Option.bind_some,Option.getD_some]
       exact at_setAt_ne p q _ h1 h2
     · rw [List.getElem?_eq_none (by simpa using hge),List.getElem?_eq_none hge]
   · rw [List.getElem?_set_ne hij]

theorem setTree_add {e:Env} {q:Nat} {F x:T} {π:List Nat} (hc:Clr e q):(e.add q (.val F)).setTree q π x=e.add q (.val (F.setAt π x)):=by
 funext s
 simp only [Env.setTree]
 by_cases hs:s=q
 · simp [hs]
 · rw [if_neg hs,add_ne hs]
   have hes':e.add q (.val F) s=e s:=add_ne hs
   simp only [Env.kill,hes']
   cases hes:e s with
   | none=>rfl
   | some y =>
    have:y.hits q π=false:=by
     cases hh:y.hits q π with
     | false=>rfl
     | true=>have:=isPrefixOf_trans_nil q π y hh;rw [(hc q (Nat.le_refl _)).2 s y hes] at this;cases this
    simp [this]

theorem back1_clr {e e':Env} {r q:Nat} {p:List Nat} {t:T} (hc:Clr e q) (hr:r<q) (h:e.back1 r p t=some e'):Clr e' q:=by
 intro j hj
 have hj':=hc j hj
 cases p with
 | nil =>
  simp only [Env.back1] at h
  split at h
  · cases h
    refine ⟨by simp only [Env.put,Env.kill];rw [if_neg (by omega),hj'.1],fun s x hx=>?_⟩
    simp only [Env.put,Env.kill] at hx
    split at hx
    · simp only [V.hits] at hx;cases hx;rfl
    · cases hes:e s with
      | none=>rw [hes] at hx;cases hx
      | some y =>
       rw [hes] at hx
       simp only at hx
       split at hx
       · cases hx
       · cases hx;exact hj'.2 s _ hes
  · cases h
 | cons i p =>
  simp only [Env.back1] at h
  split at h
  · cases h
    refine ⟨by simp only [Env.setTree,Env.kill];rw [if_neg (by omega),hj'.1],fun s x hx=>?_⟩
    simp only [Env.setTree,Env.kill] at hx
    split at hx
    · split at hx
      · cases hx;rfl
      · cases hx
    · cases hes:e s with
      | none=>rw [hes] at hx;cases hx
      | some y =>
       rw [hes] at hx
       simp only at hx
       split at hx
       · cases hx
       · cases hx;exact hj'.2 s _ hes
  · cases h

theorem give1 {cx:Cx} {e e':Env} {vl:Vl} {w:World} {q r:Nat} {p π:List Nat} {F t:T} (h:R cx (e.add q (.val F)) vl w) (hc:Clr e q) (hr:r<q) (hπ:π≠[]) (hF:F.at π=some t)
 (hv:nodeV w (vl r) p=nodeV w (vl q) π) (hb:e.back1 r p t=some e'):R cx (e'.add q (.val (F.setAt π .gone))) vl w:=by
 obtain ⟨i,π',rfl⟩:∃ i π',π=i::π':=by
  cases π with
  | nil=>exact (hπ rfl).elim
  | cons i π'=>exact ⟨i,π',rfl⟩
 have hn1:(e.add q (.val F)) (q+1)=none:=by rw [add_ne (by omega)];exact (hc (q+1) (by omega)).1
 have h1:=h.movePart (r:=q) (d:=q+1) (add_self ..) hn1 hF
 rw [setTree_add hc] at h1
 have hc1:=hc.add (F.setAt (i::π') .gone)
 have hclr':=back1_clr hc hr hb
 have hdom:∀ s x,(e'.add q (.val (F.setAt (i::π') .gone))) s=some x→s≤q:=fun s x hx=>by
  rcases Nat.lt_or_ge q s with h' | h'
  · rw [add_ne (by omega),(hclr' s (by omega)).1] at hx;cases hx
  · exact h'
 cases p with
 | nil =>
  simp only [Env.back1] at hb
  split at hb
  · rename_i her
    cases hb
    have h2:=h1.land (d:=r) hc1 (by omega)
    have henv:(e.add q (.val (F.setAt (i::π') .gone))).put r (.val t)=(e.put r (.val t)).add q (.val (F.setAt (i::π') .gone)):=by
     funext s
     simp only [Env.put,Env.add,Env.kill,V.hits]
     by_cases hs:s=r
     · subst hs;simp;omega
     · by_cases hs2:s=q
       · subst hs2;simp [hs,V.hits]
       · simp [hs,hs2]
    rw [henv] at h2
    refine h2.congr fun s x hx=>?_
    have hle:=hdom s x hx
    by_cases hs:s=r
    · subst hs
      rw [vadd_self,vadd_self,← hv]
      rfl
    · rw [vadd_ne hs,vadd_ne (by omega)]
  · cases hb
 | cons j p =>
  simp only [Env.back1] at hb
  split at hb
  · rename_i htr
    cases hb
    obtain ⟨t0,g1,g2⟩:=tree_some htr
    have hrq:r≠q:=by omega
    have hrq1:r≠q+1:=by omega
    have hE:((e.add q (.val (F.setAt (i::π') .gone))).add (q+1) (.val t)) r=some (.val t0):=by rw [add_ne hrq1,add_ne hrq];exact g1
    have hfr:=srep_val h1 (add_self ..)
    rw [vadd_self] at hfr
    have hnv:nodeV w (vadd vl (q+1) (nodeV w (vl q) (i::π')) r) (j::p)=nodeV w (vl q) (i::π'):=by rw [vadd_ne hrq1];exact hv
    have h2:=h1.replaceAt (w':=w) (r:=r) (q:=q+1) (p:=j::p) (pks:=[]) (t:=t0) (u:=.gone) (tq:=t) (x:=t) (touch:=fun _=>False) (e':=(e.setTree r (j::p) t).add q (.val (F.setAt (i::π') .gone))) hE g2 (add_self ..) hrq1
     (fun _ _ _=>rfl) (fun _ h=>h.elim) h1.keeps (by rw [hnv];exact hfr) (fun b=>by rw [hnv,vadd_self];exact Nat.le_add_left _ _)
     (fun rest _ s ts hh=>by cases rest <;> simp [T.at,T.kids] at hh) (fun _ h=>by cases h) (by rw [add_ne hrq];exact setTree_self g1) (fun s y hs hy=>?_)
    · refine h2.congr fun s x hx=>?_
      have hle:=hdom s x hx
      rw [vadd_ne (by omega)]
    · have hsq1:s≠q+1:=fun e'=>by
       subst e'
       rw [add_ne (by omega)] at hy
       have:=(hclr' (q+1) (by omega)).1
       rw [this] at hy;cases hy
      refine ⟨hsq1,?_⟩
      by_cases hsq:s=q
      · subst hsq
        rw [add_self] at hy
        cases hy
        exact ⟨by rw [add_ne hsq1,add_self],fun pk hpk=>by simp at hpk,fun r' hh=>by simp [V.hits] at hh⟩
      · rw [add_ne hsq] at hy
        rcases setTree_some g1 hy with ⟨h3,_⟩ | ⟨_,h4,h5⟩
        · exact (hs h3).elim
        · refine ⟨by rw [add_ne hsq1,add_ne hsq];exact h4,fun pk hpk=>by simp at hpk,fun r' hh=>?_⟩
          have h6:r'≠q+1:=fun e'=>by subst e';rw [(hc (q+1) (by omega)).2 s y h4] at hh;cases hh
          have h7:r'≠q:=fun e'=>by subst e';rw [(hc r' (Nat.le_refl _)).2 s y h4] at hh;cases hh
          refine ⟨h6,fun hne=>?_⟩
          rw [add_ne h7,add_ne h6,add_ne h7]
          obtain ⟨u,hu⟩:=h.root (s:=s) (x:=y) (by rw [add_ne hsq];exact h4) hh
          rw [add_ne h7] at hu
          rw [hu]
          exact setTree_ne hne hu rfl
  · cases hb

theorem pre_app {π π':List Nat} {i:Nat} (h1:π.isPrefixOf π'=false) (h2:π'.isPrefixOf π=false):(π++[i]).isPrefixOf π'=false∧π'.isPrefixOf (π++[i])=false:=by
 refine ⟨?_,?_⟩
 · cases h:(π++[i]).isPrefixOf π' with
   | false=>rfl
   | true =>
    have:π.isPrefixOf π'=true:=by
     rw [List.isPrefixOf_iff_prefix] at h ⊢
     exact (List.prefix_append π [i]).trans h
    rw [this] at h1;cases h1
 · cases h:π'.isPrefixOf (π++[i]) with
   | false=>rfl
   | true =>
    rw [List.isPrefixOf_iff_prefix] at h
    rcases List.prefix_concat_iff.1 h with h3 | h3
    · have:π.isPrefixOf π'=true:=by rw [List.isPrefixOf_iff_prefix,h3];exact List.prefix_append π [i]
      rw [this] at h1;cases h1
    · have:π'.isPrefixOf π=true:=by rw [List.isPrefixOf_iff_prefix];exact h3
      rw [this] at h2;cases h2

theorem pre_sib {π:List Nat} {i j:Nat} (h:i≠j):(π++[i]).isPrefixOf (π++[j])=false:=by
 cases hh:(π++[i]).isPrefixOf (π++[j]) with
 | false=>rfl
 | true =>
  rw [List.isPrefixOf_iff_prefix,List.prefix_append_right_inj] at hh
  simp at hh
  exact (h hh).elim

mutual
theorem give_sound {cx:Cx} {vl:Vl} {w:World} {q:Nat}:∀ (x:V) (t:T) (π:List Nat) (e e':Env) (F:T),R cx (e.add q (.val F)) vl w→Clr e q→π≠[]→F.at π=some t→Fits w vl q (nodeV w (vl q) π) x→e.give x t=some e' →
 ∃ F',R cx (e'.add q (.val F')) vl w∧Clr e' q∧∀ π',π.isPrefixOf π'=false→π'.isPrefixOf π=false→F'.at π'=F.at π'
 | .val _,t,π,e,e',F,h,hc,hπ,hF,hf,hg=>by
  simp only [Env.give,Option.some.injEq] at hg
  subst hg
  exact ⟨F,h,hc,fun _ _ _=>rfl⟩
 | .sref r p sz off len,t,π,e,e',F,h,hc,hπ,hF,hf,hg=>by
  simp only [Env.give] at hg
  simp only [Fits] at hf
  exact ⟨_,give1 h hc hf.1 hπ hF hf.2 hg,back1_clr hc hf.1 hg,fun π' h1 h2=>at_setAt_ne π π' F h1 h2⟩
 | .pref r p off,t,π,e,e',F,h,hc,hπ,hF,hf,hg=>by
  simp only [Env.give] at hg
  simp only [Fits] at hf
  exact ⟨_,give1 h hc hf.1 hπ hF hf.2 hg,back1_clr hc hf.1 hg,fun π' h1 h2=>at_setAt_ne π π' F h1 h2⟩
 | .vagg vs,t,π,e,e',F,h,hc,hπ,hF,hf,hg=>by
  cases t <;> simp only [Env.give] at hg <;> try cases hg
  rename_i ts
  simp only [Fits] at hf
  obtain ⟨F',h1,h2,h3⟩:=giveL_sound vs ts π 0 e e' F h hc (fun j t hj=>by
   rw [R.replaceAt.at_append π [0+j] F hF]
   simp [T.at,T.kids,hj]) hf hg
  exact ⟨F',h1,h2,h3⟩
 | .vtup _,_,_,_,_,_,_,_,_,_,hf,_=>hf.elim
 | .same _,_,_,_,_,_,_,_,_,_,hf,_=>hf.elim
 | .vfn _ _,_,_,_,_,_,_,_,_,_,hf,_=>hf.elim
theorem giveL_sound {cx:Cx} {vl:Vl} {w:World} {q:Nat}:∀ (xs:List V) (ts:List T) (π:List Nat) (i:Nat) (e e':Env) (F:T),R cx (e.add q (.val F)) vl w→Clr e q→(∀ j t,ts[j]?=some t→F.at (π++[i+j])=some t)→FitsL w vl q (kid w (nodeV w (vl q) π)) i xs→e.giveL xs ts=some e' →
 ∃ F',R cx (e'.add q (.val F')) vl w∧Clr e' q∧∀ π',π.isPrefixOf π'=false→π'.isPrefixOf π=false→F'.at π'=F.at π'
 | [],ts,π,i,e,e',F,h,hc,hF,hf,hg=>by
  simp only [Env.giveL,Option.some.injEq] at hg
  subst hg
  exact ⟨F,h,hc,fun _ _ _=>rfl⟩
 | x::xs,[],π,i,e,e',F,h,hc,hF,hf,hg=>by simp [Env.giveL] at hg
 | x::xs,t::ts,π,i,e,e',F,h,hc,hF,hf,hg=>by
  simp only [Env.giveL] at hg
  simp only [FitsL] at hf
  cases hx:e.give x t with
  | none=>rw [hx] at hg;cases hg
  | some e1 =>
   rw [hx] at hg
   simp only [Option.bind_some] at hg
   have hn:nodeV w (vl q) (π++[i])=kid w (nodeV w (vl q) π) i:=by rw [R.replaceAt.nodeV_append];rfl
   obtain ⟨F1,h1,h2,h3⟩:=give_sound x t (π++[i]) e e1 F h hc (by simp) (by have:=hF 0 t rfl;rwa [Nat.add_zero] at this) (by rw [hn];exact hf.1) hx
   obtain ⟨F2,h4,h5,h6⟩:=giveL_sound xs ts π (i+1) e1 e' F1 h1 h2 (fun j u hj=>by
    rw [h3 _ (pre_sib (by omega)) (pre_sib (by omega)),show i+1+j=i+(j+1) from by omega]
    exact hF (j+1) u (by simpa using hj)) hf.2 hg
   refine ⟨F2,h4,h5,fun π' g1 g2=>?_⟩
   obtain ⟨g3,g4⟩:=pre_app (i:=i) g1 g2
   rw [h6 π' g1 g2,h3 π' g3 g4]
end

mutual
theorem give_none:∀ (x:V) (t:T) (e e':Env),x.lent=false→e.give x t=some e'→e'=e
 | .val _,t,e,e',_,hg=>by simp only [Env.give,Option.some.injEq] at hg;exact hg.symm
 | .sref ..,_,_,_,h,_=>by simp [V.lent] at h
 | .pref ..,_,_,_,h,_=>by simp [V.lent] at h
 | .vagg vs,t,e,e',h,hg=>by
  cases t <;> simp only [Env.give] at hg <;> try cases hg
  simp only [V.lent] at h
  exact giveL_none vs _ e e' h hg
 | .vtup _,t,_,_,_,hg=>by simp [Env.give] at hg
 | .same _,t,_,_,_,hg=>by simp [Env.give] at hg
 | .vfn _ _,t,_,_,_,hg=>by simp [Env.give] at hg
theorem giveL_none:∀ (xs:List V) (ts:List T) (e e':Env),V.lentL xs=false→e.giveL xs ts=some e'→e'=e
 | [],ts,e,e',_,hg=>by simp only [Env.giveL,Option.some.injEq] at hg;exact hg.symm
 | x::xs,[],e,e',_,hg=>by simp [Env.giveL] at hg
 | x::xs,t::ts,e,e',h,hg=>by
  simp only [V.lentL,Bool.or_eq_false_iff] at h
  simp only [Env.giveL] at hg
  cases hx:e.give x t with
  | none=>rw [hx] at hg;cases hg
  | some e1 =>
   rw [hx] at hg
   simp only [Option.bind_some] at hg
   have:=give_none x t e e1 h.1 hx
   subst this
   exact giveL_none xs ts _ e' h.2 hg
end

mutual
theorem take_lent:∀ (x:V) (e:Env) {t:T} {e1:Env},x.lent=true→e.take x=some (t,e1)→t.lend.noOwn=false
 | .val _,_,_,_,h,_=>by simp [V.lent] at h
 | .sref r p sz off len,e,t,e1,_,ht=>by
  simp only [Env.take] at ht
  split at ht
  · split at ht
    · cases ht;simp [T.lend]
    · cases ht
  · cases ht
 | .pref r p off,e,t,e1,_,ht=>by
  simp only [Env.take] at ht
  split at ht
  · split at ht
    · cases ht;simp [T.lend]
    · cases ht
  · cases ht
 | .vagg vs,e,t,e1,h,ht=>by
  simp only [Env.take,Option.map_eq_some_iff] at ht
  obtain ⟨y,h1,h2⟩:=ht
  cases h2
  simp only [V.lent] at h
  simp only [T.lend,T.noOwn]
  exact takeL_lent vs e h h1
 | .vtup vs,e,t,e1,h,ht=>by
  simp only [Env.take,Option.map_eq_some_iff] at ht
  obtain ⟨y,h1,h2⟩:=ht
  cases h2
  simp only [V.lent] at h
  simp only [T.lend,T.noOwn]
  exact takeL_lent vs e h h1
 | .vfn _ _,e,t,e1,h,ht=>by simp [Env.take] at ht
 | .same r,e,t,e1,h,ht=>by
  simp only [Env.take] at ht
  split at ht
  · cases ht;rfl
  · cases ht
theorem takeL_lent:∀ (xs:List V) (e:Env) {ts:List T} {e1:Env},V.lentL xs=true→e.takeL xs=some (ts,e1)→T.noOwnL (T.lendL ts)=false
 | [],_,_,_,h,_=>by simp [V.lentL] at h
 | x::xs,e,ts,e1,h,ht=>by
  simp only [Env.takeL] at ht
  cases hx:e.take x with
  | none=>rw [hx] at ht;cases ht
  | some y =>
   rw [hx] at ht
   simp only [Option.bind_some,Option.map_eq_some_iff] at ht
   obtain ⟨z,h1,h2⟩:=ht
   cases h2
   simp only [V.lentL,Bool.or_eq_true] at h
   simp only [T.lendL,T.noOwnL,Bool.and_eq_false_iff]
   rcases h with h | h
   · exact .inl (take_lent x e h hx)
   · exact .inr (takeL_lent xs y.2 h h1)
end

theorem takeL_get:∀ (xs:List V) (e:Env) {ts:List T} {e1:Env},e.takeL xs=some (ts,e1)→∀ (i:Nat) (x:V) (t:T),xs[i]?=some x→ts[i]?=some t→x.lent=true→t.lend.noOwn=false
 | [],_,_,_,_,i,_,_,h,_,_=>by simp at h
 | x::xs,e,ts,e1,ht,i,x',t,hi,hti,hl=>by
  simp only [Env.takeL] at ht
  cases hx:e.take x with
  | none=>rw [hx] at ht;cases ht
  | some y =>
   rw [hx] at ht
   simp only [Option.bind_some,Option.map_eq_some_iff] at ht
   obtain ⟨z,h1,h2⟩:=ht
   cases h2
   cases i with
   | zero =>
    simp only [List.getElem?_cons_zero,Option.some.injEq] at hi hti
    subst hi;subst hti
    exact take_lent x e hl hx
   | succ i=>exact takeL_get xs y.2 h1 i x' t (by simpa using hi) (by simpa using hti) hl

theorem gives_sound {cx:Cx} {vl:Vl} {w:World} {q:Nat}:∀ (xs:List V) (gs:List Bool) (ts:List T) (i:Nat) (e e':Env) (F:T),R cx (e.add q (.val F)) vl w→Clr e q →
 (∀ j x t,xs[j]?=some x→ts[j]?=some t→x.lent=true→F.at [i+j]=some t)→(∀ j x,xs[j]?=some x→gs[j]?=some true→Fits w vl q (kid w (vl q) (i+j)) x)→e.gives xs gs ts=some e' →
 ∃ F',R cx (e'.add q (.val F')) vl w∧Clr e' q∧∀ n,i+xs.length≤n→F'.at [n]=F.at [n]
 | [],[],[],i,e,e',F,h,hc,_,_,hg=>by
  simp only [Env.gives,Option.some.injEq] at hg
  subst hg
  exact ⟨F,h,hc,fun _ _=>rfl⟩
 | x::xs,g::gs,t::ts,i,e,e',F,h,hc,hF,hf,hg=>by
  simp only [Env.gives] at hg
  have skip:∀ e1 F1,R cx (e1.add q (.val F1)) vl w→Clr e1 q→(∀ n,n≠i→F1.at [n]=F.at [n])→e1.gives xs gs ts=some e'→∃ F',R cx (e'.add q (.val F')) vl w∧Clr e' q∧∀ n,i+(x::xs).length≤n→F'.at [n]=F.at [n]:=fun e1 F1 h1 h2 h3 h4=>by
   obtain ⟨F2,k1,k2,k3⟩:=gives_sound xs gs ts (i+1) e1 e' F1 h1 h2 (fun j y u hj hu hl=>by
    rw [h3 _ (by omega),show i+1+j=i+(j+1) from by omega]
    exact hF (j+1) y u (by simpa using hj) (by simpa using hu) hl) (fun j y hj hgj=>by
    rw [show i+1+j=i+(j+1) from by omega]
    exact hf (j+1) y (by simpa using hj) (by simpa using hgj)) h4
   refine ⟨F2,k1,k2,fun n hn=>?_⟩
   simp only [List.length_cons] at hn
   rw [k3 n (by omega),h3 n (by omega)]
  cases g with
  | false=>exact skip e F h hc (fun _ _=>rfl) (by simpa using hg)
  | true =>
   simp only [if_true] at hg
   cases hx:e.give x t with
   | none=>rw [hx] at hg;cases hg
   | some e1 =>
    rw [hx] at hg
    simp only [Option.bind_some] at hg
    cases hl:x.lent with
    | false =>
     have:=give_none x t e e1 hl hx
     subst this
     exact skip _ F h hc (fun _ _=>rfl) hg
    | true =>
     have hF0:=hF 0 x t rfl rfl hl
     have hf0:=hf 0 x rfl rfl
     rw [Nat.add_zero] at hF0 hf0
     obtain ⟨F1,k1,k2,k3⟩:=give_sound x t [i] e e1 F h hc (by simp) hF0 hf0 hx
     refine skip e1 F1 k1 k2 (fun n hn=>k3 [n] ?_ ?_) hg
     · have:=pre_sib (π:=[]) (i:=i) (j:=n) (Ne.symm hn);simpa using this
     · have:=pre_sib (π:=[]) (i:=n) (j:=i) hn;simpa using this
 | [],[],_::_,_,_,_,_,_,_,_,_,hg=>by simp [Env.gives] at hg
 | [],_::_,_,_,_,_,_,_,_,_,_,hg=>by simp [Env.gives] at hg
 | _::_,[],_,_,_,_,_,_,_,_,_,hg=>by simp [Env.gives] at hg
 | _::_,_::_,[],_,_,_,_,_,_,_,_,hg=>by simp [Env.gives] at hg

end Go.Mch
namespace Go.Mch

mutual
theorem hole_leaf {e:Env} {r:Nat} {p:List Nat} {sz off len:Nat}:∀ x:V,e.hole x=true→x.hasLeaf r p sz off len=true→e.isHole r p=true
 | .val _,_,h=>by simp [V.hasLeaf] at h
 | .sref r' p' sz' off' len',h,hl=>by
  simp only [V.hasLeaf,Bool.and_eq_true,beq_iff_eq] at hl
  simp only [Env.hole] at h
  obtain ⟨⟨⟨⟨rfl,rfl⟩,_⟩,_⟩,_⟩:=hl
  exact h
 | .pref ..,_,h=>by simp [V.hasLeaf] at h
 | .vagg vs,h,hl=>by
  simp only [V.hasLeaf] at hl
  simp only [Env.hole] at h
  exact holeL_leaf vs h hl
 | .vtup _,h,_=>by simp [Env.hole] at h
 | .same _,h,_=>by simp [Env.hole] at h
 | .vfn _ _,h,_=>by simp [Env.hole] at h
theorem holeL_leaf {e:Env} {r:Nat} {p:List Nat} {sz off len:Nat}:∀ xs:List V,e.holeL xs=true→V.hasLeafL r p sz off len xs=true→e.isHole r p=true
 | [],_,h=>by simp [V.hasLeafL] at h
 | x::xs,h,hl=>by
  simp only [V.hasLeafL,Bool.or_eq_true] at hl
  simp only [Env.holeL,Bool.and_eq_true] at h
  rcases hl with hl | hl
  · exact hole_leaf x h.1 hl
  · exact holeL_leaf xs h.2 hl
end

theorem holes_leaf {e:Env} {r:Nat} {p:List Nat} {sz off len:Nat}:∀ (xs:List V) (gs:List Bool),e.holes xs gs=true→leafOf xs gs r p sz off len=true→e.isHole r p=true
 | [],_,_,h=>by simp [leafOf] at h
 | _::_,[],_,h=>by simp [leafOf] at h
 | x::xs,g::gs,h,hl=>by
  simp only [leafOf,Bool.or_eq_true,Bool.and_eq_true] at hl
  simp only [Env.holes,Bool.and_eq_true,Bool.or_eq_true,Bool.not_eq_true'] at h
  rcases hl with ⟨h1,h2⟩ | hl
  · rcases h.1 with h3 | h3
    · rw [h1] at h3;cases h3
    · exact hole_leaf x h3 h2
  · exact holes_leaf xs gs h.2 hl

theorem holes_get {e:Env}:∀ (xs:List V) (gs:List Bool),e.holes xs gs=true→∀ (j:Nat) (x:V),xs[j]?=some x→gs[j]?=some true→e.hole x=true
 | [],_,_,j,_,h,_=>by simp at h
 | _::_,[],_,j,_,_,h=>by simp at h
 | x::xs,g::gs,h,0,y,h1,h2=>by
  simp only [Env.holes,Bool.and_eq_true,Bool.or_eq_true,Bool.not_eq_true'] at h
  simp only [List.getElem?_cons_zero,Option.some.injEq] at h1 h2
  subst h1;subst h2
  rcases h.1 with h3 | h3
  · cases h3
  · exact h3
 | x::xs,g::gs,h,j+1,y,h1,h2=>by
  simp only [Env.holes,Bool.and_eq_true] at h
  exact holes_get xs gs h.2 j y (by simpa using h1) (by simpa using h2)

theorem wholes_get {e:Env}:∀ (xs:List V) (gs:List Bool),e.wholes xs gs=true→∀ (j:Nat) (x:V),xs[j]?=some x→gs[j]?=some true→e.whole x=true
 | [],_,_,j,_,h,_=>by simp at h
 | _::_,[],_,j,_,_,h=>by simp at h
 | x::xs,g::gs,h,0,y,h1,h2=>by
  simp only [Env.wholes,Bool.and_eq_true,Bool.or_eq_true,Bool.not_eq_true'] at h
  simp only [List.getElem?_cons_zero,Option.some.injEq] at h1 h2
  subst h1;subst h2
  rcases h.1 with h3 | h3
  · cases h3
  · exact h3
 | x::xs,g::gs,h,j+1,y,h1,h2=>by
  simp only [Env.wholes,Bool.and_eq_true] at h
  exact wholes_get xs gs h.2 j y (by simpa using h1) (by simpa using h2)

mutual
theorem again_arep {fm:Nat→Nat} {ok ok':K→Nat→Prop} {e0 e:Env} {vl vl':Vl} {w w':World} {us:List V} {gs:List Bool} {e1:Env} (hl:∀ r p sz off len t,e0 r=some (.val t)→(leafOf us gs r p sz off len||(e1.tree r p).isSome)=true→nodeV w' (vl' r) p=nodeV w (vl r) p) :
 ∀ (x:V) (v:Value),arep fm ok e0 vl w v x→Env.again e1 e us gs x=true→arep fm ok' e vl' w' v x
 | .val _,_,_,h=>by simp [Env.again] at h
 | .sref r p sz off len,v,h,ha=>by
  simp only [arep] at h ⊢
  rw [Env.again,Bool.and_eq_true] at ha
  obtain ⟨h0,t,ts,h1,h2,h3,h4⟩:=h
  obtain ⟨ha1,ha2⟩:=ha
  split at ha2
  · rename_i sz' ts' htr
    simp only [Bool.and_eq_true,beq_iff_eq,decide_eq_true_eq] at ha2
    obtain ⟨rfl,hle⟩:=ha2
    obtain ⟨t',g1,g2⟩:=tree_some htr
    exact ⟨h0,t',ts',g1,g2,hle,by rw [hl r p _ off len t h1 ha1];exact h4⟩
  · cases ha2
 | .pref ..,_,_,h=>by simp [Env.again] at h
 | .vagg xs,v,h,ha=>by
  simp only [arep] at h ⊢
  simp only [Env.again] at ha
  obtain ⟨⟨cs,rfl,hs⟩,h⟩:=h
  exact ⟨⟨cs,rfl,hs⟩,againL_arep hl xs _ 0 h ha⟩
 | .vtup _,_,_,h=>by simp [Env.again] at h
 | .same _,_,_,h=>by simp [Env.again] at h
 | .vfn _ _,_,_,h=>by simp [Env.again] at h
theorem againL_arep {fm:Nat→Nat} {ok ok':K→Nat→Prop} {e0 e:Env} {vl vl':Vl} {w w':World} {us:List V} {gs:List Bool} {e1:Env} (hl:∀ r p sz off len t,e0 r=some (.val t)→(leafOf us gs r p sz off len||(e1.tree r p).isSome)=true→nodeV w' (vl' r) p=nodeV w (vl r) p) :
 ∀ (xs:List V) (g:Nat→Value) (i:Nat),arepL fm ok e0 vl w g i xs→Env.againL e1 e us gs xs=true→arepL fm ok' e vl' w' g i xs
 | [],_,_,_,_=>trivial
 | x::xs,g,i,h,ha=>by
  simp only [arepL] at h
  simp only [Env.againL,Bool.and_eq_true] at ha
  exact ⟨again_arep hl x _ h.1 ha.1,againL_arep hl xs g (i+1) h.2 ha.2⟩
end

theorem addName {cx:Cx} {e:Env} {vl:Vl} {w:World} {q s:Nat} {F:T} {x:V} (h:R cx (e.add q (.val F)) vl w) (hc:Clr e q) (hs:s<q) (hes:e s=none) (hx:arep cx.fm (okR cx (Own (e.add q (.val F)) vl w)) (e.add q (.val F)) vl w (vl s) x) (hnq:x.hits q []=false) :
 R cx ((e.put s x).add q (.val F)) vl w∧Clr (e.put s x) q:=by
 have hsq:s≠q:=by omega
 have hes':(e.add q (.val F)) s=none:=by rw [add_ne hsq];exact hes
 have h1:=h.addA hes' hx
 have hxs:x.hits s []=false:=by
  cases hh:x.hits s [] with
  | false=>rfl
  | true=>obtain ⟨t,ht⟩:=arep_root x _ hx hh;rw [hes'] at ht;cases ht
 have hkill:∀ s' y,e s'=some y→y.hits s []=false:=fun s' y hy=>by
  cases hh:y.hits s [] with
  | false=>rfl
  | true =>
   have hne:s'≠q:=fun e'=>by subst e';rw [(hc s' (Nat.le_refl _)).1] at hy;cases hy
   obtain ⟨t,ht⟩:=h.root (s:=s') (x:=y) (by rw [add_ne hne];exact hy) hh
   rw [hes'] at ht;cases ht
 have henv:(e.add q (.val F)).add s x=(e.put s x).add q (.val F):=by
  funext s'
  by_cases h2:s'=s
  · subst h2;rw [add_self,add_ne hsq];simp [Env.put,hxs]
  · rw [add_ne h2]
    by_cases h3:s'=q
    · subst h3;rw [add_self,add_self]
    · rw [add_ne h3,add_ne h3]
      simp only [Env.put,if_neg h2,Env.kill]
      cases hy:e s' with
      | none=>rfl
      | some y=>simp [hkill s' y hy]
 rw [henv] at h1
 refine ⟨h1.congr fun s' y _=>?_,fun j hj=>?_⟩
 · by_cases h2:s'=s
   · subst h2;rw [vadd_self]
   · rw [vadd_ne h2]
 · refine ⟨by simp only [Env.put,Env.kill];rw [if_neg (by omega),(hc j hj).1],fun s' y hy=>?_⟩
   simp only [Env.put,Env.kill] at hy
   split at hy
   · rw [hxs] at hy
     cases hy
     cases hh:x.hits j [] with
     | false=>rfl
     | true =>
      by_cases hjq:j=q
      · subst hjq;rw [hnq] at hh;cases hh
      · obtain ⟨t,ht⟩:=arep_root x _ hx hh
        rw [add_ne hjq,(hc j hj).1] at ht;cases ht
   · cases hes2:e s' with
     | none=>rw [hes2] at hy;cases hy
     | some z =>
      rw [hes2] at hy
      simp only at hy
      split at hy
      · cases hy
      · cases hy;exact (hc j hj).2 s' _ hes2

theorem revive_sound {cx:Cx} {e0:Env} {vl0 vl:Vl} {w w':World} {q:Nat} {us:List V} {gs:List Bool} {F:T} {e1:Env} (h0:R cx e0 vl0 w) (hd:∀ j,q≤j→e0 j=none) (hvl:∀ s,s<q→vl s=vl0 s)
 (hl:∀ r p sz off len,r<q→(leafOf us gs r p sz off len||(e1.tree r p).isSome)=true→nodeV w' (vl r) p=nodeV w (vl0 r) p) :
 ∀ (ks:List Nat) (e e3:Env),R cx (e.add q (.val F)) vl w'→Clr e q→e0.revive e1 e us gs ks=some e3→R cx (e3.add q (.val F)) vl w'∧Clr e3 q
 | [],e,e3,h,hc,hr=>by
  simp only [Env.revive,Option.some.injEq] at hr
  subst hr
  exact ⟨h,hc⟩
 | s::ks,e,e3,h,hc,hr=>by
  simp only [Env.revive] at hr
  split at hr
  · rename_i x h1 h2
    split at hr
    · rename_i hag
      have hsq:s<q:=by
       rcases Nat.lt_or_ge s q with h' | h'
       · exact h'
       · rw [hd s h'] at h1;cases h1
      have hx:arep cx.fm (okR cx (Own e0 vl0 w)) e0 vl0 w (vl0 s) x:=by
       rcases h0.rep s x h1 with ⟨t,rfl,_⟩ | h'
       · simp [Env.again] at hag
       · exact h'
      have hlt:∀ r t,e0 r=some (.val t)→r<q:=fun r t ht=>by
       rcases Nat.lt_or_ge r q with h' | h'
       · exact h'
       · rw [hd r h'] at ht;cases ht
      have hag2:arep cx.fm (okR cx (Own (e.add q (.val F)) vl w')) e vl w' (vl0 s) x:=again_arep (fun r p sz off len t ht hlf=>hl r p sz off len (hlt r t ht) hlf) x _ hx hag
      have hnq:∀ j,q≤j→x.hits j []=false:=fun j hj=>by
       cases hh:x.hits j [] with
       | false=>rfl
       | true=>obtain ⟨t,ht⟩:=arep_root x _ hag2 hh;rw [(hc j hj).1] at ht;cases ht
      have hx2:arep cx.fm (okR cx (Own (e.add q (.val F)) vl w')) (e.add q (.val F)) vl w' (vl s) x:=by
       rw [hvl s hsq]
       refine arep_gen (fun _ _ _ h=>h) x _ (fun r p hh=>?_) hag2
       have hne:r≠q:=fun e'=>by
        subst e'
        have h9:=hnq r (Nat.le_refl _)
        rw [isPrefixOf_trans_nil r p x hh] at h9;cases h9
       exact ⟨fun t k ts ht hp=>⟨t,ts,by rw [add_ne hne];exact ht,hp,rfl,rfl⟩,fun _ ks hks=>⟨ks,by rw [add_ne hne];exact hks,rfl⟩⟩
      obtain ⟨k1,k2⟩:=addName h hc hsq h2 hx2 (hnq q (Nat.le_refl _))
      exact revive_sound h0 hd hvl hl ks _ e3 k1 k2 hr
    · cases hr
  · exact revive_sound h0 hd hvl hl ks _ e3 h hc hr
  · cases hr

section
variable {P:Program} {cx:Cx} {nt:Nat} {Kt:Env→Prop} {o:Oper} {a:Act} {w:World} {e:Env} {d:Nat}

theorem land_last {e3:Env} {vl:Vl} {w':World} {F r:T} {n:Nat} {v:Value} (hs:a.tmps.size=nt) (hf:a.defers=[]) (h:R cx (e3.add nt (.val F)) vl w') (hc:Clr e3 nt) (hF:F.at [n]=some r) (hv:kid w' (vl nt) n=v)
 (hvl:∀ s,s<nt→vl s=vlA a s) (dst:Option Nat) (hd:∀ d,dst=some d→d<nt):Rel cx nt (e3.setD dst (.val r)) (a.put dst v) w':=by
 cases dst with
 | none =>
  have hne:∀ s x,e3 s=some x→s<nt:=fun s x hx=>by
   rcases Nat.lt_or_ge s nt with h' | h'
   · exact h'
   · rw [(hc s h').1] at hx;cases hx
  refine ⟨?_,fun j hj=>(hc j hj).1,by simpa [Act.put] using hs,hf⟩
  have hE:e3.setD none (.val r)=e3:=rfl
  rw [hE]
  refine h.sub (fun s x hx=>?_) (fun s x r' hx hr=>?_) (fun s x hx=>(hvl s (hne s x hx)).symm)
  · have:=hne s x hx
    rw [add_ne (by omega)];exact hx
  · have:r'≠nt:=fun e1=>by subst e1;rw [(hc r' (Nat.le_refl _)).2 s x hx] at hr;cases hr
    rw [add_ne this]
 | some d =>
  have hlt:=hd d rfl
  have h1:=h.movePart (r:=nt) (d:=nt+1) (i:=n) (p:=[]) (add_self ..) (by rw [add_ne (by omega)];exact (hc (nt+1) (by omega)).1) hF
  rw [setTree_add hc] at h1
  have h2:=h1.land (d:=d) (hc.add _) (by omega)
  have hdom:∀ j,nt≤j→(e3.put d (.val r)) j=none:=fun j hj=>by
   simp only [Env.put,Env.kill]
   rw [if_neg (by omega),(hc j hj).1]
  have hne:∀ s x,(e3.put d (.val r)) s=some x→s<nt:=fun s x hx=>by
   rcases Nat.lt_or_ge s nt with h' | h'
   · exact h'
   · rw [hdom s h'] at hx;cases hx
  have heq:∀ s,s≠nt→((e3.add nt (.val (F.setAt [n] .gone))).put d (.val r)) s=(e3.put d (.val r)) s:=fun s hsn=>by
   simp only [Env.put,Env.kill,add_ne hsn]
  refine ⟨?_,hdom,by simpa [Act.put] using hs,hf⟩
  rw [vlA_put (by rw [hs];exact hlt)]
  have hE:e3.setD (some d) (.val r)=e3.put d (.val r):=rfl
  rw [hE]
  refine h2.sub (fun s x hx=>?_) (fun s x r' hx hr=>?_) (fun s x hx=>?_)
  · have:=hne s x hx
    rw [heq s (by omega)];exact hx
  · have h3:r'≠nt:=fun e1=>by
     subst e1
     simp only [Env.put] at hx
     split at hx
     · simp only [V.hits] at hx;cases hx;simp [V.hits] at hr
     · simp only [Env.kill] at hx
       cases hes:e3 s with
       | none=>rw [hes] at hx;cases hx
       | some y =>
        rw [hes] at hx
        simp only at hx
        split at hx
        · cases hx
        · cases hx;rw [(hc r' (Nat.le_refl _)).2 s x hes] at hr;cases hr
    rw [heq r' h3]
  · have hs':=hne s x hx
    by_cases hsd:s=d
    · subst hsd
      rw [vadd_self,vadd_self,vadd_self,← hv]
      rfl
    · rw [vadd_ne hsd,vadd_ne hsd,vadd_ne (by omega)]
      exact (hvl s hs').symm

theorem wp_callm {G:Rl} (hG:∀ f args args' r,G f args args' r→Pact P cx.fm f args args' r) (hN:∀ b,¬cx.N b) (h:Rel cx nt e a w) {f:Opd} {f':Operand} {xs:List Opd} {gs:List Bool} {ks:List Nat} {ys:Array Operand} {ats:Array TypeId}
 (hop:o.op=.call ⟨.value f',ys,ats⟩) (hf:okOpd cx.fm f f'=true) (hxs:okOpds cx.fm xs ys.toList=true) (hd:∀ d,o.dst=some d→d<nt)
 {id:Nat} {caps ts ts':List T} {vs:List V} {r:T} {e1 e2 e3:Env} (he:e.opd f=some (.val (.fn id caps))) (hv:e.opds xs=some vs) (hw:e.wholes vs gs=true) (ht:e.takeL vs=some (ts,e1)) (hh:e1.holes vs gs=true)
 (hcall:G id (T.lendL ts++T.eryL .old caps) (ts'++T.eryL .old caps) r) (hl:ts'.length=ts.length) (hg:e1.gives vs gs ts'=some e2) (hrv:e.revive e1 e2 vs gs ks=some e3):∀ Qx:Exit→Act→World→Prop,o.wp P a w (fun a' w'=>∃ v,a'=a.put o.dst v∧Rel cx nt (e3.setD o.dst (.val r)) a' w') Qx:=by
 obtain ⟨hfn,hfr⟩:=h.opd hf he
 simp only [Mch.rep] at hfr
 obtain ⟨⟨cs,hfv,hcs⟩,hno,hcaps⟩:=hfr
 obtain ⟨g1,g2⟩:=h.opds xs ys.toList hxs hv
 have hav:=g2 (fun j=>(ys.map a.eval).getD j undef) 0 (fun j hj=>by
  simp only [Nat.zero_add,Array.getD_eq_getD_getElem?,List.getD_eq_getElem?_getD,Array.getElem?_map,List.getElem?_map,Array.getElem?_toList])
 obtain ⟨vl,hvl,⟨us,hus,husz,hus2⟩,hR,hc,hlen,hown⟩:=takeL_sound vs _ 0 nt e (vlA a) h.r h.clr (Nat.le_refl _) (arwL_of h.dom vs _ 0 hav) ht
 have husE:us=ys.map a.eval:=arr_eq (by simp only [Array.length_toList] at g1;rw [husz,g1];simp) fun j hj=>by
  have:=hus2 j (by omega)
  rw [this,Nat.zero_add]
 subst husE
 have hcaps2:repL cx.fm (okR cx (Own (e1.add nt (.val (.tup ts))) vl w)) w (fun j=>cs.getD j undef) 0 caps:=by
  rw [hfv] at hcaps
  exact repL_ok (fun k b hk _ ho=>okR_mono (hown b) ho) caps _ 0 (fun b hb=>by rw [cntL_noOwn w _ b caps 0 hno] at hb;omega) hcaps
 have hpact:=hG _ _ _ _ hcall
 obtain ⟨fn,p1,p2,p3⟩:=hpact.1
 have hcore:=callm_core hN hR hc hus hcs hno hcaps2 hpact hl
 have hrun:(execOp a.eval o).run P w=.ok (.enter (cx.fm id) (ys.map a.eval++cs)) w:=by
  have p2':fn.body≠none:=fun h0=>by rw [h0] at p2;cases p2
  have p3' : fn.name ≠ "runtime.NumGoroutine" := fun h0 => by rw [h0] at p3; simp at p3
  simp [execOp,hop,resolve,Deferred.ofValue,hfv,invoke,callFunc,p1,p2',p3']
 intro Qx
 unfold Oper.wp
 rw [hrun,Oper.upon_enter]
 refine Calls.mono hcore fun en w' hbk=>?_
 obtain ⟨v,rfl,fs,hfl,hfs,hR2,hnode⟩:=hbk
 have hvl2:∀ s,s<nt→vadd vl nt (.tuple ((ys.map a.eval).push v)) s=vlA a s:=fun s hs=>by rw [vadd_ne (by omega)];exact hvl s hs
 have hnode2:∀ r p,r<nt→e1.isHole r p=true→nodeV w' (vadd vl nt (.tuple ((ys.map a.eval).push v)) r) p=nodeV w (vlA a r) p:=fun r p hr hi=>by
  rw [vadd_ne (by omega),hvl r hr]
  cases p with
  | nil=>rfl
  | cons i p =>
   simp only [Env.isHole] at hi
   split at hi
   · rename_i htr
     obtain ⟨t,k1,k2⟩:=tree_some htr
     have:=hnode (i::p) r t _ k1 k2
     rw [hvl r hr] at this
     exact this
   · cases hi
 have hshp:∀ r p s ts t,e r=some (.val t)→t.at p=some (.mem .own s ts)→shp w (nodeV w (vlA a r) p) s ts.length:=fun r p s ts t k1 k2=>by
  have:=(focus p t _ (srep_val h.r k1) k2).1
  rw [rep_mem] at this
  exact this.1
 have hkid2:∀ j,j<vs.length→kid w' (vadd vl nt (.tuple ((ys.map a.eval).push v)) nt) j=(ys.map a.eval).getD j undef:=fun j hj=>by
  rw [vadd_self]
  simp only [kid,Array.getD_eq_getD_getElem?]
  rw [Array.getElem?_push,if_neg (by rw [husz];omega)]
 obtain ⟨F',k1,k2,k3⟩:=gives_sound vs gs ts' 0 e1 e2 _ hR2 hc (fun j x t hj hjt hlx=>by
  have hjl:j<ts'.length:=by
   rcases Nat.lt_or_ge j ts'.length with h' | h'
   · exact h'
   · rw [List.getElem?_eq_none h'] at hjt;cases hjt
  have hjt2:∃ u,ts[j]?=some u:=⟨_,List.getElem?_eq_getElem (by omega)⟩
  obtain ⟨u,hu⟩:=hjt2
  have:=hfs j u hu (takeL_get vs e ht j x u hj hu hlx)
  rw [Nat.zero_add]
  simp only [T.at,T.kids]
  rw [List.getElem?_append_left (by omega),this,hjt]
  rfl) (fun j x hj hgj=>by
  have hjl:j<vs.length:=by
   rcases Nat.lt_or_ge j vs.length with h' | h'
   · exact h'
   · rw [List.getElem?_eq_none h'] at hj;cases hj
  rw [Nat.zero_add,hkid2 j hjl]
  have hax:=arepL_get vs 0 j hav hj
  rw [Nat.zero_add] at hax
  exact fits_of h.dom hnode2 hshp x _ hax (wholes_get vs gs hw j x hj hgj) (holes_get vs gs hh j x hj hgj)) hg
 obtain ⟨k4,k5⟩:=revive_sound (vl:=vadd vl nt (.tuple ((ys.map a.eval).push v))) (us:=vs) (gs:=gs) h.r h.dom hvl2 (fun r p sz off len hr hlf=>by
  rcases Bool.or_eq_true _ _▸hlf with hlf | hlf
  · exact hnode2 r p hr (holes_leaf vs gs hh hlf)
  · obtain ⟨u,hu⟩:=Option.isSome_iff_exists.1 hlf
    obtain ⟨t,q1,q2⟩:=tree_some hu
    have:=hnode p r t u q1 q2
    rw [vadd_ne (by omega),hvl r hr]
    rw [hvl r hr] at this
    exact this) ks e2 e3 k1 k2 hrv
 have hn:F'.at [ts.length]=some r:=by
  rw [k3 ts.length (by omega)]
  simp only [T.at,T.kids]
  rw [List.getElem?_append_right (by omega),hfl]
  simp
 refine ⟨_,rfl,land_last h.size h.defers k4 k5 hn ?_ hvl2 o.dst hd⟩
 rw [vadd_self]
 simp only [kid,Array.getD_eq_getD_getElem?]
 rw [Array.getElem?_push,if_pos (by omega)]
 rfl

theorem good_callm {G:Rl} (hG:∀ f args args' r,G f args args' r→Pact P cx.fm f args args' r) (hN:∀ b,¬cx.N b) (h:Rel cx nt e a w) {f:Opd} {f':Operand} {xs:List Opd} {gs:List Bool} {ks:List Nat} {ys:Array Operand} {ats:Array TypeId}
 (hop:o.op=.call ⟨.value f',ys,ats⟩) (hf:okOpd cx.fm f f'=true) (hxs:okOpds cx.fm xs ys.toList=true) (hd:∀ d,o.dst=some d→d<nt)
 {id:Nat} {caps ts ts':List T} {vs:List V} {r:T} {e1 e2 e3:Env} (he:e.opd f=some (.val (.fn id caps))) (hv:e.opds xs=some vs) (hw:e.wholes vs gs=true) (ht:e.takeL vs=some (ts,e1)) (hh:e1.holes vs gs=true)
 (hcall:G id (T.lendL ts++T.eryL .old caps) (ts'++T.eryL .old caps) r) (hl:ts'.length=ts.length) (hg:e1.gives vs gs ts'=some e2) (hrv:e.revive e1 e2 vs gs ks=some e3) (hK:Kt (e3.setD o.dst (.val r))):Good P cx nt Kt o a w:=by
 intro Qx
 refine Oper.wp_mono (fun a' w' hq=>?_) (wp_callm hG hN h hop hf hxs hd he hv hw ht hh hcall hl hg hrv Qx)
 obtain ⟨v,_,h1⟩:=hq
 exact ⟨_,hK,h1⟩

theorem put_same {s:Nat} (hs:s<a.tmps.size):a.put (some s) (vlA a s)=a:=by
 have:a.tmps.setIfInBounds s (a.tmps.getD s undef)=a.tmps:=by
  apply Array.ext_getElem?
  intro j
  rw [Array.getElem?_setIfInBounds]
  by_cases hj:s=j
  · subst hj
    rw [if_pos rfl,if_pos hs,Array.getD_eq_getD_getElem?,Array.getElem?_eq_getElem hs]
    rfl
  · rw [if_neg hj]
 show { a with tmps:=a.tmps.setIfInBounds s (a.tmps.getD s undef) }=a
 rw [this]

theorem Rel.settle (h:Rel cx nt e a w) {s:Nat} {e':Env} (he:e.settle s=some e'):Rel cx nt e' a w:=by
 unfold Env.settle at he
 cases hs:e s with
 | none=>rw [hs] at he;cases he
 | some v =>
  rw [hs] at he
  simp only [Option.bind_some,Option.map_eq_some_iff] at he
  obtain ⟨⟨t,e1⟩,h1,rfl⟩:=he
  have hlt:s<nt:=by
   rcases Nat.lt_or_ge s nt with h' | h'
   · exact h'
   · rw [h.dom s h'] at hs;cases hs
  have hx:AR cx e a w (vlA a s) v:=by
   rcases h.r.rep s v hs with ⟨t',rfl,h2⟩ | h2
   · have hno:t'.noOwn=true:=by
      simp only [Env.take] at h1
      split at h1
      · assumption
      · cases h1
     exact ⟨hno,h2⟩
   · exact h2
  obtain ⟨vl,k1,k2,k3,k4⟩:=h.take hx h1
  have k5:=Rel.land h.size h.defers k3 k4 k1 hlt
  rw [k2,put_same (by rw [h.size];exact hlt)] at k5
  exact k5

theorem good_boxk {x':Operand} {ty:TypeId} {s:Nat} {ts:List T} (hN:∀ b,¬cx.N b) (h:Rel cx nt e a w) (hop:o.op=.box ty x') (ho:okOpd cx.fm (.t s) x'=true) (hd:o.dst=some d) (hlt:d<nt) (he:e s=some (.val (.agg ts))) (hsd:s≠d)
 (hcell:ts.all T.isCell=true) (hK:Kt (((e.del s).put d (.val (.mem .own none ts))).put s (.vagg (T.peekL d [] 0 ts)))):Good P cx nt Kt o a w:=by
 have hs:s<nt:=by
  rcases Nat.lt_or_ge s nt with h' | h'
  · exact h'
  · rw [h.dom s h'] at he;cases he
 have hx':a.eval x'=vlA a s:=by
  cases x' <;> simp only [okOpd] at ho <;> try cases ho
  simp only [beq_iff_eq] at ho
  subst ho
  rfl
 have hrep:=srep_val h.r he
 simp only [Mch.rep] at hrep
 obtain ⟨⟨cs,hcs,hcsz⟩,hrepL⟩:=hrep
 have h1:=h.r.moveRoot he (h.dom nt (Nat.le_refl _))
 have hc:Clr (e.del s) nt:=clr_clear (p:=[]) h.clr hs
 obtain ⟨h5,h6,_⟩:=h1.cells hc hcell
 have hval:vlA a s=.agg cs:=hcs
 rw [vadd_self,hval] at h5 h6
 simp only [Value.cells,T.cells] at h5 h6
 have h7:=h5.alloc (s:=none) (v':=.pointer (some ⟨w.heap.size,0,none⟩)) (arr:=cs) (elem:=ty) hc hN (vadd_self ..) (fun j hj=>by
  rw [Array.getD_eq_getD_getElem?,Array.getElem?_eq_getElem (by omega)]
  rfl) rfl rfl rfl (by simp [roomN,h6])
 have h8:=Rel.land (a:=a) h.size h.defers h7 hc (fun s hs=>by rw [vadd_ne (by omega),vadd_ne (by omega),vadd_ne (by omega)]) hlt
 rw [vadd_self] at h8
 have hsz2:s<(a.put (some d) (.pointer (some ⟨w.heap.size,0,none⟩))).tmps.size:=by
  simp only [Act.put,Array.size_setIfInBounds]
  rw [h.size];exact hs
 have hvs:vlA (a.put (some d) (.pointer (some ⟨w.heap.size,0,none⟩))) s=.agg cs:=by
  rw [vlA_put (by rw [h.size];exact hlt),vadd_ne hsd];exact hval
 have hed:((e.del s).put d (.val (.mem .own none ts))) d=some (.val (.mem .own none ts)):=by simp [Env.put,V.hits]
 have hrd:=srep_val h8.r hed
 rw [rep_mem] at hrd
 have hpk:=peekL_arep (vl:=vlA (a.put (some d) (.pointer (some ⟨w.heap.size,0,none⟩)))) hed ts [] (.mem .own none ts) rfl 0 (fun j u hj=>by simpa [T.kids] using hj) hrd.2.2.2.2
 have h9:=h8.put hs (v:=vlA (a.put (some d) (.pointer (some ⟨w.heap.size,0,none⟩))) s) (x:=.vagg (T.peekL d [] 0 ts)) (by
  simp only [AR,arep]
  refine ⟨⟨cs,hvs,by rw [hcsz,peekL_length]⟩,?_⟩
  refine arepL_congr _ 0 (fun j _ hj=>?_) hpk
  rw [peekL_length,Nat.zero_add] at hj
  simp only [nodeV]
  have hvd:vlA (a.put (some d) (.pointer (some ⟨w.heap.size,0,none⟩))) d=.pointer (some ⟨w.heap.size,0,none⟩):=by
   rw [vlA_put (by rw [h.size];exact hlt),vadd_self]
  rw [hvd,hvs]
  simp only [kid,Nat.zero_add]
  have:(w.alloc (.cells cs ty)).cell? ⟨w.heap.size,j,none⟩=some (cs.getD j undef):=by
   simp only [World.cell?,heap_alloc_at]
   rw [Array.getD_eq_getD_getElem?,Array.getElem?_eq_getElem (by omega)]
   rfl
  rw [this]
  rfl)
 rw [put_same hsz2] at h9
 refine good_value (v:=.pointer (some ⟨w.heap.size,0,none⟩)) (w':=w.alloc (.cells cs ty)) ?_ hK (by rw [hd];exact h9)
 simp only [execOp,hop,Instr.box,hx',hval]
 simp [newVar,newRow,Value.cells]

end
end Go.Mch
namespace Go.Mch
section
variable {P:Program} {cx:Cx} {nt:Nat} {Kt:Env→Prop} {o:Oper} {a:Act} {w:World} {e:Env}

theorem tree_nil {e:Env} {r:Nat} {t:T} (h:e.tree r []=some t):e r=some (.val t):=by
 unfold Env.tree at h
 split at h
 · rename_i u hu
   simp only [T.at,Option.some.injEq] at h
   rw [← h]
   exact hu
 · cases h
theorem tree_one {e:Env} {r i:Nat} {sz:Option Nat} {ts:List T} {t:T} (h:e r=some (.val (.mem .own sz ts))) (hi:ts[i]?=some t):e.tree r [i]=some t:=by
 unfold Env.tree
 rw [h]
 simp [T.at,T.kids,hi]
theorem take_row {e:Env} {r i ly:Nat} {sz:Option Nat} {ts us:List T} (h:e r=some (.val (.mem .own sz ts))) (hi:ts[i]?=some (.mem .own (some 1) us)) (hl:ly=us.length):e.take (.sref r [i] 1 0 ly)=some (.mem .own (some 1) us,e.setTree r [i] .gone):=by
 simp only [Env.take,tree_one h hi]
 subst hl
 simp [win,Env.clear]
theorem swp_eq {e:Env} {r i j s:Nat} {ts:List T} {A C:T} (er:e r=some (.val (.mem .own (some 1) ts))) (hsr:r≠s) (hij:i≠j) :
 (((e.setTree r [i] .gone).put s (.val C)).setTree r [j] .gone).setTree r [i] A=((e.setTree r [i] A).setTree r [j] .gone).put s (.val C):=by
 funext k
 by_cases hks:k=s
 · subst hks
   have hkr:k≠r:=fun h=>hsr h.symm
   simp [Env.setTree,Env.put,Env.kill,hkr,V.hits]
 · by_cases hkr:k=r
   · subst hkr
     simp [Env.setTree,Env.put,Env.kill,hks,V.hits,er,T.setAt,T.withKids,T.kids,List.set_comm _ _ hij]
   · simp only [Env.setTree,Env.put,Env.kill,if_neg hkr,if_neg hks]
     cases hek:e k with
     | none=>simp
     | some v =>
      simp only
      cases h1:v.hits r [i] <;> cases h2:v.hits r [j] <;> cases h3:v.hits s [] <;> simp [h1,h2,h3]
theorem good_stsw {x y:Opd} {x' y':Operand} {t:TypeId} {r i j lx ly s:Nat} {ts ui uj:List T} (h:Rel cx nt e a w) (hop:o.op=.store t x' y') (hsz:szOf P t=some 1)
 (hx:okOpd cx.fm x x'=true) (hy:okOpd cx.fm y y'=true) (hd:o.dst=none) (h1:e.opd x=some (.pref r [] i)) (h2:e.opd y=some (.sref r [j] 1 0 lx)) (hs:e s=some (.sref r [i] 1 0 ly)) (hsr:r≠s)
 (ht:e.tree r []=some (.mem .own (some 1) ts)) (hi:ts[i]?=some (.mem .own (some 1) ui)) (hj:ts[j]?=some (.mem .own (some 1) uj)) (hlx:lx=uj.length) (hly:ly=ui.length) (hij:i≠j)
 (hK:Kt (((e.setTree r [i] (.mem .own (some 1) uj)).setTree r [j] .gone).put s (.val (.mem .own (some 1) ui)))):Good P cx nt Kt o a w:=by
 have er:=tree_nil ht
 have hil:i<ts.length:=by
  rcases Nat.lt_or_ge i ts.length with h' | h'
  · exact h'
  · rw [List.getElem?_eq_none h'] at hi;cases hi
 have hse:e.settle s=some ((e.setTree r [i] .gone).put s (.val (.mem .own (some 1) ui))):=by
  unfold Env.settle
  rw [hs]
  simp only [Option.bind_some,take_row er hi hly,Option.map_some]
 have h':=h.settle hse
 have e1r:((e.setTree r [i] .gone).put s (.val (.mem .own (some 1) ui))) r=some (.val (.mem .own (some 1) (ts.set i .gone))):=by
  simp only [Env.put,if_neg hsr,Env.kill,setTree_self er]
  simp [V.hits,T.setAt,T.withKids,T.kids]
 have hj1:(ts.set i .gone)[j]?=some (.mem .own (some 1) uj):=by rw [List.getElem?_set_ne hij];exact hj
 have hax:=h.opd hx h1
 have hav:=h.opd hy h2
 simp only [AR,arep] at hax hav
 obtain ⟨t0,s0,ts0,k1,k2,k3,k4⟩:=hax
 obtain ⟨z0,t1,ts1,z1,z2,z3,z4⟩:=hav
 rw [er] at k1 z1
 cases k1
 cases z1
 simp only [T.at,Option.some.injEq] at k2
 cases k2
 simp only [T.at,T.kids,hj,Option.bind_some,Option.some.injEq] at z2
 cases z2
 refine good_stA (n:=none) (v:=.sref r [j] 1 0 lx) (t1:=.mem .own (some 1) uj) (e1:=((e.setTree r [i] .gone).put s (.val (.mem .own (some 1) ui))).setTree r [j] .gone) (r:=r) (p:=[]) (off:=i) (s:=some 1) (ts:=(ts.set i .gone).set j .gone) h' hop hsz hd ?_ ?_ (take_row e1r hj1 hlx) ?_ rfl ?_ rfl ?_
 · simp only [AR,arep]
   exact ⟨_,_,_,e1r,rfl,by simpa using k3,k4⟩
 · simp only [AR,arep]
   exact ⟨z0,_,_,e1r,by simp [T.at,T.kids,hj1],z3,z4⟩
 · simp only [Env.tree,setTree_self e1r]
   simp [T.at,T.setAt,T.withKids,T.kids]
 · simp only [T.cells,List.length_cons,List.length_nil,List.length_set];omega
 · simp only [T.cells,Env.puts,List.nil_append]
   rw [swp_eq er hsr hij]
   exact hK
theorem good_same {x y:Opd} {x' y':Operand} {t:TypeId} {r i lx:Nat} {ts ui:List T} (h:Rel cx nt e a w) (hop:o.op=.store t x' y') (hsz:szOf P t=some 1)
 (hx:okOpd cx.fm x x'=true) (hy:okOpd cx.fm y y'=true) (hd:o.dst=none) (h1:e.opd x=some (.pref r [] i)) (h2:e.opd y=some (.sref r [i] 1 0 lx))
 (ht:e.tree r []=some (.mem .own (some 1) ts)) (hi:ts[i]?=some (.mem .own (some 1) ui)) (hlx:lx=ui.length) (hK:Kt e):Good P cx nt Kt o a w:=by
 have er:=tree_nil ht
 have hil:i<ts.length:=by
  rcases Nat.lt_or_ge i ts.length with h' | h'
  · exact h'
  · rw [List.getElem?_eq_none h'] at hi;cases hi
 have hax:=h.opd hx h1
 have hav:=h.opd hy h2
 simp only [AR,arep] at hax hav
 obtain ⟨t0,s0,ts0,k1,k2,k3,k4⟩:=hax
 obtain ⟨z0,t1,ts1,z1,z2,z3,z4⟩:=hav
 have hn:=(focus [] _ _ (srep_val h.r er) rfl).1
 have hc:=(focus [i] _ _ (srep_val h.r er) (show T.at _ [i]=some (.mem .own (some 1) ui) by simp [T.at,T.kids,hi])).1
 rw [rep_mem] at hn hc
 obtain ⟨⟨⟨len0,n1,n2,_,n4⟩,_⟩,_,m3,_,_⟩:=hn
 obtain ⟨⟨⟨len1,c1,c2,_,_⟩,_⟩,_⟩:=hc
 obtain ⟨arr,elem,m4,m5⟩:=m3 rfl
 simp only [nodeV] at k4 z4 n1 n4 c1 m4 m5
 obtain ⟨o',w1,_,_,w4⟩:=z4
 have ho:=w4 (.inr rfl)
 have hv:a.eval y'=kid w (vlA a r) i:=by
  rw [w1,ho,c1]
  simp only [blk,ofs,capOf,Nat.zero_mul,Nat.add_zero,Nat.sub_zero]
  have:lx=len1:=by omega
  rw [this]
 have hfit:ofs (vlA a r)+i<arr.size:=by
  omega
 have hkid:kid w (vlA a r) i=arr[ofs (vlA a r)+i]:=by
  have h3:kid w (vlA a r) i=(w.cell? ⟨blk (vlA a r),ofs (vlA a r)+i,none⟩).getD undef:=(congrArg (fun u=>kid w u i) n1).trans rfl
  rw [h3]
  have hcell:w.cell? ⟨blk (vlA a r),ofs (vlA a r)+i,none⟩=some arr[ofs (vlA a r)+i]:=by simp only [World.cell?,m4];simp [hfit]
  rw [hcell]
  rfl
 have hcells:(a.eval y').cells=#[a.eval y']:=by rw [w1];rfl
 refine good_skip (e':=e) (w':=w) ?_ hK ?_
 · have hrun:=run_storeCells_at P (blk (vlA a r)) (ofs (vlA a r)+i) elem (a.eval y').cells.toList 0 arr w m4 (by rw [hcells];simp only [List.length_cons,List.length_nil];omega) (fun v hv=>by
    rw [hcells] at hv
    simp only [List.mem_singleton] at hv
    subst hv
    rw [w1];rfl)
   have hback:(arr.toList.take (ofs (vlA a r)+i+0)++(a.eval y').cells.toList++arr.toList.drop (ofs (vlA a r)+i+0+(a.eval y').cells.toList.length)).toArray=arr:=by
    rw [hcells,hv,hkid]
    apply Array.ext'
    have hl:ofs (vlA a r)+i<arr.toList.length:=by simpa using hfit
    have hd:=List.drop_eq_getElem_cons hl
    simp only [Nat.add_zero,List.length_cons,List.length_nil]
    have e2:arr.toList[ofs (vlA a r)+i]=arr[ofs (vlA a r)+i]:=by simp
    rw [e2] at hd
    rw [List.append_assoc]
    show arr.toList.take (ofs (vlA a r)+i)++(arr[ofs (vlA a r)+i]::arr.toList.drop (ofs (vlA a r)+i+1))=arr.toList
    rw [← hd,List.take_append_drop]
   rw [hback,setRow_self w _ arr elem (0,0) m4] at hrun
   have hcs:(a.eval y').cells.size=1:=by rw [hcells];rfl
   simp only [execOp,hop,Instr.storeAt,k4,Instr.sureAddr,storeVar,Sem.run_bind,Sem.run_pure,Result.andThen_ok,run_szOf hsz,hcs,ne_eq,not_true,if_false]
   rw [hrun]
   simp
 · rw [hd]
   exact h
end
end Go.Mch
namespace Go.Mch
section
variable {P:Program} {cx:Cx} {nt:Nat} {Kt:Env→Prop} {o:Oper} {a:Act} {w:World} {e:Env} {d:Nat}

theorem good_out {v:Value} {w':World} {K:Env→Prop} (hg:Good P cx nt K o a w) (hrun:(execOp a.eval o).run P w=.ok (.value v) w'):∃ e',K e'∧Rel cx nt e' (a.put o.dst v) w':=by
 have:=hg (fun _ _ _=>True)
 unfold Oper.wp at this
 rw [hrun] at this
 exact this

theorem cell_alloc {w:World} {arr:Array Value} {el:TypeId} {j:Nat} {u:Value} (h:arr[j]?=some u):(w.alloc (.cells arr el)).cell? ⟨w.heap.size,j,none⟩=some u:=by
 simp only [World.cell?,heap_alloc_at,h]
 rfl

theorem row_val {n:Nat} {rs:List T} {v:Value} (h:Rel cx nt e a w) (he:e n=some (.val (.mem .own (some 1) rs))) (hv:AR cx e a w v (.sref n [] 1 0 rs.length)):v=vlA a n:=by
 have hr:=srep_val h.r he
 rw [rep_mem] at hr
 obtain ⟨⟨⟨L,hL,hlen,_,_⟩,_⟩,_⟩:=hr
 simp only [AR,arep] at hv
 obtain ⟨_,t,ts,g1,g2,g3,o',g4,g5,g6,g7⟩:=hv
 have h0:=g7 (.inr rfl)
 simp only [nodeV] at g4 h0
 rw [Nat.zero_mul,Nat.add_zero] at h0
 rw [Nat.mul_one] at hlen
 rw [g4,h0,Nat.sub_zero,hlen]
 exact hL.symm

theorem good_bslk {x:Opd} {s n:Nat} {ps':Array (Nat×Operand)} {t el:TypeId} {rs:List T} (hN:∀ b,¬cx.N b) (h:Rel cx nt e a w) (hop:o.op=.buildSlice t n ps') (hel:elOf P t=some el) (hsz:szOf P el=some 1)
 (hz:(zeroOf P el).any (fun z=>z.length == 1)=true) (hn:n≤16777216) (hr:ps'.toList.map (·.1)=List.range n) (hps:okOpds cx.fm [x] (ps'.toList.map (·.2))=true) (hd:o.dst=some d) (hlt:d<nt)
 (h1:e.opd x=some (.sref s [] 1 0 rs.length)) (he:e s=some (.val (.mem .own (some 1) rs))) (hsd:s≠d)
 (hK:Kt (((e.del s).put d (.val (.mem .own (some 1) [.mem .own (some 1) rs]))).put s (.sref d [0] 1 0 rs.length))):Good P cx nt Kt o a w:=by
 have hs:s<nt:=by
  rcases Nat.lt_or_ge s nt with h' | h'
  · exact h'
  · rw [h.dom s h'] at he;cases he
 -- one part
 obtain ⟨y,hy⟩:∃ y,ps'.toList=[(0,y)]∧n=1:=by
  cases hp:ps'.toList with
  | nil=>rw [hp] at hps;simp [okOpds] at hps
  | cons p l =>
   cases l with
   | cons=>rw [hp] at hps;simp [okOpds] at hps
   | nil =>
    rw [hp] at hr
    cases n with
    | zero=>simp at hr
    | succ n =>
     cases n with
     | succ n =>
      have:=congrArg List.length hr
      simp at this
     | zero =>
      obtain ⟨i,y⟩:=p
      simp at hr
      exact ⟨y,by rw [hr],rfl⟩
 obtain ⟨hy,rfl⟩:=hy
 have hps2:=hps
 rw [hy] at hps2
 simp only [List.map_cons,List.map_nil,okOpds,Bool.and_true] at hps2
 have har:=h.opd hps2 h1
 have hval:=row_val h he har
 have hrep:=srep_val h.r he
 rw [rep_mem] at hrep
 obtain ⟨⟨⟨L,hL,hlen,_,_⟩,_⟩,_⟩:=hrep
 rw [Nat.mul_one] at hlen
 -- the run
 have hps3:ps'=#[(0,y)]:=by
  apply Array.toList_inj.1
  rw [hy]
 have hu:=elOf_spec hel
 obtain ⟨iz,hiz⟩:∃ i,P.info? el=some i:=by
  unfold szOf at hsz
  cases hi:P.info? el with
  | none=>rw [hi] at hsz;cases hsz
  | some i=>exact ⟨i,rfl⟩
 obtain ⟨z,hzv⟩:∃ z,iz.zero=some z:=by
  unfold zeroOf at hz
  rw [hiz] at hz
  cases hz':iz.zero with
  | none=>simp [hz'] at hz
  | some z=>exact ⟨z,rfl⟩
 generalize hzc:(Array.range (1*1)).map (z.cells[· % z.cells.size]!)=cells0
 have hc0:cells0.size=1:=by rw [← hzc];simp
 have hcell1:(a.eval y).cells=#[a.eval y]:=by rw [hval,hL];rfl
 obtain ⟨out,f1,f2,f3⟩:=fill_ones [(0,a.eval y)] 0 cells0 rfl (fun p hp=>by
  rw [List.mem_singleton] at hp
  subst hp
  exact hcell1) (by simp [hc0])
 have hout:out[0]?=some (a.eval y):=by
  rw [f3]
  simp
 have hrun:(execOp a.eval o).run P w=.ok (.value (.slice (some ⟨w.heap.size,0,none⟩) 1 1)) (w.alloc (.cells out el)):=by
  have hbig:¬(1*1>2 ^ 24):=by omega
  have hbs:(Instr.buildSlice t 1 #[(0,a.eval y)]).run P w=.ok (.slice (some ⟨w.heap.size,0,none⟩) 1 1) (w.alloc (.cells out el)):=by
   simp only [Instr.buildSlice,Sem.run_bind,run_und hu,Result.andThen_ok,run_szOf hsz]
   rw [if_neg hbig,if_neg (by omega)]
   simp only [Sem.run_bind,run_zero hiz hzv,Sem.run_pure,Result.andThen_ok]
   rw [hzc]
   rw [f1]
   simp [newRow]
  simp only [execOp,hop,hps3,List.map_toArray,List.map_cons,List.map_nil,Sem.run_bind,hbs,Result.andThen_ok,Sem.run_pure]
 have htk:e.takeL [.sref s [] 1 0 rs.length]=some ([.mem .own (some 1) rs],e.del s):=by
  simp [Env.takeL,Env.take,Env.tree,he,T.at,Env.clear,win]
 have hg:=good_bsl (Kt:=fun e'=>e'=(e.del s).setD (some d) (.val (.mem .own (some 1) [.mem .own (some 1) rs]))) hN h hop hel hsz hz hn hr hps hd hlt (vs:=[.sref s [] 1 0 rs.length]) (by simp [Env.opds,h1]) htk (by simp [T.isCell]) rfl
 obtain ⟨e',he',hrel⟩:=good_out hg hrun
 subst he'
 rw [hd] at hrel
 have hvs:vlA (a.put (some d) (.slice (some ⟨w.heap.size,0,none⟩) 1 1)) s=a.eval y:=by
  rw [vlA_put (by rw [h.size];exact hlt),vadd_ne hsd];exact hval.symm
 have hvd:vlA (a.put (some d) (.slice (some ⟨w.heap.size,0,none⟩) 1 1)) d=.slice (some ⟨w.heap.size,0,none⟩) 1 1:=by
  rw [vlA_put (by rw [h.size];exact hlt),vadd_self]
 have hed:((e.del s).setD (some d) (.val (.mem .own (some 1) [.mem .own (some 1) rs]))) d=some (.val (.mem .own (some 1) [.mem .own (some 1) rs])):=by simp [Env.setD,Env.put,V.hits]
 have hk:kid (w.alloc (.cells out el)) (.slice (some ⟨w.heap.size,0,none⟩) 1 1) 0=a.eval y:=by
  show ((w.alloc (.cells out el)).cell? ⟨w.heap.size,0+0,none⟩).getD undef=_
  rw [Nat.add_zero,cell_alloc hout]
  rfl
 have h9:=hrel.put hs (v:=vlA (a.put (some d) (.slice (some ⟨w.heap.size,0,none⟩) 1 1)) s) (x:=.sref d [0] 1 0 rs.length) (by
  simp only [AR,arep]
  refine ⟨by omega,_,rs,hed,rfl,by simp,?_⟩
  simp only [nodeV]
  rw [hvd,hvs,hk,hval]
  refine ⟨ofs (vlA a s),?_,?_,by simp,fun _=>by simp⟩
  · rw [Nat.sub_zero,hlen];exact hL
  · rename_i hcap
    simp only [Nat.zero_add,hlen]
    exact hcap)
 have hsz2:s<(a.put (some d) (.slice (some ⟨w.heap.size,0,none⟩) 1 1)).tmps.size:=by
  simp only [Act.put,Array.size_setIfInBounds]
  rw [h.size];exact hs
 rw [put_same hsz2] at h9
 exact good_value hrun hK (by rw [hd];exact h9)

theorem appk_fin {n yy len:Nat} {rs:List T} {zs:List T} {e1:Env} {v':Value} {w':World} (h:Rel cx nt e a w) (hd:o.dst=some d) (hlt:d<nt) (hn:e n=some (.sref yy [0] 1 0 rs.length)) (hnd:n≠d) (hlen:zs.length=len)
 (hg:Good P cx nt (fun e'=>e'=e1.setD (some d) (.val (.mem .own (some 1) (zs++[.mem .own (some 1) rs])))) o a w) (hrun:(execOp a.eval o).run P w=.ok (.value v') w') (hk:kid w' v' len=kid w (vlA a yy) 0)
 (hK:Kt ((e1.put d (.val (.mem .own (some 1) (zs++[.mem .own (some 1) rs])))).put n (.sref d [len] 1 0 rs.length))):Good P cx nt Kt o a w:=by
 have hs:n<nt:=by
  rcases Nat.lt_or_ge n nt with h' | h'
  · exact h'
  · rw [h.dom n h'] at hn;cases hn
 obtain ⟨e',he',hrel⟩:=good_out hg hrun
 subst he'
 rw [hd] at hrel
 have hal:arep cx.fm (okR cx (Own e (vlA a) w)) e (vlA a) w (vlA a n) (.sref yy [0] 1 0 rs.length):=by
  rcases h.r.rep n _ hn with ⟨t',h1,_⟩ | h2
  · cases h1
  · exact h2
 simp only [arep] at hal
 obtain ⟨_,t1,ts1,_,_,_,hw⟩:=hal
 have hvs:vlA (a.put (some d) v') n=vlA a n:=by
  rw [vlA_put (by rw [h.size];exact hlt),vadd_ne hnd]
 have hvd:vlA (a.put (some d) v') d=v':=by
  rw [vlA_put (by rw [h.size];exact hlt),vadd_self]
 have hed:(e1.setD (some d) (.val (.mem .own (some 1) (zs++[.mem .own (some 1) rs])))) d=some (.val (.mem .own (some 1) (zs++[.mem .own (some 1) rs]))):=by simp [Env.setD,Env.put,V.hits]
 have h9:=hrel.put hs (v:=vlA (a.put (some d) v') n) (x:=.sref d [len] 1 0 rs.length) (by
  simp only [AR,arep]
  refine ⟨by omega,_,rs,hed,?_,by simp,?_⟩
  · simp only [T.at,T.kids]
    rw [List.getElem?_append_right (by omega),hlen,Nat.sub_self]
    rfl
  · simp only [nodeV] at hw ⊢
    rw [hvd,hvs,hk]
    exact hw)
 have hsz2:n<(a.put (some d) v').tmps.size:=by
  simp only [Act.put,Array.size_setIfInBounds]
  rw [h.size];exact hs
 rw [put_same hsz2] at h9
 exact good_value hrun hK (by rw [hd];exact h9)

theorem good_appk {by_:Nat} {x y:Opd} {x' y':Operand} {t u el:TypeId} {p:V} {z:Option (List T)×Env} {e1:Env} {yy n:Nat} {rs:List T} (hN:∀ b,¬cx.N b) (h:Rel cx nt e a w)
 (hop:o.op=.call ⟨.builtin .append,#[x',y'],#[t,u]⟩) (hel:elOf P t=some el) (hsz:szOf P el=some 1) (hzo:(zeroOf P el).any (fun z=>z.length == 1)=true) (hby:byOf P el=some by_) (hb:by_≤32768*1)
 (hu:isSlice P u=true) (hx:okOpd cx.fm x x'=true) (hy:okOpd cx.fm y y'=true) (hd:o.dst=some d) (hlt:d<nt) (h1:e.opd x=some p) (h2:e.opd y=some (.sref yy [] 1 0 1)) (h3:e.base 1 p=some z)
 (h4:z.2.src true 1 (.sref yy [] 1 0 1)=some ([.mem .own (some 1) rs],e1)) (hn:e n=some (.sref yy [0] 1 0 rs.length)) (hnd:n≠d) (hl:(z.1.getD []).length+1≤roomy)
 (hK:Kt ((e1.put d (.val (.mem .own (some 1) (z.1.getD []++[.mem .own (some 1) rs])))).put n (.sref d [(z.1.getD []).length] 1 0 rs.length))):Good P cx nt Kt o a w:=by
 have hut:=elOf_spec hel
 obtain ⟨eu,heu⟩:=Option.isSome_iff_exists.1 hu
 have huu:=elOf_spec heu
 obtain ⟨i,hi,hisz⟩:∃ i,P.info? el=some i∧i.size=1:=by
  unfold szOf at hsz
  cases hi:P.info? el with
  | none=>rw [hi] at hsz;cases hsz
  | some i=>rw [hi] at hsz;exact ⟨i,rfl,by simpa using hsz⟩
 have hibt:i.bytes=by_:=by simpa [byOf,hi] using hby
 obtain ⟨zv,hzv⟩:∃ z,i.zero=some z:=by
  unfold zeroOf at hzo
  rw [hi] at hzo
  cases hz':i.zero with
  | none=>simp [hz'] at hzo
  | some z=>exact ⟨z,rfl⟩
 have hex:=h.opd hx h1
 have hey:=h.opd hy h2
 have hg:=good_app (Kt:=fun e'=>e'=e1.setD (some d) (.val (.mem .own (some 1) (z.1.getD []++[.mem .own (some 1) rs])))) hN h hop hel hsz hzo hby hb (by omega) hu hx hy hd hlt h1 h2 h3 h4 (by simpa using hl) (by simp [T.isCell]) (fun _ hh=>by cases hh) (fun hz _=>by rw [hz];rfl) (fun ts hz=>by rw [hz];rfl)
 -- the literal's one cell
 simp only [AR,arep] at hey
 obtain ⟨_,ty,tsy,y1,y2,y3,oy,y4,y5,y6,y7⟩:=hey
 simp only [T.at,Option.some.injEq] at y2
 subst y2
 have hry:=srep_val h.r y1
 rw [rep_mem] at hry
 have hcy:=cell_kid hry.1 (i:=0) (by omega)
 have ho:=y7 (.inr rfl)
 simp only [nodeV] at y4 ho
 rw [Nat.zero_mul,Nat.add_zero] at ho
 rw [Nat.add_zero,← ho] at hcy
 generalize hg0:kid w (vlA a yy) 0=g0 at hcy
 generalize hcapy:capOf (vlA a yy)-0=cy at y4
 have hcell1:g0.oneCell'=true:=by
  have hal:arep cx.fm (okR cx (Own e (vlA a) w)) e (vlA a) w (vlA a n) (.sref yy [0] 1 0 rs.length):=by
   rcases h.r.rep n _ hn with ⟨t',h1,_⟩ | h2
   · cases h1
   · exact h2
  simp only [arep] at hal
  obtain ⟨_,t1,ts1,q1,q2,_,_⟩:=hal
  rw [y1] at q1
  cases q1
  have q3:tsy[0]?=some (.mem .own (some 1) ts1):=by
   simp only [T.at,T.kids] at q2
   cases hq:tsy[0]? with
   | none=>rw [hq] at q2;cases q2
   | some c=>rw [hq] at q2;exact congrArg some (Option.some.inj q2)
  have:=repL_get tsy 0 0 hry.2.2.2.2 q3
  rw [Nat.add_zero,hg0] at this
  exact (isCell_oneCell this rfl).1
 have hfirst:∀ w1:World,(∀ ad,w1.cell? ad=w.cell? ad)→(Builtin.firstCells 1 1 (a.eval y')).run P w1=.ok [g0].toArray w1:=fun w1 hw1=>by
  rw [y4]
  refine run_firstCells_some w1 1 1 _ 1 cy [g0] (by simp) fun j v hj=>?_
  cases j with
  | succ j=>simp at hj
  | zero =>
   simp at hj
   subst hj
   rw [addr_add,Nat.add_zero,hw1]
   exact hcy
 have hlenY:∀ w1:World,(Builtin.lenOf (a.eval y')).run P w1=.ok 1 w1:=fun w1=>by rw [y4];rfl
 unfold Env.base at h3
 split at h3
 · -- onto nil
   cases h3
   have hvx:=ar_sc hex
   have hge:=grownCap_ge w (0+1) 0 el
   have hrun:=run_app_grow (P:=P) (w:=w) (ty:=o.type) (n:=0) (m:=1) (c:=0) (ad:=none) (vy:=a.eval y') (olds:=[]) (news:=[g0]) hut huu hi hzv (hlenY w) (run_firstCells_none ..)
    (by rw [hisz];exact hfirst w.drew fun _=>rfl) (by omega) (by omega) (by rw [hibt];exact fit_bytes (sz:=1) (by unfold roomy;omega) hb (by omega))
   refine appk_fin (len:=0) h hd hlt hn hnd rfl hg (v':=.slice (some ⟨w.heap.size,0,none⟩) (0+1) (grownCap w (0+1) 0 el)) (w':=w.drew.alloc (.cells (([]:List Value).toArray++[g0].toArray++Builtin.zeroCells zv.cells (grownCap w (0+1) 0 el-(0+1))) el)) ?_ ?_ hK
   · simp only [execOp,hop,resolve,invoke,builtin,List.map_toArray,List.map_cons,List.map_nil,hvx,Sem.run_bind,hrun,Result.andThen_ok,Sem.run_pure]
     try rfl
   · rw [hg0]
     show ((w.drew.alloc _).cell? ⟨w.drew.heap.size,0+0,none⟩).getD undef=_
     rw [Nat.add_zero,cell_alloc (u:=g0) (by
      rw [Array.getElem?_append_left (by simp)]
      simp)]
     rfl
 · -- onto own memory
   rename_i r pp sz0 off len
   split at h3
   · rename_i sz1 ts e' htake
     split at h3
     · rename_i hs1
       subst hs1
       cases h3
       simp only [Option.getD_some] at hl hg hK
       have htk:=htake
       simp only [Env.take] at htk
       split at htk
       · rename_i szr tsr htr
         split at htk
         · rename_i hcond
           obtain ⟨hc1,hc2,hc3⟩:=hcond
           simp only [Option.some.injEq,Prod.mk.injEq,T.mem.injEq,true_and] at htk
           obtain ⟨⟨hsz0,hts⟩,_⟩:=htk
           subst hsz0
           subst hc1
           simp only [Nat.mul_one] at hc2 hts
           have htl:ts.length=len:=by
            rw [← hts,win_length (by omega)]
           simp only [AR,arep] at hex
           obtain ⟨_,tr,tsx,x1,x2,x3,ox,x4,x5,x6,x7⟩:=hex
           have:e.tree r pp=some (.mem .own (some 1) tsx):=by simp [Env.tree,x1,x2]
           rw [htr] at this
           cases this
           have hnode:=(focus pp tr _ (srep_val h.r x1) x2).1
           rw [rep_mem] at hnode
           obtain ⟨k1,_,k3,_,_⟩:=hnode
           obtain ⟨arr,elem,harr,hrm⟩:=k3 rfl
           simp only [Nat.mul_one] at hrm x6 x7
           generalize hnv:nodeV w (vlA a r) pp=nv at *
           by_cases hfit:len+1≤capOf nv-off
           · have hox:=x7 (.inl (by omega))
             have hone:∀ v∈[g0],v.oneCell'=true:=fun v hv=>by
              rw [List.mem_singleton] at hv
              subst hv
              exact hcell1
             have hst:=run_storeCells_at P (blk nv) (ox+len) elem [g0] 0 arr w harr (by simp;omega) hone
             simp only [Nat.add_zero,List.length_singleton] at hst
             have hrun:=run_app_room (P:=P) (w:=w) (ty:=o.type) (n:=len) (m:=1) (c:=capOf nv-off) (ad:=⟨blk nv,ox,none⟩) (vy:=a.eval y') (news:=[g0]) hut huu hsz (hlenY w) (hfirst w fun _=>rfl) hfit (by rw [addr_add,Nat.mul_one];exact hst)
             rw [← x4] at hrun
             refine appk_fin (len:=len) h hd hlt hn hnd htl hg (v':=.slice (some ⟨blk nv,ox,none⟩) (len+1) (capOf nv-off)) (w':=w.setRow (blk nv) (arr.toList.take (ox+len)++[g0]++arr.toList.drop (ox+len+1)).toArray) ?_ ?_ (by rw [← htl];exact hK)
             · simp only [execOp,hop,resolve,invoke,builtin,List.map_toArray,List.map_cons,List.map_nil,Sem.run_bind,Sem.run_pure,Result.andThen_ok,hrun]
             · rw [hg0]
               show ((w.setRow (blk nv) _).cell? ⟨blk nv,ox+len,none⟩).getD undef=_
               have hh:=setRow_heap w (blk nv) arr (arr.toList.take (ox+len)++[g0]++arr.toList.drop (ox+len+1)).toArray elem (0,0) harr
               have hat:(arr.toList.take (ox+len)++[g0]++arr.toList.drop (ox+len+1)).toArray[ox+len]?=some g0:=by
                rw [List.getElem?_toArray,List.append_assoc,List.getElem?_append_right (List.length_take_le _ _),List.length_take,Nat.min_eq_left (by simp;omega),Nat.sub_self]
                rfl
               simp only [World.cell?,hh]
               rw [hat]
               rfl
           · have hge:=grownCap_ge w (len+1) (capOf nv-off) el
             have holds:(Builtin.firstCells 1 len (.slice (some ⟨blk nv,ox,none⟩) len (capOf nv-off))).run P w.drew=.ok ((List.range len).map fun j=>kid w nv (off+j)).toArray w.drew:=by
              refine run_firstCells_some w.drew 1 len _ len _ _ (by simp) fun j v hj=>?_
              rw [List.getElem?_map] at hj
              rcases Nat.lt_or_ge j len with hlt | hge
              · rw [List.getElem?_range hlt] at hj
                cases hj
                have hox:=x7 (.inl (by omega))
                have hck:=cell_kid k1 (i:=off+j) (by omega)
                rw [addr_add,hox,Nat.add_assoc]
                exact hck
              · rw [List.getElem?_eq_none (by simpa using hge)] at hj
                cases hj
             have hrun:=run_app_grow (P:=P) (w:=w) (ty:=o.type) (n:=len) (m:=1) (c:=capOf nv-off) (ad:=some ⟨blk nv,ox,none⟩) (vy:=a.eval y') (olds:=(List.range len).map fun j=>kid w nv (off+j)) (news:=[g0]) hut huu hi hzv (hlenY w) (by rw [hisz];exact holds)
              (by rw [hisz];exact hfirst w.drew fun _=>rfl) (by omega) (by unfold roomy at hl;omega) (by rw [hibt];exact fit_bytes (sz:=1) (by omega) hb (by omega))
             rw [← x4] at hrun
             refine appk_fin (len:=len) h hd hlt hn hnd htl hg (v':=.slice (some ⟨w.heap.size,0,none⟩) (len+1) (grownCap w (len+1) (capOf nv-off) el)) (w':=w.drew.alloc (.cells (((List.range len).map fun j=>kid w nv (off+j)).toArray++[g0].toArray++Builtin.zeroCells zv.cells (grownCap w (len+1) (capOf nv-off) el-(len+1))) el)) ?_ ?_ (by rw [← htl];exact hK)
             · simp only [execOp,hop,resolve,invoke,builtin,List.map_toArray,List.map_cons,List.map_nil,Sem.run_bind,Sem.run_pure,Result.andThen_ok,hrun]
             · rw [hg0]
               show ((w.drew.alloc _).cell? ⟨w.drew.heap.size,0+len,none⟩).getD undef=_
               rw [Nat.zero_add,cell_alloc (u:=g0) (by
                rw [Array.getElem?_append_left (by simp),Array.getElem?_append_right (by simp)]
                simp)]
               rfl
         · cases htk
       · cases htk
     · cases h3
   · cases h3
 · cases h3
end
end Go.Mch
namespace Go.Mch

theorem at_append (p q:List Nat):∀ t:T,t.at (p++q)=(t.at p).bind fun u=>u.at q:=by
 induction p with
 | nil=>intro t;simp [T.at]
 | cons i p ih =>
  intro t
  simp only [List.cons_append,T.at]
  cases t.kids[i]? with
  | none=>rfl
  | some c=>simp [ih c]
theorem tree_append {e:Env} {n:Nat} {p:List Nat} {t:T} (h:e.tree n p=some t) (q:List Nat):e.tree n (p++q)=t.at q:=by
 unfold Env.tree at h ⊢
 split at h
 · rw [at_append,h];rfl
 · cases h

def Lone (e:Env) (n:Nat):Prop:=∀ s x,s≠n→e s=some x→x.hits n []=false

theorem pre_snoc {p q:List Nat} (k:Nat) (h1:p.isPrefixOf q=false) (h2:q.isPrefixOf p=false):(p++[k]).isPrefixOf q=false∧q.isPrefixOf (p++[k])=false:=by
 have g1:¬p <+: q:=fun h=>by rw [← List.isPrefixOf_iff_prefix] at h;rw [h] at h1;cases h1
 have g2:¬q <+: p:=fun h=>by rw [← List.isPrefixOf_iff_prefix] at h;rw [h] at h2;cases h2
 constructor
 · cases hh:(p++[k]).isPrefixOf q with
   | false=>rfl
   | true =>
    rw [List.isPrefixOf_iff_prefix] at hh
    exact (g1 ((List.prefix_append p [k]).trans hh)).elim
 · cases hh:q.isPrefixOf (p++[k]) with
   | false=>rfl
   | true =>
    rw [List.isPrefixOf_iff_prefix,List.prefix_concat_iff] at hh
    rcases hh with hh | hh
    · subst hh;exact (g1 (List.prefix_append p [k])).elim
    · exact (g2 hh).elim
theorem lone_of {e e':Env} {n:Nat} (h:Lone e n) (he:∀ s,s≠n→e' s=e s):Lone e' n:=fun s x hs hx=>h s x hs (by rw [← he s hs];exact hx)

mutual
theorem take_peek {n:Nat}:∀ (t:T) (p:List Nat) (e:Env),t.movable=true→e.tree n p=some t→Lone e n→∃ e',e.take (t.peek n p)=some (t,e')∧(∀ s,s≠n→e' s=e s)∧∀ q,p.isPrefixOf q=false→q.isPrefixOf p=false→e'.tree n q=e.tree n q
 | .sc v,p,e,_,ht,_=>⟨e,by simp [T.peek,Env.take,T.noOwn],fun _ _=>rfl,fun _ _ _=>rfl⟩
 | .mem .own (some 1) ts,p,e,_,ht,hl=>by
  refine ⟨e.clear n p,by simp [T.peek,Env.take,ht,win],fun s hs=>?_,fun q h1 h2=>?_⟩
  · cases p with
    | nil =>
     simp only [Env.clear,Env.del,if_neg hs,Env.kill]
     cases hes:e s with
     | none=>rfl
     | some x=>simp [hl s x hs hes]
    | cons i p =>
     simp only [Env.clear,Env.setTree,if_neg hs,Env.kill]
     cases hes:e s with
     | none=>rfl
     | some x =>
      have:x.hits n (i::p)=false:=by
       cases hh:x.hits n (i::p) with
       | false=>rfl
       | true=>rw [← hl s x hs hes,isPrefixOf_trans_nil n _ x hh]
      simp [this]
  · cases p with
    | nil=>simp at h1
    | cons i p =>
     simp only [Env.clear,Env.tree,Env.setTree,if_true]
     cases hes:e n with
     | none=>rfl
     | some x =>
      cases x with
      | val t=>exact at_setAt_ne _ _ _ h1 h2
      | _=>rfl
 | .agg ts,p,e,hm,ht,hl=>by
  obtain ⟨e',h1,h2,h3⟩:=takeL_peek ts p 0 e (by simpa [T.movable] using hm) (fun j hj=>by rw [tree_append ht];simp [T.at,T.kids,hj]) hl
  refine ⟨e',by simp [T.peek,Env.take,h1],h2,fun q g1 g2=>h3 q fun j _=>pre_snoc _ g1 g2⟩
 | .tup ts,p,e,hm,ht,hl=>by
  obtain ⟨e',h1,h2,h3⟩:=takeL_peek ts p 0 e (by simpa [T.movable] using hm) (fun j hj=>by rw [tree_append ht];simp [T.at,T.kids,hj]) hl
  refine ⟨e',by simp [T.peek,Env.take,h1],h2,fun q g1 g2=>h3 q fun j _=>pre_snoc _ g1 g2⟩
 | .mem .own none _,_,_,h,_,_=>by simp [T.movable] at h
 | .mem .own (some 0) _,_,_,h,_,_=>by simp [T.movable] at h
 | .mem .own (some (_+2)) _,_,_,h,_,_=>by simp [T.movable] at h
 | .mem .fresh _ _,_,_,h,_,_=>by simp [T.movable] at h
 | .mem .old _ _,_,_,h,_,_=>by simp [T.movable] at h
 | .gone,_,_,h,_,_=>by simp [T.movable] at h
 | .nul,_,_,h,_,_=>by simp [T.movable] at h
 | .fn _ _,_,_,h,_,_=>by simp [T.movable] at h
 | .set _,_,_,h,_,_=>by simp [T.movable] at h
theorem takeL_peek {n:Nat}:∀ (ts:List T) (p:List Nat) (i:Nat) (e:Env),T.movableL ts=true→(∀ j (hj:j<ts.length),e.tree n (p++[i+j])=some ts[j])→Lone e n→∃ e',e.takeL (T.peekL n p i ts)=some (ts,e')∧(∀ s,s≠n→e' s=e s)∧∀ q,(∀ j,j<ts.length→(p++[i+j]).isPrefixOf q=false∧q.isPrefixOf (p++[i+j])=false)→e'.tree n q=e.tree n q
 | [],p,i,e,_,_,_=>⟨e,by simp [T.peekL,Env.takeL],fun _ _=>rfl,fun _ _=>rfl⟩
 | t::ts,p,i,e,hm,ht,hl=>by
  simp only [T.movableL,Bool.and_eq_true] at hm
  obtain ⟨e1,a1,a2,a3⟩:=take_peek t (p++[i]) e hm.1 (ht 0 (by simp)) hl
  have hl1:=lone_of hl a2
  obtain ⟨e2,b1,b2,b3⟩:=takeL_peek ts p (i+1) e1 hm.2 (fun j hj=>by
   rw [a3 _ (pre_sib (by omega)) (pre_sib (by omega)),show i+1+j=i+(j+1) from by omega,ht (j+1) (by simp;omega)]
   rfl) hl1
  refine ⟨e2,by simp [T.peekL,Env.takeL,a1,b1],fun s hs=>(b2 s hs).trans (a2 s hs),fun q hq=>?_⟩
  rw [b3 q fun j hj=>by rw [show i+1+j=i+(j+1) from by omega];exact hq (j+1) (by simp;omega)]
  exact a3 q (hq 0 (by simp)).1 (hq 0 (by simp)).2
end

theorem turn1_none {v:V} {u:T} (h:V.turn1 none v=some u):∃ t,v=.val t∧t.movable=true∧u=t:=by
 cases v with
 | val t =>
  simp only [V.turn1,T.turn1] at h
  split at h
  · rename_i hm;cases h;exact ⟨_,rfl,hm,rfl⟩
  · cases h
 | _=>cases h
theorem turn1_some {sz:Nat} {v:V} {u:T} (h:V.turn1 (some sz) v=some u):∃ ts,v=.val (.agg ts)∧T.movableL ts=true∧ts.length=sz∧ts.all T.isCell=true∧u=.mem .own (some sz) ts:=by
 cases v with
 | val t =>
  cases t with
  | agg ts =>
   simp only [V.turn1,T.turn1] at h
   split at h
   · rename_i hm;cases h;exact ⟨_,rfl,hm.1,hm.2.1,hm.2.2,rfl⟩
   · cases h
  | _=>cases h
 | _=>cases h
theorem scAt_some {i:Nat} {v:V} {z:Value} (h:v.scAt i=some z):∃ ts,v=.val (.tup ts)∧ts[i]?=some (.sc z):=by
 cases v with
 | val t =>
  cases t with
  | tup ts =>
   simp only [V.scAt] at h
   cases hg:ts[i]? with
   | none=>rw [hg] at h;cases h
   | some t =>
    rw [hg] at h
    cases t with
    | sc y=>simp only [Option.bind_some,scT,Option.some.injEq] at h;subst h;exact ⟨ts,rfl,hg⟩
    | _=>cases h
  | _=>cases h
 | _=>cases h
theorem peekL_get {s:Nat} {p:List Nat}:∀ (ts:List T) (k i:Nat),(T.peekL s p k ts)[i]?=(ts[i]?).map fun t=>t.peek s (p++[k+i])
 | [],k,i=>by simp [T.peekL]
 | t::ts,k,0=>by simp [T.peekL]
 | t::ts,k,i+1=>by
  simp only [T.peekL,List.getElem?_cons_succ]
  rw [peekL_get ts (k+1) i,show k+1+i=k+(i+1) from by omega]
theorem scAt_ext {s i:Nat} {ts:List T} {z:Value} (h:ts[i]?=some (.sc z)):extV i ((T.tup ts).peek s [])=some (.val (.sc z)):=by
 simp only [T.peek,extV]
 rw [peekL_get,h]
 rfl
theorem lone_kill {e:Env} {n:Nat} (h:e.kill n []=e):Lone e n:=fun s x _ hx=>by
 have:=congrFun h s
 simp only [Env.kill,hx] at this
 cases hh:x.hits n [] with
 | false=>rfl
 | true=>rw [hh] at this;simp at this
theorem del_ne {e:Env} {n s:Nat} (h:Lone e n) (hs:s≠n):(e.del n) s=e s:=by
 simp only [Env.del,if_neg hs,Env.kill]
 cases hes:e s with
 | none=>rfl
 | some x=>simp [h s x hs hes]
theorem rel_del {cx:Cx} {nt:Nat} {e e1:Env} {a:Act} {w:World} {n d:Nat} {t:T} (h:Rel cx nt (e1.put d (.val t)) a w) (h2:∀ s,s≠n→e1 s=e s) (hl:Lone e n):Rel cx nt ((e.del n).put d (.val t)) a w:=by
 have heq:∀ s,s≠n→((e.del n).put d (.val t)) s=(e1.put d (.val t)) s:=fun s hs=>by
  simp only [Env.put,Env.kill,del_ne hl hs,h2 s hs]
 have hsub:∀ s x,((e.del n).put d (.val t)) s=some x→(e1.put d (.val t)) s=some x:=fun s x hx=>by
  by_cases hs:s=n
  · by_cases hd:s=d
    · simp only [Env.put,if_pos hd,V.hits] at hx ⊢
      exact hx
    · subst hs
      simp only [Env.put,if_neg hd,Env.kill,Env.del,if_true] at hx
      cases hx
  · rw [← heq s hs];exact hx
 refine ⟨h.r.sub hsub (fun s x r hx hr=>?_) (fun _ _ _=>rfl),fun j hj=>?_,h.size,h.defers⟩
 · by_cases hd:s=d
   · simp only [Env.put,if_pos hd,V.hits] at hx
     cases hx
     simp [V.hits] at hr
   · have hsn:s≠n:=fun hs=>by
      subst hs
      simp only [Env.put,if_neg hd,Env.kill,Env.del,if_true] at hx
      cases hx
     refine heq r fun hrn=>?_
     subst hrn
     simp only [Env.put,if_neg hd,Env.kill,del_ne hl hsn] at hx
     cases hes:e s with
     | none=>rw [hes] at hx;cases hx
     | some y =>
      rw [hes] at hx
      simp only at hx
      split at hx
      · cases hx
      · cases hx
        rw [hl s _ hsn hes] at hr
        cases hr
 · cases hx:((e.del n).put d (.val t)) j with
   | none=>rfl
   | some x=>have:=hsub j x hx;rw [h.dom j hj] at this;cases this

section
variable {P:Program} {cx:Cx} {nt:Nat} {Kt:Env→Prop} {o:Oper} {a:Act} {w:World} {e:Env} {d:Nat}
theorem good_tkv {n:Nat} {y:Operand} {t:T} (h:Rel cx nt e a w) (hop:o.op=.move y∨o.op=.assign y) (ho:okOpd cx.fm (.t n) y=true) (hd:o.dst=some d) (hlt:d<nt) (he:e n=some (.val t)) (hm:t.movable=true) (hl:e.kill n []=e)
 (hK:Kt ((e.del n).setD (some d) (.val t))):Good P cx nt Kt o a w:=by
 have hln:=lone_kill hl
 obtain ⟨e1,t1,t2,_⟩:=take_peek t [] e hm (show e.tree n []=some t by simp [Env.tree,he,T.at]) hln
 have hpk:e.opd (.t n)=some (t.peek n []):=by simp [Env.opd,Env.peek,he]
 have h0:Good P cx nt (fun e'=>e'=e1.setD (some d) (.val t)) o a w:=by
  obtain ⟨vl,h1,h2,h3,h4⟩:=h.take (h.opd ho hpk) t1
  refine good_make h hd hlt ?_ h3 h4 h1 h2 rfl
  rcases hop with hop | hop <;> simp [execOp,hop]
 refine h0.turn fun e' a' w' he' hrel=>⟨_,hK,?_⟩
 subst he'
 exact rel_del hrel t2 hln
theorem good_bsg {n:Nat} {sz:Nat} {ps':Array (Nat×Operand)} {k:Nat} {t el:TypeId} {ts:List T} (hN:∀ b,¬cx.N b) (h:Rel cx nt e a w) (hop:o.op=.buildSlice t k ps') (hel:elOf P t=some el) (hsz:szOf P el=some sz) (hpos:0<sz)
 (hz:(zeroOf P el).any (fun z=>z.length == sz)=true) (hn:k*sz≤16777216) (hr:ps'.toList.map (·.1)=List.range k) (hps:okOpds cx.fm [.t n] (ps'.toList.map (·.2))=true) (hd:o.dst=some d) (hlt:d<nt)
 (he:e n=some (.val (.agg ts))) (hm:T.movableL ts=true) (hl:e.kill n []=e) (hlen:ts.length=sz) (hc:ts.all T.isCell=true)
 (hK:Kt ((e.del n).setD (some d) (.val (.mem .own (some sz) ts)))):Good P cx nt Kt o a w:=by
 have hln:=lone_kill hl
 obtain ⟨e1,t1,t2,_⟩:=take_peek (.agg ts) [] e (by simpa [T.movable] using hm) (show e.tree n []=some (.agg ts) by simp [Env.tree,he,T.at]) hln
 have hpk:e.opds [.t n]=some [(T.agg ts).peek n []]:=by simp [Env.opds,Env.opd,Env.peek,he]
 have h0:=good_bsls0 (Kt:=fun e'=>e'=e1.setD (some d) (.val (.mem .own (some sz) ([T.agg ts].flatMap T.cells)))) hN h hop hel hsz hpos hz hn hr hps hd hlt hpk (ts:=[.agg ts]) (e1:=e1) (by simp only [Env.takeL,t1];rfl) (by simp [T.cells,hlen,hc]) rfl
 refine h0.turn fun e' a' w' he' hrel=>⟨_,hK,?_⟩
 subst he'
 simp only [List.flatMap_cons,List.flatMap_nil,List.append_nil,T.cells] at hrel
 exact rel_del hrel t2 hln
end
end Go.Mch
namespace Go.Mch

theorem R.names {cx:Cx} {e1 e2:Env} {vl:Vl} {w:World} {n:Nat} {ts:List T} (h:R cx e1 vl w) (hn:e1 n=some (.val (.mem .own none ts))) (h1:∀ s x,e1 s=some x→e2 s=some x)
 (h2:∀ s x,e2 s=some x→e1 s=some x∨(x=.same n∧vl s=vl n)):R cx e2 vl w:=by
 have hval:∀ s t,e2 s=some (.val t)→e1 s=some (.val t):=fun s t ht=>by
  rcases h2 s _ ht with h3 | ⟨h3,_⟩
  · exact h3
  · cases h3
 have hown:∀ b,Own e2 vl w b→Own e1 vl w b:=fun b ⟨s,t,a1,a2⟩=>⟨s,t,hval s t a1,a2⟩
 refine ⟨h.keeps,?_,fun s x hx=>?_⟩
 · obtain ⟨who,hw⟩:=h.who
   exact ⟨who,fun s t ht b=>hw s t (hval s t ht) b⟩
 · rcases h2 s x hx with h3 | ⟨rfl,h4⟩
   · exact srep_gen (fun t _ ht=>rep_less hown ht) (fun v t _ ht=>rep_less hown ht) (fun r p hh=>⟨fun t k us ht hp=>⟨t,us,h1 _ _ ht,hp,rfl,rfl⟩,fun _ ks hks=>⟨ks,h1 _ _ hks,rfl⟩⟩) (h.rep s x h3)
   · exact .inr ⟨h4,.inr ⟨ts,h1 _ _ hn⟩⟩

theorem R.unname {cx:Cx} {e e':Env} {vl:Vl} {w:World} {n:Nat} {ts:List T} (h:R cx e vl w) (hn:e n=some (.val (.mem .own none ts))) (h1:∀ s t,e s=some (.val t)→e' s=some (.val t))
 (h2:∀ s x,e' s=some x→e s=some x∨(x=.pref n [] 0∧e s=some (.same n))):R cx e' vl w:=by
 have hval:∀ s t,e' s=some (.val t)→e s=some (.val t):=fun s t ht=>by
  rcases h2 s _ ht with h3 | ⟨h3,_⟩
  · exact h3
  · cases h3
 have hown:∀ b,Own e' vl w b→Own e vl w b:=fun b ⟨s,t,a1,a2⟩=>⟨s,t,hval s t a1,a2⟩
 have hst:∀ r p,Still e e' vl vl w w r p:=fun r p=>⟨fun t k us ht hp=>⟨t,us,h1 _ _ ht,hp,rfl,rfl⟩,fun _ ks hks=>⟨ks,h1 _ _ hks,rfl⟩⟩
 refine ⟨h.keeps,?_,fun s x hx=>?_⟩
 · obtain ⟨who,hw⟩:=h.who
   exact ⟨who,fun s t ht b=>hw s t (hval s t ht) b⟩
 · rcases h2 s x hx with h3 | ⟨rfl,h4⟩
   · exact srep_gen (fun t _ ht=>rep_less hown ht) (fun v t _ ht=>rep_less hown ht) (fun r p _=>hst r p) (h.rep s x h3)
   · have h5:vl s=vl n:=by
      rcases h.rep s _ h4 with ⟨t,h6,_⟩ | h6
      · cases h6
      · exact h6.1
     rw [h5]
     have h6:=srep_val h hn
     have h7:=peek_arep (vl:=vl) hn (.mem .own none ts) [] rfl h6
     exact .inr (arep_gen (fun v t _ ht=>rep_less hown ht) _ _ (fun r p _=>hst r p) h7)

section
variable {P:Program} {cx:Cx} {nt:Nat} {Kt:Env→Prop} {o:Oper} {a:Act} {w:World} {e:Env} {d:Nat}

theorem boxT_some {v:V} {ts:List T} (h:v.boxT=some ts):v=.val (.mem .own none ts):=by
 unfold V.boxT at h
 split at h
 · cases h;rfl
 · cases h
theorem sameR_some {v:V} {r:Nat} (h:v.sameR=some r):v=.same r:=by
 unfold V.sameR at h
 split at h
 · cases h;rfl
 · cases h
theorem fnId_some {v:V} {id:Nat} (h:v.fnId=some id):v=.val (.fn id []):=by
 unfold V.fnId at h
 split at h
 · cases h;rfl
 · cases h
theorem peek_same {t:T} {k n:Nat} (h:t.peek k []=.same n):∃ ks,t=.set ks∧k=n:=by
 unfold T.peek at h
 split at h
 · cases h
 · cases h
 · cases h
 · cases h
 · rename_i ks
   simp only [List.isEmpty_nil,if_true,V.same.injEq] at h
   exact ⟨ks,rfl,h⟩
 · cases h
theorem opd_same {x:Opd} {n:Nat} {ts:List T} (hn:e n=some (.val (.mem .own none ts))) (h:e.opd x=some (.same n)):∃ k,x=.t k∧e k=some (.same n):=by
 cases x with
 | t k =>
  refine ⟨k,rfl,?_⟩
  simp only [Env.opd,Env.peek] at h
  cases hek:e k with
  | none=>rw [hek] at h;cases h
  | some y =>
   rw [hek] at h
   cases y with
   | val t =>
    simp only [Option.some.injEq] at h
    obtain ⟨ks,rfl,rfl⟩:=peek_same h
    rw [hn] at hek;cases hek
   | _=>exact h
 | c v=>cases h
 | f id=>cases h
theorem opd_val {e':Env} (h1:∀ s t,e s=some (.val t)→e' s=some (.val t)) {x:Opd} {t:T} (h:e.opd x=some (.val t)):e'.opd x=some (.val t):=by
 cases x with
 | t k =>
  simp only [Env.opd,Env.peek] at h ⊢
  cases hek:e k with
  | none=>rw [hek] at h;cases h
  | some y =>
   rw [hek] at h
   cases y with
   | val t0=>rw [h1 k t0 hek];exact h
   | _=>cases h
 | c v=>exact h
 | f id=>exact h
theorem plain_some {v:V} {t:T} (h:v.plain=some t):v=.val t∧t.noOwn=true:=by
 cases v with
 | val u =>
  simp only [V.plain] at h
  split at h
  · rename_i hu;cases h;exact ⟨rfl,hu⟩
  · cases h
 | _=>cases h
theorem vals_spec {e':Env} (h1:∀ s t,e s=some (.val t)→e' s=some (.val t)):∀ (xs:List Opd) {us:List T},e.vals xs=some us→e'.opds xs=some (us.map .val)∧T.noOwnL us=true
 | [],us,h=>by simp only [Env.vals,Option.some.injEq] at h;subst h;exact ⟨rfl,rfl⟩
 | x::xs,us,h=>by
  simp only [Env.vals,Option.bind_eq_some_iff,Option.map_eq_some_iff] at h
  obtain ⟨v,h2,t,h3,ts,h4,rfl⟩:=h
  obtain ⟨rfl,h5⟩:=plain_some h3
  obtain ⟨h6,h7⟩:=vals_spec h1 xs h4
  refine ⟨?_,by simp [T.noOwnL,h5,h7]⟩
  simp only [Env.opds,opd_val h1 h2,Option.bind_some,h6,Option.map_some,List.map_cons]
theorem takeL_val:∀ (us:List T) (e:Env),T.noOwnL us=true→e.takeL (us.map .val)=some (us,e)
 | [],_,_=>rfl
 | t::us,e,h=>by
  simp only [T.noOwnL,Bool.and_eq_true] at h
  simp only [List.map_cons,Env.takeL,Env.take,h.1,if_true,Option.bind_some,takeL_val us e h.2,Option.map_some]
theorem wholes_off {e:Env}:∀ (us:List T),e.wholes (us.map .val) (us.map fun _=>false)=true
 | []=>rfl
 | v::vs=>by simp [wholes_off vs]
theorem holes_off {e:Env}:∀ (us:List T),e.holes (us.map .val) (us.map fun _=>false)=true
 | []=>rfl
 | v::vs=>by simp [holes_off vs]
theorem gives_off {e:Env}:∀ (us:List T),e.gives (us.map .val) (us.map fun _=>false) us=some e
 | []=>rfl
 | v::vs=>by simp only [List.map_cons,Env.gives,Bool.false_eq_true,if_false];exact gives_off vs
theorem nkill_spec {n:Nat} (h:e.nkill n=e) {s:Nat} {x:V} (hs:e s=some x):x.hits n []=false∨x=.same n:=by
 have h1:e.nkill n s=some x:=by rw [h];exact hs
 simp only [Env.nkill,hs] at h1
 split at h1
 · cases h1
 · rename_i h2
   simp only [Bool.and_eq_true,Bool.not_eq_true',not_and,Bool.not_eq_false] at h2
   cases hh:x.hits n [] with
   | false=>exact .inl rfl
   | true =>
    have h3:=h2 hh
    cases x with
    | same r=>simp only [V.isSame,beq_iff_eq] at h3;subst h3;exact .inr rfl
    | _=>cases h3

theorem good_mvs {n:Nat} {y:Operand} {ts:List T} (h:Rel cx nt e a w) (hop:o.op=.move y∨o.op=.assign y) (ho:okOpd cx.fm (.t n) y=true) (hd:o.dst=some d) (hlt:d<nt) (he:e n=some (.val (.mem .own none ts)))
 (hK:Kt (e.setD (some d) (.same n))):Good P cx nt Kt o a w:=by
 have hy:a.eval y=vlA a n:=by
  cases y <;> simp only [okOpd] at ho <;> try cases ho
  simp only [beq_iff_eq] at ho
  subst ho
  rfl
 refine good_read h hd hlt (v:=vlA a n) ?_ (x:=.same n) ⟨rfl,.inr ⟨ts,he⟩⟩ hK
 rcases hop with hop | hop <;> simp [execOp,hop,hy]

theorem good_calls {G:Rl} (hG:∀ f args args' r,G f args args' r→Pact P cx.fm f args args' r) (hN:∀ b,¬cx.N b) (h:Rel cx nt e a w) {f x:Opd} {f':Operand} {xs:List Opd} {n:Nat} {ys:Array Operand} {ats:Array TypeId}
 (hop:o.op=.call ⟨.value f',ys,ats⟩) (hf:okOpd cx.fm f f'=true) (hxs:okOpds cx.fm (x::xs) ys.toList=true) (hd:∀ d,o.dst=some d→d<nt)
 {id:Nat} {ts ts' us:List T} {r:T} (he:e.opd f=some (.val (.fn id []))) (hx:e.opd x=some (.same n)) (hn:e n=some (.val (.mem .own none ts))) (hu:e.vals xs=some us) (hdn:o.dst≠some n) (hk:e.nkill n=e)
 (hcall:G id (.mem .own none (T.lendL ts)::T.lendL us) (.mem .own none ts'::us) r) (hK:Kt ((e.over n (.mem .own none ts')).setD o.dst (.val r))):Good P cx nt Kt o a w:=by
 classical
 obtain ⟨k,rfl,hk1⟩:=opd_same hn hx
 have hkn:k≠n:=fun h0=>by subst h0;rw [hn] at hk1;cases hk1
 have hnt:n<nt:=by
  rcases Nat.lt_or_ge n nt with h' | h'
  · exact h'
  · rw [h.dom n h'] at hn;cases hn
 -- the frame in which slot k names the box
 obtain ⟨ef,hef⟩:∃ ef:Env,ef=fun s=>if e s=some (.same n) then (if s=k then some (.pref n [] 0) else none) else e s:=⟨_,rfl⟩
 have efv:∀ s t,e s=some (.val t)→ef s=some (.val t):=fun s t ht=>by
  rw [hef];simp only [ht];rw [if_neg (by simp)]
 have efk:ef k=some (.pref n [] 0):=by rw [hef];simp only [hk1,if_true]
 have hrel:Rel cx nt ef a w:=by
  refine ⟨h.r.unname hn efv fun s y hy=>?_,fun j hj=>?_,h.size,h.defers⟩
  · rw [hef] at hy
    simp only at hy
    split at hy
    · rename_i h3
      split at hy
      · cases hy;exact .inr ⟨rfl,h3⟩
      · cases hy
    · exact .inl hy
  · rw [hef]
    simp only [h.dom j hj]
    rw [if_neg (by simp)]
 obtain ⟨v1,v2⟩:=vals_spec efv xs hu
 have hfn:ef n=some (.val (.mem .own none ts)):=efv n _ hn
 have htree:ef.tree n []=some (.mem .own none ts):=by simp [Env.tree,hfn,T.at]
 have hopk:ef.opd (.t k)=some (.pref n [] 0):=by simp [Env.opd,Env.peek,efk]
 have hopds:ef.opds (.t k::xs)=some (.pref n [] 0::us.map .val):=by simp only [Env.opds,hopk,Option.bind_some,v1,Option.map_some]
 have hdn0:(ef.del n) n=none:=by simp [Env.del]
 intro Qx
 have hw:=wp_callm (ks:=[]) (gs:=true::us.map fun _=>false) (ts:=.mem .own none ts::us) (ts':=.mem .own none ts'::us) (caps:=[]) (e1:=ef.del n) (e2:=(ef.del n).put n (.val (.mem .own none ts'))) (e3:=(ef.del n).put n (.val (.mem .own none ts'))) (r:=r)
  hG hN hrel hop hf hxs hd (opd_val efv he) hopds (by simp [Env.wholes,Env.whole,htree,wholes_off]) (by
   simp only [Env.takeL,Env.take,htree,if_true,Option.bind_some,Env.clear,takeL_val us _ v2,Option.map_some]) (by simp [Env.holes,Env.hole,Env.isHole,holes_off])
  (by simpa [T.eryL] using hcall) (by simp) (by
   simp only [Env.gives,if_true,Env.give,Env.back1,hdn0,Option.bind_some]
   exact gives_off _) rfl Qx
 refine Oper.wp_mono (fun a' w' hq=>?_) hw
 obtain ⟨v,ha',h1⟩:=hq
 refine ⟨_,hK,?_⟩
 -- slot by slot
 have hA:∀ s,((ef.del n).put n (.val (.mem .own none ts'))) s=(e.over n (.mem .own none ts')) s∨(((ef.del n).put n (.val (.mem .own none ts'))) s=none∧(e.over n (.mem .own none ts')) s=some (.same n)∧e s=some (.same n)∧s≠n):=by
  intro s
  by_cases hs:s=n
  · subst hs
    left
    simp [Env.put,Env.over,V.hits]
  · simp only [Env.put,Env.over,if_neg hs,Env.kill,Env.del]
    cases hes:e s with
    | none =>
     left
     rw [hef]
     simp [hes]
    | some y =>
     rcases nkill_spec hk hes with h3 | rfl
     · left
       have h4:y≠.same n:=fun h0=>by subst h0;simp [V.hits] at h3
       rw [hef]
       simp only [hes,Option.some.injEq,h4,if_false,h3,Bool.false_eq_true]
     · right
       refine ⟨?_,rfl,rfl,hs⟩
       rw [hef]
       simp only [hes,if_true]
       by_cases hsk:s=k
       · simp [hsk,V.hits]
       · simp [hsk]
 have hvl:∀ s,o.dst≠some s→vlA a' s=vlA a s:=fun s hs=>by
  subst ha'
  cases hdst:o.dst with
  | none=>rfl
  | some d =>
   rw [vlA_put (by rw [h.size];exact hd d hdst),vadd_ne (fun h0=>hs (by rw [hdst,h0]))]
 have hB:∀ s,(((ef.del n).put n (.val (.mem .own none ts'))).setD o.dst (.val r)) s=((e.over n (.mem .own none ts')).setD o.dst (.val r)) s∨((((ef.del n).put n (.val (.mem .own none ts'))).setD o.dst (.val r)) s=none∧((e.over n (.mem .own none ts')).setD o.dst (.val r)) s=some (.same n)∧e s=some (.same n)∧o.dst≠some s):=by
  intro s
  cases hdst:o.dst with
  | none =>
   rcases hA s with h2 | ⟨h2,h3,h4,_⟩
   · exact .inl h2
   · exact .inr ⟨h2,h3,h4,by simp⟩
  | some d =>
   have hdn':d≠n:=fun h0=>hdn (by rw [hdst,h0])
   by_cases hsd:s=d
   · subst hsd
     left
     simp [Env.setD,Env.put,V.hits]
   · simp only [Env.setD]
     rw [show ∀ (E:Env) (x:V),(E.put d x) s=(match E s with | some v=>if v.hits d [] then none else some v | none=>none) from fun E x=>by simp only [Env.put,if_neg hsd,Env.kill];cases E s <;> rfl]
     rw [show ∀ (E:Env) (x:V),(E.put d x) s=(match E s with | some v=>if v.hits d [] then none else some v | none=>none) from fun E x=>by simp only [Env.put,if_neg hsd,Env.kill];cases E s <;> rfl]
     rcases hA s with h2 | ⟨h2,h3,h4,h5⟩
     · left;rw [h2]
     · right
       rw [h2,h3]
       refine ⟨rfl,?_,h4,fun h0=>hsd (by simpa using h0.symm)⟩
       have:(V.same n).hits d []=false:=by simp [V.hits,hdn']
       simp [this]
 have hn1:(((ef.del n).put n (.val (.mem .own none ts'))).setD o.dst (.val r)) n=some (.val (.mem .own none ts')):=by
  cases hdst:o.dst with
  | none=>simp [Env.setD,Env.put,V.hits]
  | some d =>
   have hdn':n≠d:=fun h0=>hdn (by rw [hdst,h0])
   simp [Env.setD,Env.put,V.hits,hdn',Env.kill]
 refine ⟨h1.r.names hn1 (fun s y hy=>?_) (fun s y hy=>?_),fun j hj=>?_,h1.size,h1.defers⟩
 · rcases hB s with h2 | ⟨h2,_⟩
   · rw [← h2];exact hy
   · rw [h2] at hy;cases hy
 · rcases hB s with h2 | ⟨h2,h3,h4,h5⟩
   · left;rw [h2];exact hy
   · right
     rw [h3] at hy
     cases hy
     refine ⟨rfl,?_⟩
     rw [hvl s h5,hvl n hdn]
     rcases h.r.rep s _ h4 with ⟨t,h6,_⟩ | h6
     · cases h6
     · exact h6.1
 · have h2:=h1.dom j hj
   rcases hB j with h3 | ⟨_,_,h3,_⟩
   · rw [← h3];exact h2
   · rw [h.dom j hj] at h3;cases h3
end
end Go.Mch
namespace Go.Mch

def okDst (nt:Nat) (q:Q) (d:Option Nat):Bool :=
 match q with
 | .st ..=>d.isNone
 | .stk ..=>d.isNone
 | .sts ..=>d.isNone
 | .stsw ..=>d.isNone
 | .call ..=>d.all (fun d=>decide (d<nt))
 | .callm ..=>d.all (fun d=>decide (d<nt))
 | .calls ..=>d.all (fun d=>decide (d<nt))
 | .freeze _=>false
 | .settle _=>false
 | .upd ..=>d.isNone
 | _=>d.any (fun d=>decide (d<nt))

section
variable {P:Program} {cx:Cx} {nt:Nat} {Kt:Env→Prop} {o:Oper} {a:Act} {w:World} {e:Env} {d:Nat} {G:Rl} {m:K}

theorem okDst_some {nt:Nat} {d:Option Nat} (h:d.any (fun d=>decide (d<nt))=true):∃ x,d=some x∧x<nt:=by
 cases d with
 | none=>simp at h
 | some x=>exact ⟨x,rfl,by simpa using h⟩

theorem arr1 {α:Type} {as:Array α} {l:List α} (h:as.toList=l):as=l.toArray:=by rw [← h]

theorem okSet_spec {t:TypeId} (h:okSet P t=true):∃ kt vt,P.underlying t=some (.map kt vt)∧P.underlying kt=some .string∧(P.info? vt).bind (·.zero)=some (.bool false):=by
 unfold okSet at h
 split at h
 · rename_i kt vt hu
   simp only [Bool.and_eq_true] at h
   obtain ⟨h1,h2⟩:=h
   split at h1
   · split at h2
     · exact ⟨kt,vt,hu,by assumption,by assumption⟩
     · cases h2
   · cases h1
 · cases h

theorem okTrue {fm:Nat→Nat} {v:Operand} (h:okOpd fm (.c (.bool true)) v=true):v=.const (.bool true):=by
 cases v <;> simp only [okOpd] at h <;> try cases h
 rename_i v'
 cases v' <;> simp_all [eqC]

theorem stepQ_sound (hG:∀ f args args' r,G f args args' r→Pact P cx.fm f args args' r) (hN:∀ b,¬cx.N b) (hm:m≠.own) (hm2:m=.fresh→∀ b,¬cx.M b) (h:Rel cx nt e a w)
 {q:Q} (hq:okQ P cx.fm q o.op=true) (hd:okDst nt q o.dst=true) (hs:stepQ G m o.dst q Kt e):Good P cx nt Kt o a w:=by
 generalize hop:o.op=op at hq
 unfold okQ at hq
 split at hq
 next x y =>
  obtain ⟨d,hdd,hlt⟩:=okDst_some hd
  simp only [stepQ,bindP,hdd] at hs
  obtain ⟨v,h1,hK⟩:=hs
  exact good_move h (.inl hop) hq hdd hlt h1 hK
 next x y =>
  obtain ⟨d,hdd,hlt⟩:=okDst_some hd
  simp only [stepQ,bindP,hdd] at hs
  obtain ⟨v,h1,hK⟩:=hs
  split at hK
  · exact good_move h (.inr hop) hq hdd hlt h1 hK
  · obtain ⟨y,h2,hK⟩:=hK
    exact good_asg h hop hq hdd hlt h1 h2 hK
 next x y =>
  obtain ⟨d,hdd,hlt⟩:=okDst_some hd
  simp only [stepQ,bindP,hdd] at hs
  obtain ⟨v,h1,h2,hK⟩:=hs
  exact good_move h (.inl hop) hq hdd hlt h1 hK
 next x y t x' y' =>
  have hdd:o.dst=none:=by simpa [okDst] using hd
  simp only [stepQ,bindP] at hs
  simp only [Bool.and_eq_true,beq_iff_eq] at hq
  obtain ⟨p,h1,v,h2,hK⟩:=hs
  split at hK
  · split at hK
    · rename_i h4
      obtain ⟨h5,hK⟩:=hK
      exact good_st (n:=none) h hop hq.1.1 hq.1.2 hq.2 hdd h1 h2 (t1:=.sc _) (e1:=e) rfl h4 rfl (by simp only [T.cells,List.length_cons,List.length_nil];omega) rfl hK
    · exact hK.elim
  · exact hK.elim
 next x y s t x' y' =>
  have hdd:o.dst=none:=by simpa [okDst] using hd
  simp only [stepQ,bindP] at hs
  simp only [Bool.and_eq_true,beq_iff_eq] at hq
  obtain ⟨av,h1,xv,h2,yv,h3,_,e',h4,hK⟩:=hs
  unfold Env.swp at h4
  split at h4
  · rename_i r i r1 j lx r2 i' ly
    split at h4
    · rename_i hc
      obtain ⟨rfl,rfl,rfl,hrs⟩:=hc
      split at h4
      · rename_i ts ht
        split at h4
        · rename_i ui uj hi hj
          split at h4
          · rename_i hl
            simp only [Option.some.injEq] at h4
            by_cases hij:i'=j
            · rw [if_pos hij] at h4
              subst h4
              subst hij
              exact good_same h hop hq.1.1 hq.1.2 hq.2 hdd h1 h2 ht hj hl.1 hK
            · rw [if_neg hij] at h4
              subst h4
              exact good_stsw h hop hq.1.1 hq.1.2 hq.2 hdd h1 h2 h3 hrs ht hi hj hl.1 hl.2 hij hK
          · cases h4
        · cases h4
      · cases h4
    · cases h4
  · cases h4
 next x y =>
  obtain ⟨d,hdd,hlt⟩:=okDst_some hd
  simp only [stepQ,bindP,hdd] at hs
  obtain ⟨v,h1,hK⟩:=hs
  exact good_move h (.inr hop) hq hdd hlt h1 hK
 next c x y c' x' y' =>
  obtain ⟨d,hdd,hlt⟩:=okDst_some hd
  simp only [stepQ,bindP,hdd] at hs
  simp only [Bool.and_eq_true] at hq
  obtain ⟨t,h1,v,h2,hK⟩:=hs
  exact good_pick h hop hq.1.1 hq.1.2 hq.2 hdd hlt h1 h2 hK
 next op x y op' t x' y' u =>
  obtain ⟨d,hdd,hlt⟩:=okDst_some hd
  simp only [stepQ,bindP,hdd] at hs
  simp only [Bool.and_eq_true,beq_iff_eq] at hq
  obtain ⟨p,h1,q,h2,v,h3,hK⟩:=hs
  obtain ⟨⟨rfl,hx⟩,hy⟩:=hq
  exact good_bin h hop hx hy hdd hlt h1 h2 h3 hK
 next neg x y op t x' y' u =>
  obtain ⟨d,hdd,hlt⟩:=okDst_some hd
  simp only [stepQ,bindP,hdd] at hs
  simp only [Bool.and_eq_true,beq_iff_eq] at hq
  obtain ⟨p,h1,q,h2,hK⟩:=hs
  obtain ⟨⟨⟨hn,ht⟩,hx⟩,hy⟩:=hq
  have ht':P.underlying t=some .bool:=by
   split at ht
   · assumption
   · cases ht
  exact good_beq h hop hn ht' hx hy hdd hlt h1 h2 hK
 next neg x op t x' y' u =>
  obtain ⟨d,hdd,hlt⟩:=okDst_some hd
  simp only [stepQ,bindP,hdd] at hs
  simp only [Bool.and_eq_true,beq_iff_eq] at hq
  obtain ⟨p,h1,hK⟩:=hs
  obtain ⟨⟨⟨hn,ht⟩,hx⟩,hy⟩:=hq
  exact good_isnil h hop hn ht hx hy hdd hlt h1 hK
 next op x op' t x' =>
  obtain ⟨d,hdd,hlt⟩:=okDst_some hd
  simp only [stepQ,bindP,hdd] at hs
  simp only [Bool.and_eq_true,beq_iff_eq] at hq
  obtain ⟨p,h1,v,h2,hK⟩:=hs
  obtain ⟨rfl,hx⟩:=hq
  exact good_un h hop hx hdd hlt h1 h2 hK
 next k x s t x' =>
  obtain ⟨d,hdd,hlt⟩:=okDst_some hd
  simp only [stepQ,bindP,hdd] at hs
  simp only [Bool.and_eq_true] at hq
  obtain ⟨n,h1,hK⟩:=hs
  obtain ⟨ht,hx⟩:=hq
  split at ht
  · rename_i hs' ht'
    simp only [beq_iff_eq] at ht
    subst ht
    exact good_conv h hop hs' ht' hx hdd hlt h1 hK
  · cases ht
 next x as ts =>
  obtain ⟨d,hdd,hlt⟩:=okDst_some hd
  simp only [stepQ,bindP,hdd] at hs
  split at hq
  · rename_i x' t has hts
    simp only [Bool.and_eq_true] at hq
    obtain ⟨n,h1,hK⟩:=hs
    exact good_len h (by rw [hop,arr1 has,arr1 hts]) hq.1 hq.2 hdd hlt h1 hK
  · cases hq
 next x as ts =>
  obtain ⟨d,hdd,hlt⟩:=okDst_some hd
  simp only [stepQ,bindP,hdd] at hs
  split at hq
  · rename_i x' t has hts
    simp only [Bool.and_eq_true] at hq
    obtain ⟨n,h1,hK⟩:=hs
    obtain ⟨ht,hx⟩:=hq
    have ht':P.underlying t=some .string:=by
     split at ht
     · assumption
     · cases ht
    exact good_slen h (by rw [hop,arr1 has,arr1 hts]) ht' hx hdd hlt h1 hK
  · cases hq
 next sz x i t x' i' =>
  obtain ⟨d,hdd,hlt⟩:=okDst_some hd
  simp only [stepQ,bindP,hdd] at hs
  simp only [Bool.and_eq_true,Option.any_eq_true,beq_iff_eq] at hq
  obtain ⟨p,h1,n,h2,v,h3,hK⟩:=hs
  obtain ⟨⟨⟨el,hel,hsz⟩,hx⟩,hi⟩:=hq
  exact good_idx h hop hel hsz hx hi hdd hlt h1 h2 h3 hK
 next x i t x' i' =>
  obtain ⟨d,hdd,hlt⟩:=okDst_some hd
  simp only [stepQ,bindP,hdd] at hs
  simp only [Bool.and_eq_true] at hq
  obtain ⟨p,h1,n,h2,hK⟩:=hs
  obtain ⟨⟨ht,hx⟩,hi⟩:=hq
  have ht':P.underlying t=some .string:=by
   split at ht
   · assumption
   · cases ht
  split at hK
  · obtain ⟨b,h3,hK⟩:=hK
    exact good_at h hop ht' hx hi hdd hlt h1 h2 h3 hK
  · exact hK.elim
 next off x t x' f =>
  obtain ⟨d,hdd,hlt⟩:=okDst_some hd
  simp only [stepQ,bindP,hdd] at hs
  simp only [Bool.and_eq_true,Option.any_eq_true,beq_iff_eq,bne_iff_ne,ne_eq] at hq
  obtain ⟨p,h1,v,h2,hK⟩:=hs
  obtain ⟨⟨fl,hf,rfl,n,hn,hn0⟩,hx⟩:=hq
  exact good_fld h hop hf hn hn0 hx hdd hlt h1 h2 hK
 next off n x t x' f =>
  obtain ⟨d,hdd,hlt⟩:=okDst_some hd
  simp only [stepQ,bindP,hdd] at hs
  simp only [Bool.and_eq_true,Option.any_eq_true,beq_iff_eq] at hq
  obtain ⟨p,h1,v,h2,hK⟩:=hs
  obtain ⟨⟨fl,hf,rfl,hn⟩,hx⟩:=hq
  exact good_fldv h hop hf hn hx hdd hlt h1 h2 hK
 next n x t x' =>
  obtain ⟨d,hdd,hlt⟩:=okDst_some hd
  simp only [stepQ,bindP,hdd] at hs
  simp only [Bool.and_eq_true] at hq
  obtain ⟨p,h1,v,h2,hK⟩:=hs
  exact good_ld h hop hq.1 hq.2 hdd hlt h1 h2 hK
 next n x y t x' y' =>
  have hdd:o.dst=none:=by simpa [okDst] using hd
  simp only [stepQ,bindP] at hs
  simp only [Bool.and_eq_true,beq_iff_eq] at hq
  obtain ⟨p,h1,v,h2,z,h3,hK⟩:=hs
  split at hK
  · split at hK
    · rename_i h4
      obtain ⟨⟨h5,h6,h7⟩,hK⟩:=hK
      exact good_st h hop hq.1.1 hq.1.2 hq.2 hdd h1 h2 h3 h4 h5 h6 h7 hK
    · exact hK.elim
  · exact hK.elim
 next k n x y t x' y' =>
  have hdd:o.dst=none:=by simpa [okDst] using hd
  simp only [stepQ,bindP] at hs
  simp only [Bool.and_eq_true,beq_iff_eq] at hq
  obtain ⟨u,_,p,h1,v,h2,_,z,h3,hK⟩:=hs
  split at hK
  · split at hK
    · rename_i h4
      obtain ⟨⟨h5,h6,h7⟩,hK⟩:=hK
      exact good_st h hop hq.1.1 hq.1.2 hq.2 hdd h1 h2 h3 h4 h5 h6 h7 hK
    · exact hK.elim
  · exact hK.elim
 next x x' =>
  obtain ⟨d,hdd,hlt⟩:=okDst_some hd
  simp only [stepQ,bindP,hdd] at hs
  obtain ⟨p,h1,hK⟩:=hs
  split at hK
  · exact good_nilck h hop hq hdd hlt h1 (.inl ⟨_,_,_,rfl⟩) hK
  · exact good_nilck h hop hq hdd hlt h1 (.inr ⟨_,_,rfl⟩) hK
  · exact hK.elim
 next zs t =>
  obtain ⟨d,hdd,hlt⟩:=okDst_some hd
  simp only [stepQ,hdd] at hs
  exact good_alloc hN h hop hq hdd hlt hs
 next x t x' =>
  obtain ⟨d,hdd,hlt⟩:=okDst_some hd
  simp only [stepQ,bindP,hdd] at hs
  obtain ⟨v,h1,z,h2,h3,hK⟩:=hs
  exact good_box hN h hop hq hdd hlt h1 h2 h3 hK
 next zs ps t ps' =>
  obtain ⟨d,hdd,hlt⟩:=okDst_some hd
  simp only [stepQ,bindP,hdd] at hs
  simp only [Bool.and_eq_true] at hq
  obtain ⟨vps,h1,vs,h2,hK⟩:=hs
  obtain ⟨hz,hu⟩:=hq
  split at hu
  · rename_i fs hu'
    simp only [Bool.and_eq_true] at hu
    exact good_build h hop hz hu' hu.1 hu.2 hdd hlt h1 h2 hK
  · rename_i el hu'
    obtain ⟨sz, hsz, hp⟩ := Option.any_eq_true _ _ |>.mp hu
    exact good_buildA h hop hz hu' hsz hp hdd hlt h1 h2 hK
  · cases hu
 next z n t l c =>
  obtain ⟨d,hdd,hlt⟩:=okDst_some hd
  simp only [stepQ,bindP,hdd] at hs
  simp only [Bool.and_eq_true,Option.any_eq_true,beq_iff_eq,decide_eq_true_eq] at hq
  obtain ⟨k,h1,⟨h2,h3⟩,hK⟩:=hs
  obtain ⟨⟨⟨el,hel,⟨hsz,hz⟩,b,hb,hb2⟩,hl⟩,hc⟩:=hq
  exact good_mks hN h hop hel hsz (by rw [Option.any_eq_true];exact hz) hb hb2 hl hc hdd hlt h1 h2 h3 hK
 next ps t n ps' =>
  obtain ⟨d,hdd,hlt⟩:=okDst_some hd
  simp only [stepQ,bindP,hdd] at hs
  simp only [Bool.and_eq_true,Option.any_eq_true,beq_iff_eq,decide_eq_true_eq] at hq
  obtain ⟨vs,h1,y,h2,h3,hK⟩:=hs
  obtain ⟨⟨⟨⟨el,hel,hsz,hz⟩,hn⟩,hr⟩,hps⟩:=hq
  exact good_bsl hN h hop hel hsz (by rw [Option.any_eq_true];obtain ⟨z,hz1,hz2⟩:=hz;exact ⟨z,hz1,by simpa using hz2⟩) hn hr hps hdd hlt h1 h2 h3 hK
 next mv sz x y as ts =>
  obtain ⟨d,hdd,hlt⟩:=okDst_some hd
  simp only [stepQ,bindP,hdd] at hs
  split at hq
  · rename_i x' y' t u has hts
    simp only [Bool.and_eq_true,Option.any_eq_true,beq_iff_eq,decide_eq_true_eq] at hq
    obtain ⟨p,h1,q,h2,z,h3,u',h4,⟨h5,h6⟩,hK⟩:=hs
    obtain ⟨⟨⟨⟨⟨el,hel,⟨hsz,hz⟩,b,hb,hb2⟩,hpos⟩,hu⟩,hx⟩,hy⟩:=hq
    refine good_app hN h (by rw [hop,arr1 has,arr1 hts]) hel hsz (by rw [Option.any_eq_true];obtain ⟨z,hz1,hz2⟩:=hz;exact ⟨z,hz1,by simpa using hz2⟩) hb hb2 hpos hu hx hy hdd hlt h1 h2 h3 h4 h5 h6 (fun hz he=>?_) (fun hz he=>?_) (fun ts hz=>?_)
    · rw [hz] at hK;exact hK.1 he
    · rw [hz] at hK;exact hK.2 he
    · rw [hz] at hK;exact hK
  · cases hq
 next sz x lo hi t x' lo' hi' =>
  obtain ⟨d,hdd,hlt⟩:=okDst_some hd
  simp only [stepQ,bindP,hdd] at hs
  simp only [Bool.and_eq_true,Option.any_eq_true,beq_iff_eq,decide_eq_true_eq] at hq
  obtain ⟨p,h1,l,h2,hh,h3,v,h4,hK⟩:=hs
  obtain ⟨⟨⟨⟨⟨el,hel,hsz⟩,hpos⟩,hx⟩,hlo⟩,hhi⟩:=hq
  exact good_sl h hop hel hsz hpos hx hlo hhi hdd hlt h1 h2 h3 h4 hK
 next x i x' i' =>
  obtain ⟨d,hdd,hlt⟩:=okDst_some hd
  simp only [stepQ,bindP,hdd] at hs
  simp only [Bool.and_eq_true,beq_iff_eq] at hq
  obtain ⟨p,h1,v,h2,hK⟩:=hs
  obtain ⟨rfl,hx⟩:=hq
  exact good_ext h hop hx hdd hlt h1 h2 hK
 next f caps g first caps' =>
  obtain ⟨d,hdd,hlt⟩:=okDst_some hd
  simp only [stepQ,bindP,hdd] at hs
  simp only [Bool.and_eq_true,beq_iff_eq,List.isEmpty_iff] at hq
  obtain ⟨y,h1,hK⟩:=hs
  exact good_fnc hN hm hm2 h (by rw [hop,arr1 hq.2]) hq.1.1 hq.1.2 hdd hlt h1 hK
 next f x g first caps' =>
  obtain ⟨d,hdd,hlt⟩:=okDst_some hd
  simp only [stepQ,bindP,hdd] at hs
  simp only [Bool.and_eq_true,beq_iff_eq,List.isEmpty_iff] at hq
  obtain ⟨v,h1,r,h2,hK⟩:=hs
  exact good_fncl h (by rw [hop,arr1 hq.2]) hq.1.1 hq.1.2 hdd hlt h1 h2 hK
 next f args f' args' ats =>
  simp only [okDst] at hd
  simp only [stepQ,bindP] at hs
  simp only [Bool.and_eq_true] at hq
  obtain ⟨fv,h1,hK⟩:=hs
  split at hK
  · obtain ⟨ts,h2,ts',r,h3,h4,h5,e',h6,hK⟩:=hK
    exact good_call (fun f args args' r _ hg=>hG f args args' r hg) hN h hop hq.1.1 hq.1.2 hq.2 (fun d hdd=>by rw [hdd] at hd;simpa using hd) h1 h2 h3 (fun hl=>(h5 hl).1) h6 hK
  · exact hK.elim
 next f args ks f' args' ats =>
  simp only [okDst] at hd
  simp only [stepQ,bindP] at hs
  simp only [Bool.and_eq_true] at hq
  obtain ⟨fv,h1,hK⟩:=hs
  split at hK
  · obtain ⟨vs,h2,h3,y,h4,h5,ts',r,h6,h7,e2,h8,e3,h9,hK⟩:=hK
    exact good_callm hG hN h hop hq.1 hq.2 (fun d hdd=>by rw [hdd] at hd;simpa using hd) h1 h2 h3 h4 h5 h6 h7 h8 h9 hK
  · exact hK.elim
 next s t x' =>
  obtain ⟨d,hdd,hlt⟩:=okDst_some hd
  simp only [stepQ,bindP,hdd] at hs
  obtain ⟨v,h1,hK⟩:=hs
  split at hK
  · rename_i ts d' hd'
    cases hd'
    obtain ⟨⟨h2,h3⟩,hK⟩:=hK
    exact good_boxk hN h hop hq hdd hlt h1 h2 h3 hK
  · exact hK.elim
 next x s t n ps' =>
  obtain ⟨d,hdd,hlt⟩:=okDst_some hd
  simp only [stepQ,bindP,hdd] at hs
  simp only [Bool.and_eq_true,Option.any_eq_true,beq_iff_eq,decide_eq_true_eq] at hq
  obtain ⟨⟨⟨⟨el,hel,hsz,hz⟩,hn⟩,hr⟩,hps⟩:=hq
  obtain ⟨v,h1,u,h2,hK⟩:=hs
  split at hK
  · rename_i r l rs d' hd'
    cases hd'
    obtain ⟨⟨h3,h4,h5⟩,hK⟩:=hK
    subst h3
    subst h4
    exact good_bslk hN h hop hel hsz (by rw [Option.any_eq_true];obtain ⟨z,hz1,hz2⟩:=hz;exact ⟨z,hz1,by simpa using hz2⟩) hn hr hps hdd hlt h1 h2 h5 hK
  · exact hK.elim
 next x y s as ts =>
  obtain ⟨d,hdd,hlt⟩:=okDst_some hd
  split at hq
  · rename_i x' y' t u has hts
    simp only [stepQ,bindP,hdd] at hs
    simp only [Bool.and_eq_true,Option.any_eq_true,beq_iff_eq,decide_eq_true_eq] at hq
    obtain ⟨p,h1,q,h2,z,h3,u',h4,v,h5,hK⟩:=hs
    split at hK
    · rename_i yy yy' l rs d' hu' hd'
      cases hd'
      obtain ⟨⟨k1,k2,k3,k4⟩,hK⟩:=hK
      subst k1
      subst k2
      obtain ⟨us,e1⟩:=u'
      simp only at hu' hK
      subst hu'
      obtain ⟨⟨⟨⟨⟨el,hel,⟨hsz,hz⟩,b,hb,hb2⟩,_⟩,hu⟩,hx⟩,hy⟩:=hq
      exact good_appk hN h (by rw [hop,arr1 has,arr1 hts]) hel hsz (by rw [Option.any_eq_true];obtain ⟨z,hz1,hz2⟩:=hz;exact ⟨z,hz1,by simpa using hz2⟩) hb hb2 hu hx hy hdd hlt h1 h2 h3 h4 h5 k3 k4 hK
    · exact hK.elim
  · cases hq
 next mx x y b as ts =>
  obtain ⟨d,hdd,hlt⟩:=okDst_some hd
  simp only [stepQ,bindP,hdd] at hs
  simp only [Bool.and_eq_true,beq_iff_eq] at hq
  obtain ⟨hb,hq⟩:=hq
  split at hq
  · rename_i x' y' has
    simp only [Bool.and_eq_true] at hq
    obtain ⟨p,h1,q,h2,v,h3,hK⟩:=hs
    exact good_mm h (by rw [hop,arr1 has]) hb hq.1 hq.2 hdd hlt h1 h2 h3 hK
  · cases hq
 next x as ts =>
  obtain ⟨d,hdd,hlt⟩:=okDst_some hd
  simp only [stepQ,bindP,hdd] at hs
  split at hq
  · rename_i x' t has hts
    simp only [Bool.and_eq_true] at hq
    obtain ⟨p,h1,v,h2,hK⟩:=hs
    exact good_cap0 h (by rw [hop,arr1 has,arr1 hts]) hq.1 hq.2 hdd hlt h1 h2 hK
  · cases hq
 next x s t x' =>
  obtain ⟨d,hdd,hlt⟩:=okDst_some hd
  simp only [stepQ,bindP,hdd] at hs
  simp only [Bool.and_eq_true,Option.any_eq_true] at hq
  obtain ⟨⟨el,hel,hm'⟩,hx⟩:=hq
  obtain ⟨p,h1,v,h2,hK⟩:=hs
  split at hm'
  · rename_i hu1 hu2
    exact good_bstr h hop (elOf_spec hel) hu1 hu2 hx hdd hlt h1 h2 hK
  · cases hm'
 next sz fr fo ps t n ps' =>
  obtain ⟨d,hdd,hlt⟩:=okDst_some hd
  simp only [stepQ,bindP,hdd] at hs
  simp only [Bool.and_eq_true,Option.any_eq_true,beq_iff_eq,decide_eq_true_eq] at hq
  obtain ⟨vs,h1,y,h2,h3,hK⟩:=hs
  obtain ⟨⟨⟨⟨⟨el,hel,hsz,hz⟩,hpos⟩,hn⟩,hr⟩,hps⟩:=hq
  exact good_bsls hN hm hm2 h hop hel hsz hpos (by rw [Option.any_eq_true];obtain ⟨z,hz1,hz2⟩:=hz;exact ⟨z,hz1,by simpa using hz2⟩) hn hr hps hdd hlt h1 h2 h3 hK
 next sz ps t n ps' =>
  obtain ⟨d,hdd,hlt⟩:=okDst_some hd
  simp only [stepQ,bindP,hdd] at hs
  simp only [Bool.and_eq_true,Option.any_eq_true,beq_iff_eq,decide_eq_true_eq] at hq
  obtain ⟨vs,h1,ts,h2,hK⟩:=hs
  obtain ⟨⟨⟨⟨⟨el,hel,hsz,hz⟩,hpos⟩,hn⟩,hr⟩,hps⟩:=hq
  obtain ⟨us,c1,c2,c3⟩:=cells_spec e vs h2
  subst c3
  exact good_bsls (fr:=false) (fo:=false) hN hm hm2 h hop hel hsz hpos (by rw [Option.any_eq_true];obtain ⟨z,hz1,hz2⟩:=hz;exact ⟨z,hz1,by simpa using hz2⟩) hn hr hps hdd hlt h1 c1 c2 hK
 next sz len x i t x' i' =>
  obtain ⟨d,hdd,hlt⟩:=okDst_some hd
  simp only [stepQ,bindP,hdd] at hs
  simp only [Bool.and_eq_true,decide_eq_true_eq] at hq
  obtain ⟨⟨⟨hu,hpos⟩,hx⟩,hi⟩:=hq
  obtain ⟨p,h1,n,h2,v,h3,hK⟩:=hs
  split at hu
  · rename_i len' el hu'
    simp only [Bool.and_eq_true,beq_iff_eq] at hu
    obtain ⟨⟨rfl,hsz⟩,hag⟩:=hu
    exact good_arr h hop hu' hsz hag hx hi hpos hdd hlt h1 h2 h3 hK
  · cases hu
 next off x t x' i' =>
  obtain ⟨d,hdd,hlt⟩:=okDst_some hd
  simp only [stepQ,bindP,hdd] at hs
  simp only [Bool.and_eq_true] at hq
  obtain ⟨hu,hx⟩:=hq
  obtain ⟨p,h1,v,h3,hK⟩:=hs
  split at hu
  · rename_i len el k i hu'
    simp only [Bool.and_eq_true,decide_eq_true_eq,Option.any_eq_true,beq_iff_eq] at hu
    obtain ⟨⟨h4,h5⟩,sz,hsz,rfl⟩:=hu
    exact good_fldA h hop hu' hsz h4 h5 hx hdd hlt h1 h3 hK
  · cases hu
 next t =>
  obtain ⟨d,hdd,hlt⟩:=okDst_some hd
  simp only [stepQ,hdd] at hs
  exact good_mkset hN h hop hdd hlt hs
 next s x' =>
  obtain ⟨d,hdd,hlt⟩:=okDst_some hd
  simp only [stepQ,bindP,hdd] at hs
  obtain ⟨v,h1,u,h2,h3,hK⟩:=hs
  obtain ⟨t,rfl,h4,rfl⟩:=turn1_none h2
  exact good_tkv h (.inl hop) hq hdd hlt h1 h4 h3 hK
 next s x' =>
  obtain ⟨d,hdd,hlt⟩:=okDst_some hd
  simp only [stepQ,bindP,hdd] at hs
  obtain ⟨v,h1,u,h2,h3,hK⟩:=hs
  obtain ⟨t,rfl,h4,rfl⟩:=turn1_none h2
  exact good_tkv h (.inr hop) hq hdd hlt h1 h4 h3 hK
 next sz s t n ps' =>
  obtain ⟨d,hdd,hlt⟩:=okDst_some hd
  simp only [stepQ,bindP,hdd] at hs
  simp only [Bool.and_eq_true,Option.any_eq_true,beq_iff_eq,decide_eq_true_eq] at hq
  obtain ⟨v,h1,u,h2,h3,hK⟩:=hs
  obtain ⟨⟨⟨⟨⟨el,hel,hsz,hz⟩,hpos⟩,hn⟩,hr⟩,hps⟩:=hq
  obtain ⟨ts,rfl,h4,h5,h6,rfl⟩:=turn1_some h2
  exact good_bsg hN h hop hel hsz hpos (by rw [Option.any_eq_true];obtain ⟨z,hz1,hz2⟩:=hz;exact ⟨z,hz1,by simpa using hz2⟩) hn hr hps hdd hlt h1 h4 h3 h5 h6 hK
 next s i x' i' =>
  obtain ⟨d,hdd,hlt⟩:=okDst_some hd
  simp only [stepQ,bindP,hdd] at hs
  simp only [Bool.and_eq_true,beq_iff_eq] at hq
  obtain ⟨v,h1,z,h2,hK⟩:=hs
  obtain ⟨rfl,hx⟩:=hq
  obtain ⟨ts,rfl,h3⟩:=scAt_some h2
  exact good_ext h hop hx hdd hlt (show e.opd (.t s)=some ((T.tup ts).peek s []) by simp [Env.opd,Env.peek,h1]) (scAt_ext h3) hK
 next s x' =>
  obtain ⟨d,hdd,hlt⟩:=okDst_some hd
  simp only [stepQ,bindP,hdd] at hs
  obtain ⟨v,h1,ts,h2,hK⟩:=hs
  exact good_mvs h (.inl hop) hq hdd hlt (boxT_some h2▸h1) hK
 next f x n xs f' args' ats =>
  simp only [okDst] at hd
  simp only [stepQ,bindP] at hs
  simp only [Bool.and_eq_true] at hq
  obtain ⟨fv,h1,id,h2,av,h3,j,h4,b,h5,ts,h6,us,h7,⟨rfl,_,h8,h9⟩,ts',r,h10,hK⟩:=hs
  rw [fnId_some h2] at h1
  rw [sameR_some h4] at h3
  rw [boxT_some h6] at h5
  exact good_calls hG hN h hop hq.1 hq.2 (fun d hdd=>by rw [hdd] at hd;simpa using hd) h1 h3 h5 h7 h8 h9 h10 hK
 next sz ps t n ps' =>
  obtain ⟨d,hdd,hlt⟩:=okDst_some hd
  simp only [stepQ,bindP,hdd] at hs
  simp only [Bool.and_eq_true,Option.any_eq_true,beq_iff_eq,decide_eq_true_eq] at hq
  obtain ⟨vs,h1,ts,h2,hK⟩:=hs
  obtain ⟨⟨⟨⟨⟨el,hel,hsz,hz⟩,hpos⟩,hn⟩,hr⟩,hps⟩:=hq
  obtain ⟨us,c1,c2,c3⟩:=cells_spec e vs h2
  subst c3
  exact good_bsls (m:=.old) (fr:=true) (fo:=true) hN (by decide) (fun h0=>by cases h0) h hop hel hsz hpos (by rw [Option.any_eq_true];obtain ⟨z,hz1,hz2⟩:=hz;exact ⟨z,hz1,by simpa using hz2⟩) hn hr hps hdd hlt h1 c1 c2 hK
 next s t n ps' =>
  obtain ⟨d,hdd,hlt⟩:=okDst_some hd
  simp only [stepQ,bindP,hdd] at hs
  simp only [Bool.and_eq_true,Option.any_eq_true,beq_iff_eq,decide_eq_true_eq] at hq
  obtain ⟨v,h1,h2⟩:=hs
  obtain ⟨⟨⟨⟨el,hel,hsz,hz⟩,hn⟩,hr⟩,hps⟩:=hq
  split at h2
  · rename_i k ts
    obtain ⟨⟨_,hk,hmul⟩,hK⟩:=h2
    have hpk:e.opds [.t s]=some [.sref s [] k 0 (ts.length / k)]:=by simp [Env.opds,Env.opd,Env.peek,h1,T.peek]
    have htk:e.takeL [.sref s [] k 0 (ts.length / k)]=some ([.mem .own (some k) ts],e.del s):=by
     have htr:e.tree s []=some (.mem .own (some k) ts):=by simp [Env.tree,h1,T.at]
     simp [Env.takeL,Env.take,htr,hk,hmul,win,Env.clear]
    exact good_bsl hN h hop hel hsz (by rw [Option.any_eq_true];obtain ⟨z,hz1,hz2⟩:=hz;exact ⟨z,hz1,by simpa using hz2⟩) hn hr hps hdd hlt hpk htk rfl hK
  · exact h2.elim
 next z x n as ts =>
  obtain ⟨d,hdd,hlt⟩:=okDst_some hd
  simp only [stepQ,bindP,hdd] at hs
  split at hq
  · rename_i x' n' t u has hts
    simp only [Bool.and_eq_true] at hq
    obtain ⟨⟨⟨hu,he⟩,hx⟩,hn⟩:=hq
    simp only [Option.any_eq_true,Bool.and_eq_true,beq_iff_eq,decide_eq_true_eq] at he
    obtain ⟨el,hel,⟨hsz,hz⟩,b,hb,hb2⟩:=he
    obtain ⟨v,h1,k,h2,h3⟩:=hs
    split at h3
    · obtain ⟨⟨h0,h4⟩,hK⟩:=h3
      split at hu
      · rename_i ku hku
        exact good_apz hN h (by rw [hop,arr1 has,arr1 hts]) hel hku hsz (by rw [Option.any_eq_true];exact hz) hb hb2 hx hn hdd hlt h1 h2 h0 h4 hK
      · cases hu
    · exact h3.elim
  · cases hq
 next x k t x' k' =>
  obtain ⟨d,hdd,hlt⟩:=okDst_some hd
  simp only [stepQ,bindP,hdd] at hs
  simp only [Bool.and_eq_true] at hq
  obtain ⟨⟨ht,hx⟩,hk⟩:=hq
  obtain ⟨v,h1,s,h2,z,h3,hK⟩:=hs
  obtain ⟨kt,vt,hu,hkt,hz⟩:=okSet_spec ht
  exact good_look h hop hu hkt hz hx hk hdd hlt h1 h2 h3 hK
 next x k t m' k' v' =>
  have hdd:o.dst=none:=by simpa [okDst] using hd
  simp only [stepQ,bindP] at hs
  simp only [Bool.and_eq_true] at hq
  obtain ⟨⟨⟨ht,hx⟩,hk⟩,hv⟩:=hq
  obtain ⟨v,h1,s,h2,z,h3,hK⟩:=hs
  obtain ⟨kt,vt,hu,hkt,hz⟩:=okSet_spec ht
  obtain rfl:=okTrue hv
  exact good_upd h (.inl hop) hu hkt hx hk hdd h1 h2 h3 hK
 next x k t m' k' v' =>
  have hdd:o.dst=none:=by simpa [okDst] using hd
  simp only [stepQ,bindP] at hs
  simp only [Bool.and_eq_true] at hq
  obtain ⟨⟨⟨ht,hx⟩,hk⟩,hv⟩:=hq
  obtain ⟨v,h1,s,h2,z,h3,hK⟩:=hs
  obtain ⟨kt,vt,hu,hkt,hz⟩:=okSet_spec ht
  obtain rfl:=okTrue hv
  exact good_upd h (.inr hop) hu hkt hx hk hdd h1 h2 h3 hK
 next=>cases hq

end
end Go.Mch
