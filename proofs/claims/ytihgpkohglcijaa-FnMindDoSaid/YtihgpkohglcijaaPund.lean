/- Plain laws: what was done can be undone; the core behind a change lies in the set. -/
import Derived.Test.YtihgpkohglcijaaPx3
import Derived.Test.YtihgpkohglcijaaPx10
import Derived.Test.YtihgpkohglcijaaPx20
import Derived.Test.YtihgpkohglcijaaPtot
namespace Go.Proofs.Ytihgpkohglcijaa.Pl
open Go.RowKit Go.Proofs.YtihgpkohglcijaaW.PrintWords Go.Proofs.YtihgpkohglcijaaW.PrintLast Go.Proofs.YtihgpkohglcijaaW.PrintMore Go.Proofs.Ytihgpkohglcijaa.P Go.Proofs.Ytihgpkohglcijaa.Mt
theorem both_ev {a b:Nat} (ha:a<256):Ev (fun k=>laws_both.f k (a:Int) (b:Int)) ((a&&& b:Nat):Int):=by
  unfold laws_both.f
  have key:∀(i:Nat),i≤8→Ev (fun k=>laws_both.l0 k (a:Int) (b:Int) (((a&&& b)%2^i:Nat):Int) (i:Int)) ((a&&& b:Nat):Int):=by
    apply down
    · refine Ev.step (fun k=>rfl) (ev_neg (by omega) (ev_eq (Ev.now _) ?_))
      have:a&&& b<2^8:=Nat.lt_of_le_of_lt Nat.and_le_left ha
      rw[Nat.mod_eq_of_lt this]
    · intro i hi ih
      have hp:(2:Nat)^i≤2^7:=Nat.pow_le_pow_right (by decide) (by omega)
      have hm:(a&&& b)%2^i<2^i:=Nat.mod_lt _ (Nat.two_pow_pos i)
      have off:(a&&& b).testBit i=false→(((a&&& b)%2^(i+1):Nat):Int)=(((a&&& b)%2^i:Nat):Int):=by
        intro h
        rw[bit_mod,bi_bit,h]
        simp
      rw[Nat.testBit_and]at off
      refine Ev.step (fun k=>rfl) (ev_pos (by omega) (ev_pos (by omega) ?_))
      rw[mod_bit a i (by omega),mod_bit b i (by omega),w1 hi (by omega)]
      cases h1:a.testBit i with
      |false=>
        refine ev_neg (fun e=>by rw[bi_one.1 e]at h1;cases h1) ?_
        rw[←off (by rw[h1];rfl)]
        exact ih
      |true=>
        refine ev_pos (bi_one.2 h1) ?_
        cases h2:b.testBit i with
        |false=>
          refine ev_neg (fun e=>by rw[bi_one.1 e]at h2;cases h2) ?_
          rw[←off (by rw[h1,h2];rfl)]
          exact ih
        |true=>
          refine ev_pos (bi_one.2 h2) ?_
          have e:wrap64 ((((a&&& b)%2^i:Nat):Int)+shl .i64 1 (i:Int))=(((a&&& b)%2^(i+1):Nat):Int):=by
            rw[bit_mod,bi_bit,Nat.testBit_and,h1,h2,shl1 i (by omega)]
            simp only[Bool.and_self,if_true,Nat.mul_one]
            generalize(a&&& b)%2^i=y at hm
            generalize 2^i=z at hm hp
            rw[w64 (by omega) (by omega)]
            omega
          rw[e]
          exact ih
  have:=key 0 (Nat.zero_le _)
  simpa [Nat.mod_one] using this
theorem within_ev {a b:Nat} (ha:a<256):Ev (fun k=>laws_within.f k (a:Int) (b:Int)) (decide (a&&& b=a)):=by
  refine Ev.bind (both_ev (b:=b) ha) (ev_eq (Ev.now _) ?_)
  rw[Bool.eq_iff_iff]
  simp only[beq_iff_eq,decide_eq_true_eq]
  omega
theorem minFrom_le (l:List Int) (s:Nat):∀(d i:Nat) (m:Int),minFrom l s d i m≤m∧∀w,i≤w→w<i+d→s.testBit w=true→minFrom l s d i m≤l.getD w 0
  |0,i,m=>⟨Int.le_refl _,fun w h0 h1=>by omega⟩
  |d+1,i,m=>by
    unfold minFrom
    have ih:=minFrom_le l s d (i+1) (if s.testBit i=true then mn m (l.getD i 0)else m)
    have hc:=mn_cases m (l.getD i 0)
    refine⟨Int.le_trans ih.1 (by split<;>omega),fun w h0 h1 h2=>?_⟩
    by_cases e:i=w
    · subst e
      rw[if_pos h2]at ih⊢
      exact Int.le_trans ih.1 hc.2.2
    · exact ih.2 w (by omega) (by omega) h2
theorem minFrom_hit (l:List Int) (s:Nat):∀(d i:Nat) (m:Int),minFrom l s d i m=m∨∃w,w<i+d∧s.testBit w=true∧l.getD w 0=minFrom l s d i m
  |0,_,_=>Or.inl rfl
  |d+1,i,m=>by
    unfold minFrom
    rcases minFrom_hit l s d (i+1) (if s.testBit i=true then mn m (l.getD i 0)else m)with h|⟨w,h0,h1,h2⟩
    · by_cases hb:s.testBit i=true
      · rw[if_pos hb]at h⊢
        rcases(mn_cases m (l.getD i 0)).1 with k|k
        · exact Or.inl (h.trans k)
        · exact Or.inr ⟨i,by omega,hb,(h.trans k).symm⟩
      · rw[if_neg hb]at h⊢
        exact Or.inl h
    · exact Or.inr ⟨w,by omega,h1,h2⟩
theorem some_bit {s n:Nat} (h:s<2^n) (h0:s≠0):∃w,w<n∧s.testBit w=true:=by
  obtain⟨w,hw⟩:=Nat.exists_testBit_of_ne_zero h0
  refine⟨w,?_,hw⟩
  apply Decidable.byContradiction
  intro k
  rw[Nat.testBit_lt_two_pow (Nat.lt_of_lt_of_le h (Nat.pow_le_pow_right (by decide) (by omega)))]at hw
  cases hw
theorem least_some {l:List Int} (hx:∀x∈l,0≤x∧x≤9) {s:Nat} (h:s<2^l.length) (h0:s≠0):∃w,w<l.length∧(leastSet l s).testBit w=true:=by
  obtain⟨w,hw,hb⟩:=some_bit h h0
  have h1:=(minFrom_le l s l.length 0 10).2 w (Nat.zero_le _) (by omega) hb
  have hg:l.getD w 0≤9:=by
    rw[List.getD_eq_getElem?_getD,List.getElem?_eq_getElem hw]
    exact(hx _ (List.getElem_mem hw)).2
  rcases minFrom_hit l s l.length 0 10 with h2|⟨v,h2,h3,h4⟩
  · omega
  · refine⟨v,by omega,?_⟩
    unfold leastSet
    rw[bset_bit,decide_eq_true (by omega),h3,Bool.true_and,Bool.true_and,decide_eq_true_iff]
    exact h4
theorem chg_core {t:Int} {l:List Int} (hr:rankOk t l=true) {s:Nat} (hs:s<2^wn t) (h0:s≠0) (a:Int) {w:Nat} (hw:w<l.length) (h:(chg l a s).getD w 0=0):s.testBit w=true:=by
  obtain⟨_,hl,hx,_⟩:=rankOk_iff.1 hr
  have key:∀F:Nat,(∃v,v<l.length∧F.testBit v=true)→(tidyL (raise l F)).getD w 0=0→F.testBit w=true:=by
    rintro F ⟨v,hv,hb⟩ hg
    apply Decidable.byContradiction
    intro k
    have hvr:v<(raise l F).length:=by rw[raise_length];exact hv
    have hwr:w<(raise l F).length:=by rw[raise_length];exact hw
    have e1:=raise_at l F hv
    rw[if_pos hb]at e1
    have e2:=raise_at l F hw
    rw[if_neg k]at e2
    have b1:=hx _ (List.getElem_mem hv)
    have b2:=hx _ (List.getElem_mem hw)
    have hp:=lev_pos (l:=raise l F) (x:=(raise l F)[w]) (List.getElem_mem hvr) (by rw[e1];exact b1.1) (by rw[e1,e2];omega)
    have:(tidyL (raise l F)).getD w 0=(lev (raise l F) (raise l F)[w]:Int):=by
      unfold tidyL
      rw[List.getD_eq_getElem?_getD,List.getElem?_map,List.getElem?_eq_getElem hwr]
      rfl
    omega
  unfold chg at h
  rw[hl]at hw
  by_cases a0:a=0
  · rw[if_pos a0]at h
    have:=key _ (least_some hx (by rw[hl];exact hs) h0) h
    unfold leastSet at this
    rw[bset_bit,Bool.and_eq_true,Bool.and_eq_true]at this
    exact this.2.1
  · rw[if_neg a0]at h
    refine key _ ?_ h
    rw[hl]
    exact some_bit hs h0
theorem CoreOf_ev {t:Int} {l:List Int} (h:rankOk t l=true):∃c:Nat,c<256∧Ev (fun k=>impl_CoreOf.f k t l) (c:Int)∧∀w,c.testBit w=true→w<l.length∧l.getD w 0=0:=by
  obtain⟨ht,hl,hx,_⟩:=rankOk_iff.1 h
  have h8:=(wn_le t).1
  have hp:∀y:Nat,y<0+wn t→impl_coreOf.p l (y:Int)=some (decide (l.getD y 0=0)):=by
    intro y hy
    unfold impl_coreOf.p
    rw[if_pos (by omega),if_pos (by omega),rd_getD]
  obtain⟨r,h1,h2,h3⟩:=setThat_l (p:=impl_coreOf.p l) (q:=fun y=>decide (l.getD y 0=0)) (wn t) 0 0 (by omega) Nat.one_pos hp
  have hf:impl_coreOf.f t l=some (r:Int):=by
    unfold impl_coreOf.f impl_setThat.f
    rw[if_pos (by omega),if_pos (by omega),show 2^t.toNat=wn t from by rcases three ht with rfl|rfl|rfl<;>rfl]
    exact h1
  rw[Nat.zero_add]at h2
  refine⟨r,Nat.lt_of_lt_of_le h2 (Nat.pow_le_pow_right (n:=2) (by decide) h8),?_,fun w hw=>?_⟩
  · have hr:=isRank_ev t (l:=l) (by omega)
    rw[h]at hr
    unfold impl_CoreOf.f
    exact Ev.bind hr (ev_tt (ev_bindc hf (Ev.now _)))
  · rcases(h3 w).1 hw with k|k
    · rw[Nat.zero_testBit]at k;cases k
    · exact⟨by omega,of_decide_eq_true k.2.2⟩
theorem done {t:Int} {l:List Int} {ls:List (List Int)} {a:Int} {s:ByteArray} (h:(mdo t l ls a s).2.2.2=true) (ha:a≠2):
    ∃v:Nat,holds t s=((v:Int),true)∧v≠0∧v<2^wn t∧mdo t l ls a s=(t,chg l a v,push l ls,true):=by
  have no:(nope t l ls).2.2.2≠true:=Bool.false_ne_true
  unfold mdo at h⊢
  rw[if_neg (fun k=>ha k.1)]at h⊢
  by_cases h1:a=0∨a=1
  · rw[if_pos h1]at h⊢
    by_cases h2:(holds t s).2=true
    · rw[if_pos h2]at h⊢
      by_cases h3:(holds t s).1=0
      · rw[if_pos h3]at h;exact absurd h no
      · rw[if_neg h3]at h⊢
        by_cases h4:chg l a (holds t s).1.toNat=l
        · rw[if_pos h4]at h;exact absurd h no
        · rw[if_neg h4]
          have eh:holds t s=((holds t s).1,true):=by rw[←h2]
          obtain⟨ht,v0,v1⟩:=holds_range eh
          obtain⟨v,ev⟩:=Int.eq_ofNat_of_zero_le v0
          have:=all_wn ht
          refine⟨v,by rw[eh,ev],fun k=>h3 (by rw[ev,k];rfl),by omega,?_⟩
          rw[ev,Int.toNat_natCast]
    · rw[if_neg h2]at h;exact absurd h no
  · rw[if_neg h1]at h;exact absurd h no
theorem back {t:Int} {l m:List Int} {ls:List (List Int)} (hs:ls.length≤9):mdo t m (push l ls) 2 (⟨#[]⟩:ByteArray)=(t,l,ls,true):=by
  have e:push l ls=ls++ [l]:=if_neg (by omega)
  unfold mdo
  rw[if_pos ⟨rfl,rfl⟩,e,if_neg (by simp),List.dropLast_concat,List.getLastD_concat]
theorem undone {t:Int} {l:List Int} {ls:List (List Int)} {a:Int} {s:ByteArray} (h:¬(mdo t l ls a s).2.2.2=true):mdo t l ls a s=(t,l,ls,false):=by
  unfold mdo at h⊢
  split
  · rename_i h1
    rw[if_pos h1]at h
    split
    · rfl
    · rename_i h2
      rw[if_neg h2]at h
      exact absurd rfl h
  · rename_i h1
    rw[if_neg h1]at h
    split
    · rename_i h2
      rw[if_pos h2]at h
      split
      · rename_i h3
        rw[if_pos h3]at h
        split
        · rfl
        · rename_i h4
          rw[if_neg h4]at h
          split
          · rfl
          · rename_i h5
            rw[if_neg h5]at h
            exact absurd rfl h
      · rfl
    · rfl
theorem sameRows_nil (ls:List (List Int)):∃b,Ev (fun k=>laws_sameRows.f k [] ls) b:=by
  unfold laws_sameRows.f
  by_cases h:(([]:List (List Int)).length:Int)=(ls.length:Int)
  · exact⟨true,ev_pos h (Ev.step (fun k=>rfl) (ev_neg (by simp) (Ev.now _)))⟩
  · exact⟨false,ev_neg h (Ev.now _)⟩
end Go.Proofs.Ytihgpkohglcijaa.Pl
