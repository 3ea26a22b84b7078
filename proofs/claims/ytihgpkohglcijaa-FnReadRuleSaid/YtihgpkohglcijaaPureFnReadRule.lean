/- For every drawn text the program reads the rule that the reference reads, and the text of a rule is read as the same rule. -/
import Derived.Test.YtihgpkohglcijaaPx2
import Derived.Test.YtihgpkohglcijaaPx3
import Derived.Test.YtihgpkohglcijaaPx6
import Derived.Test.YtihgpkohglcijaaPx7
import Derived.Test.YtihgpkohglcijaaPx8
import Derived.Test.YtihgpkohglcijaaPx11
import Derived.Test.YtihgpkohglcijaaPx12
import Derived.Test.YtihgpkohglcijaaPx13
import Derived.Test.YtihgpkohglcijaaPrule
import Derived.Test.YtihgpkohglcijaaPtext
import Derived.Test.YtihgpkohglcijaaPsdr
namespace Go.Proofs.Ytihgpkohglcijaa.Pure
open Go.RowKit Go.Proofs.YtihgpkohglcijaaW.PrintWords Go.Proofs.YtihgpkohglcijaaW.PrintLast Go.Proofs.YtihgpkohglcijaaW.PrintMore Go.Proofs.Ytihgpkohglcijaa.P Go.Proofs.Ytihgpkohglcijaa.Mt Go.Proofs.Ytihgpkohglcijaa.Pl
theorem isRule_ok {t : Int} (ht : 1 ≤ t ∧ t ≤ 3) {a b : Nat} (h0 : a ≠ 0) (ha : a ≤ all t) (hb : b ≤ all t) : impl_isRule.f t (a : Int) (b : Int) = some true := by
  unfold impl_isRule.f
  have s : ∀ n : Nat, n ≤ all t → setOk t (n : Int) = true := fun n hn => by unfold setOk; exact decide_eq_true ⟨ht, by omega, by omega⟩
  rw [isSet_eq, s a ha, Option.bind_some, if_pos rfl, isSet_eq, s b hb, Option.bind_some, if_pos rfl]
  congr 1
  rw [bne_iff_ne]
  omega
/-- A rule's text is read as this rule. -/
theorem back_ev {t : Int} (ht : 1 ≤ t ∧ t ≤ 3) {a b : Nat} (h0 : a ≠ 0) (ha : a ≤ all t) (hb : b ≤ all t) : ∃ s, Ev (fun k => impl_RuleText.f k t (a : Int) (b : Int)) s ∧ Ev (fun k => impl_ReadRule.f k t s) ((a : Int), (b : Int), true) := by
  obtain ⟨A, hA, eA⟩ := text_ev ht ha
  obtain ⟨B, hB, eB⟩ := text_ev ht hb
  have sz : ∀ {X : ByteArray} {n : Int}, holds t X = (n, true) → X.size ≤ 120 := by
    intro X n h
    unfold holds at h
    split at h
    · rename_i hc; exact hc.2
    · cases h
  have zA := sz eA
  have zB := sz eB
  have z2 : (⟨#[45, 62]⟩ : ByteArray).size = 2 := rfl
  refine ⟨(A ++ (⟨#[45, 62]⟩ : ByteArray)) ++ B, ?_, ?_⟩
  · unfold impl_RuleText.f
    refine ev_bindc (isRule_ok ht h0 ha hb) (ev_tt (Ev.bind hA (ev_pos (by omega) (Ev.bind hB (ev_pos (by rw [ByteArray.size_append, z2]; omega) (Ev.now _))))))
  · obtain ⟨X, eX⟩ : ∃ X, X = (A ++ (⟨#[45, 62]⟩ : ByteArray)) ++ B := ⟨_, rfl⟩
    rw [← eX]
    have hl : X.toList = A.toList ++ (45 :: 62 :: B.toList) := by
      rw [eX, list_append, list_append, List.append_assoc, show (⟨#[45, 62]⟩ : ByteArray).toList = [45, 62] from by decide +kernel]
      rfl
    have zX : X.size = A.size + 2 + B.size := by rw [eX, ByteArray.size_append, ByteArray.size_append, z2]
    have head : ∀ j : Nat, j < A.size → bt X (j : Int) ≠ 45 := by
      intro j hj
      have e : bt X (j : Int) = bt A (j : Int) := by
        rw [bt_get X (by omega), bt_get A hj]
        congr 2
        simp only [hl]
        exact List.getElem_append_left (by rw [size_list]; exact hj)
      rw [e]
      exact holds_no eA hj
    have hat : at2 X A.size := by
      have l0 : A.size < X.toList.length := by rw [size_list]; omega
      have l1 : A.size + 1 < X.toList.length := by rw [size_list]; omega
      have e0 : X.toList[A.size]? = some 45 := by rw [hl, List.getElem?_append_right (by rw [size_list]; omega), size_list, Nat.sub_self]; rfl
      have e1 : X.toList[A.size + 1]? = some 62 := by rw [hl, List.getElem?_append_right (by rw [size_list]; omega), size_list, show A.size + 1 - A.size = 1 from by omega]; rfl
      refine ⟨by omega, ?_, ?_⟩
      · rw [bt_get X (by omega), (List.getElem?_eq_some_iff.1 e0).2]; rfl
      · rw [bt_get X (by omega), (List.getElem?_eq_some_iff.1 e1).2]; rfl
    have e1 : X.extract 0 A.size = A := by
      apply ext_list
      rw [list_extract, List.drop_zero, hl, Nat.sub_zero, ← size_list A, List.take_left]
    have e2 : X.extract (A.size + 2) X.size = B := by
      apply ext_list
      rw [list_from, hl, ← size_list A, List.drop_length_add_append]
      rfl
    rcases impl_ReadRule_at t (s := X) (by omega) with ⟨k, h1, h2, h3⟩ | ⟨h1, _⟩
    · have hk : k = A.size := by
        rcases Nat.lt_trichotomy k A.size with h | h | h
        · exact absurd h1.2.1 (head k h)
        · exact h
        · exact absurd hat (h2 _ h)
      rw [hk] at h3
      have e : ruleAt t X A.size = ((a : Int), (b : Int), true) := by
        unfold ruleAt tryAt
        simp only [e1, e2, eA, eB, if_true]
        rw [if_neg (by omega)]
        rfl
      rw [e] at h3
      exact h3
    · exact absurd hat (h1 _)
theorem draw_ev {c : List Int} (hc : ∀ x ∈ c, (Lit.int .u8 x).wf = true) : ∃ t s, Ev (fun k => spec_DrawReadRule.f k c) (t, s) ∧ s.size ≤ 1000 := by
  obtain ⟨b, hb, hcode⟩ := open_ev hc
  obtain ⟨t, p1, ht, a1, a2⟩ := things_ev hcode (p := 0) (by omega) (by omega) 14
  obtain ⟨A, p2, hA, b1, b2, zA⟩ := sent_ev hcode t (p := p1) a1 (by omega)
  obtain ⟨B, p3, hB, c1, c2, zB⟩ := sent_ev hcode t (p := p2) (by omega) (by omega)
  obtain ⟨o, p4, ho, d1, d2⟩ := odd_ev hcode (p := p3) (by omega) (by omega) 3
  have z2 : (⟨#[45, 62]⟩ : ByteArray).size = 2 := rfl
  have zX : ((A ++ (⟨#[45, 62]⟩ : ByteArray)) ++ B).size = A.size + 2 + B.size := by rw [ByteArray.size_append, ByteArray.size_append, z2]
  have zY : (A ++ (⟨#[45, 62]⟩ : ByteArray)).size = A.size + 2 := by rw [ByteArray.size_append, z2]
  obtain ⟨Y, eY⟩ : ∃ Y, Y = A ++ (⟨#[45, 62]⟩ : ByteArray) := ⟨_, rfl⟩
  obtain ⟨X, eX⟩ : ∃ X, X = Y ++ B := ⟨_, rfl⟩
  rw [← eY] at zX zY
  rw [← eX] at zX
  have start : ∀ {r}, Ev (fun k => if o = true then ((spec_l20Rd_pick.f k b p4 (X.size : Int)).bind fun bt160 => (if 0 ≤ bt160.1 then (if bt160.1 ≤ (X.size : Int) then ((some (([(⟨#[]⟩ : ByteArray), (⟨#[45]⟩ : ByteArray), (⟨#[62]⟩ : ByteArray), (⟨#[97]⟩ : ByteArray), (⟨#[40]⟩ : ByteArray)] : List ByteArray) : List ByteArray)).bind fun y162 => ((spec_l20Rd_pick.f k b bt160.2 5).bind fun bt165 => (if 0 ≤ bt165.1 then (if bt165.1 < (y162.length : Int) then (if (X.extract 0 (bt160.1 : Int).toNat).size + (rdOf ByteArray.empty y162 bt165.1).size ≤ 9223372036854775807 then (if 0 ≤ (wrap64 (bt160.1 + 1)) then (if (wrap64 (bt160.1 + 1)) ≤ (X.size : Int) then (if ((X.extract 0 (bt160.1 : Int).toNat) ++ (rdOf ByteArray.empty y162 bt165.1)).size + (X.extract ((wrap64 (bt160.1 + 1)) : Int).toNat X.size).size ≤ 9223372036854775807 then (some (t, ((X.extract 0 (bt160.1 : Int).toNat) ++ (rdOf ByteArray.empty y162 bt165.1)) ++ (X.extract ((wrap64 (bt160.1 + 1)) : Int).toNat X.size))) else (none)) else (none)) else (none)) else (none)) else (none)) else (none)))) else (none)) else (none))) else (some (t, X))) r → Ev (fun k => spec_DrawReadRule.f k c) r := by
    intro r h
    subst eX
    subst eY
    unfold spec_DrawReadRule.f
    exact ev_bindc hb (Ev.bind ht (Ev.bind hA (ev_pos (by dsimp only; omega) (Ev.bind hB (ev_pos (by dsimp only; omega) (Ev.bind ho h))))))
  cases o with
  | false => exact ⟨t, X, start (ev_ff (Ev.now _)), by omega⟩
  | true =>
    obtain ⟨k, hk, k0, k1, _⟩ := pick_ev hcode (p := p4) (by omega) (by omega) (X.size : Int)
    have k1 := k1 (by omega)
    obtain ⟨j, hj, j0, j1, _⟩ := pick_ev hcode (p := p4 + 1) (by omega) (by omega) 5
    have j1 := j1 (by omega)
    have zj : (rdOf ByteArray.empty [(⟨#[]⟩ : ByteArray), (⟨#[45]⟩ : ByteArray), (⟨#[62]⟩ : ByteArray), (⟨#[97]⟩ : ByteArray), (⟨#[40]⟩ : ByteArray)] j).size ≤ 1 := by
      have : j = 0 ∨ j = 1 ∨ j = 2 ∨ j = 3 ∨ j = 4 := by omega
      rcases this with rfl | rfl | rfl | rfl | rfl <;> decide +kernel
    have ek : wrap64 (k + 1) = k + 1 := w64 (by omega) (by omega)
    have s1 : (X.extract 0 k.toNat).size ≤ X.size := by rw [ByteArray.size_extract]; omega
    have s2 : (X.extract (k + 1).toNat X.size).size ≤ X.size := by rw [ByteArray.size_extract]; omega
    refine ⟨t, _, start (ev_tt (Ev.bind hk (ev_pos k0 (ev_pos (Int.le_of_lt k1) (ev_bindc rfl (Ev.bind hj (ev_pos j0 (ev_pos (by show j < 5; omega) (ev_pos ?_ (ev_pos ?_ (ev_pos ?_ (ev_pos ?_ (Ev.now _))))))))))))), ?_⟩
    · dsimp only; omega
    · dsimp only; rw [ek]; omega
    · dsimp only; rw [ek]; omega
    · dsimp only; rw [ek, ByteArray.size_append]; omega
    · dsimp only; rw [ek, ByteArray.size_append, ByteArray.size_append]; omega
theorem FnReadRule : laws_FnReadRule.Pure := by
  intro c _ _ hc
  refine Ev.rounds (g := fun k => laws_FnReadRule.f k c) ?_
  unfold laws_FnReadRule.f
  by_cases hlen : (c.length : Int) > 1048576
  · exact ev_pos hlen (Ev.now _)
  · obtain ⟨t, s, hd, hs⟩ := draw_ev hc
    have main : ∃ r : Int × Int × Bool, Ev (fun k => impl_ReadRule.f k t s) r ∧ Ev (fun k => spec_ReadRule.f k t s) r ∧ (r = (0, 0, false) ∨ ∃ a b : Nat, r = ((a : Int), (b : Int), true) ∧ (1 ≤ t ∧ t ≤ 3) ∧ a ≠ 0 ∧ a ≤ all t ∧ b ≤ all t) := by
      rcases impl_ReadRule_at t (s := s) (by omega) with ⟨k, h1, h2, h3⟩ | ⟨h1, h3⟩
      · exact ⟨_, h3, spec_ReadRule_at t (by omega) h1 h2, ruleAt_cases t s k⟩
      · exact ⟨_, h3, spec_ReadRule_none t (by omega) h1, Or.inl rfl⟩
    obtain ⟨r, hi, hsp, hr⟩ := main
    refine ev_neg hlen (Ev.bind hd (Ev.bind hi (Ev.bind hsp ?_)))
    refine ev_neg (by simp) ?_
    rcases hr with rfl | ⟨a, b', rfl, ht, h0, ha, hb'⟩
    · refine Ev.step (f := fun k => if false = true then (some false) else (if false = true then ((impl_RuleText.f k t 0 0).bind fun t228 => ((impl_ReadRule.f k t t228).bind fun bt229 => ((impl_RuleOk.f t 0 0).bind fun t233 => (if t233 = true then (if bt229.2.2 = true then (some (bt229.1 == 0 && (bt229.2.1 == 0))) else (some false)) else (some false))))) else (if ((0 : Int) == 0 && ((0 : Int) == 0)) = true then ((laws_alive.f).bind fun t234 => (some t234)) else (some false)))) (fun k => rfl) ?_
      exact ev_ff (ev_ff (ev_pos rfl (ev_bindc alive_eq (Ev.now _))))
    · obtain ⟨x, hx, hx2⟩ := back_ev ht h0 ha hb'
      refine Ev.step (f := fun k => if (true != true) = true then (some false) else (if true = true then ((impl_RuleText.f k t (a : Int) (b' : Int)).bind fun t228 => ((impl_ReadRule.f k t t228).bind fun bt229 => ((impl_RuleOk.f t (a : Int) (b' : Int)).bind fun t233 => (if t233 = true then (if bt229.2.2 = true then (some (bt229.1 == (a : Int) && (bt229.2.1 == (b' : Int)))) else (some false)) else (some false))))) else (if ((a : Int) == 0 && ((b' : Int) == 0)) = true then ((laws_alive.f).bind fun t234 => (some t234)) else (some false)))) (fun k => rfl) ?_
      refine ev_neg (by decide) (ev_tt (Ev.bind hx (Ev.bind hx2 (ev_bindc ?_ (ev_tt (ev_tt (ev_eq (Ev.now _) (by simp))))))))
      unfold impl_RuleOk.f
      rw [isRule_ok ht h0 ha hb', Option.bind_some]
end Go.Proofs.Ytihgpkohglcijaa.Pure
