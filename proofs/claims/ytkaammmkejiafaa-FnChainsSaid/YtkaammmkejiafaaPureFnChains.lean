/- The pure statement of FnChains: what one writes one sees, others see it once it is committed, and what is rolled back is gone. -/
import Derived.Test.YtkaammmkejiafaaUFnChains
import Derived.Test.YtkaammmkejiafaaQe
import Derived.Test.YtkaammmkejiafaaQs
import Derived.Test.YtkaammmkejiafaaQd
import Derived.Test.YtkaammmkejiafaaQp
import Derived.Test.YtkaammmkejiafaaQz5
import Derived.Test.YtkaammmkejiafaaP0
import Derived.Test.YtkaammmkejiafaaPDall0
import Derived.Test.YtkaammmkejiafaaPDb0
namespace Go.Proofs.Ytkaammmkejiafaa.Pure
open Go.RowKit Go.Proofs.Ytkaammmkejiafaa.P Go.Proofs.Ytkaammmkejiafaa.Q Go.Proofs.YtkaammmkejiafaaW.PrintWords Go.Proofs.YtkaammmkejiafaaW.PrintLast Go.Proofs.YtkaammmkejiafaaW.PrintMore Go.Proofs.Ytkaammmkejiafaa.Lb
def wo (l : List S51) : Int × Int := if cf l = 0 then (if writer l = 0 then (4, 0) else (0, writer l)) else (cf l, 0)
theorem implWO (l : List S51) (hb : l.length ≤ 8796093022208) : Ev (fun k => impl_WriterOf.f k l) (wo l) := by
  unfold impl_WriterOf.f wo
  refine evCall (implCF l hb) (evIte (fun h => ?_) (fun h => evRet (by rw [if_neg h])))
  rw [if_pos h]
  have ho := (cf_ok h).2
  cases l with
  | nil => exact evIte (fun _ => evRet rfl) (fun h2 => absurd rfl h2)
  | cons v vs =>
    have hl : ((v :: vs).length : Int) > 0 := by simp <;> omega
    have hv := ho v (by simp)
    refine evIte (fun h2 => by omega) (fun _ => evIte (fun _ => ?_) (fun h2 => absurd hl h2))
    rw [rd0]
    refine evIte (fun h2 => evRet ?_) (fun h2 => evRet ?_)
    · have : v.f0 ≠ 0 := by have := hv.1; omega
      simp [writer, h2, this]
    · simp [writer, h2]
/-! ### the draw -/
theorem viewD {s : List Int} {a : Int} (hs : src s a) (ha : a ≤ 900000) : ∃ x y, spec_l5DrawView.f s a = some (x, y, a + 1 + 1 + 1 + 1 + 1 + 1) := by
  unfold spec_l5DrawView.f
  have up : ∀ c, a ≤ c → c ≤ a + 10 → src s c := fun c h1 h2 => src_up hs h1 (by omega)
  obtain ⟨x1, e1, _⟩ := nx (n := 40) hs (by omega)
  obtain ⟨x2, e2, _⟩ := nx (n := 40) (up (a + 1) (by omega) (by omega)) (by omega)
  obtain ⟨x3, e3, _⟩ := pk (up (a + 1 + 1) (by omega) (by omega)) [wrap64 (30 + x1), wrap64 (30 + x2), 0, 1000000, 1000001, (-1)] (by simp) (by simp)
  obtain ⟨x4, e4, _⟩ := nx (n := 7) (up (a + 1 + 1 + 1) (by omega) (by omega)) (by omega)
  obtain ⟨x5, e5, _⟩ := nx (n := 7) (up (a + 1 + 1 + 1 + 1) (by omega) (by omega)) (by omega)
  obtain ⟨x6, e6, _⟩ := pk (up (a + 1 + 1 + 1 + 1 + 1) (by omega) (by omega)) [x4, x5, 1, 999, 1000] (by simp) (by simp)
  exact ⟨x3, x6, by simp only [e1, e2, e3, e4, e5, e6, Option.bind_some]⟩
theorem maxD (a b : Int) : ∃ r, spec_l1Max.f a b = some r := by unfold spec_l1Max.f; split <;> exact ⟨_, rfl⟩
theorem withD {l : List Int} (hB : isB l) (hl : l.length ≤ 1048576) : ∃ C x y, Ev (fun k => spec_l5With.f k l) (C, x, y) ∧ C.length ≤ 13 := by
  have hs : src l 0 := ⟨hB, hl, by omega, by omega⟩
  obtain ⟨C, b, hR, lR, b0, b1⟩ := bentV hs (by omega)
  obtain ⟨x, y, ev⟩ := viewD (src_up hs b0 (by omega)) (by omega)
  obtain ⟨c, ec⟩ := ch (n := 2) (src_up hs (b := b + 1 + 1 + 1 + 1 + 1 + 1) (by omega) (by omega)) (by omega)
  have key : ∃ x' y', Ev (fun k => spec_l5With.f k l) (C, x', y') := by
    unfold spec_l5With.f
    by_cases h1 : (C.length : Int) > 0
    · by_cases h2 : (rd_T51 C 0).f1 = 0
      · by_cases h3 : c = true
        · exact ⟨_, _, evSeq (a := (l, 0)) rfl (evCall hR (evSeq ev (evIte (fun _ => evIte (fun _ => evIte (fun _ => evSeq ec (evIte (fun _ => evRet rfl) (fun h => absurd h3 h))) (fun h => absurd h2 h)) (fun h => absurd h1 h)) (fun h => absurd h1 h))))⟩
        · exact ⟨_, _, evSeq (a := (l, 0)) rfl (evCall hR (evSeq ev (evIte (fun _ => evIte (fun _ => evIte (fun _ => evSeq ec (evIte (fun h => absurd h h3) (fun _ => evRet rfl))) (fun h => absurd h2 h)) (fun h => absurd h1 h)) (fun h => absurd h1 h))))⟩
      · exact ⟨_, _, evSeq (a := (l, 0)) rfl (evCall hR (evSeq ev (evIte (fun _ => evIte (fun _ => evIte (fun h => absurd h h2) (fun _ => evRet rfl)) (fun h => absurd h1 h)) (fun h => absurd h1 h))))⟩
    · exact ⟨_, _, evSeq (a := (l, 0)) rfl (evCall hR (evSeq ev (evIte (fun h => absurd h h1) (fun _ => evRet rfl))))⟩
  obtain ⟨x', y', h⟩ := key
  exact ⟨C, x', y', h, lR⟩
theorem pushD {l : List Int} (hB : isB l) (hl : l.length ≤ 1048576) : ∃ C at_ own gone value, Ev (fun k => spec_DrawPushVersion.f k l) (C, at_, own, gone, value) ∧ C.length ≤ 13 := by
  have hs : src l 0 := ⟨hB, hl, by omega, by omega⟩
  obtain ⟨C, x, y, hW, lC⟩ := withD hB hl
  have s1 : src l (0 + 1) := src_up hs (by omega) (by omega)
  have s2 : src l (0 + 1 + 1) := src_up hs (by omega) (by omega)
  have s3 : src l (0 + 1 + 1 + 1) := src_up hs (by omega) (by omega)
  obtain ⟨c, ec⟩ := ch (n := 2) hs (by omega)
  obtain ⟨d, ed⟩ := ch (n := 4) s1 (by omega)
  have J : ∀ at_ own, ∃ gone value, Ev (fun k => spec_DrawPushVersion.j0 k C l (0 + 1) at_ own) (C, at_, own, gone, value) := by
    intro at_ own
    by_cases hd : d = true
    · obtain ⟨v, e2, _⟩ := pk s2 [0, 0, 0, 5] (by simp) (by simp)
      exact ⟨_, _, evSucc (by simp only [spec_DrawPushVersion.j0]; exact evSeq ed (evIte (fun _ => evSeq e2 (evRet rfl)) (fun h => absurd hd h)))⟩
    · obtain ⟨n, e2, _⟩ := nx (n := 90) s2 (by omega)
      obtain ⟨v, e3, _⟩ := pk s3 [n, 9999, 10000, (-1)] (by simp) (by simp)
      exact ⟨_, _, evSucc (by simp only [spec_DrawPushVersion.j0]; exact evSeq ed (evIte (fun h => absurd h hd) (fun _ => evSeq e2 (evSeq e3 (evRet rfl)))))⟩
  unfold spec_DrawPushVersion.f
  obtain ⟨m, em⟩ := maxD 1 (writer C)
  by_cases hc : c = true
  · obtain ⟨g, v, h⟩ := J 900 m
    exact ⟨C, _, _, g, v, evSeq (a := (l, 0)) rfl (evCall hW (evSeq ec (evIte (fun _ => evSeq (specWriter C) (evSeq em h)) (fun h => absurd hc h)))), lC⟩
  · obtain ⟨g, v, h⟩ := J x y
    exact ⟨C, _, _, g, v, evSeq (a := (l, 0)) rfl (evCall hW (evSeq ec (evIte (fun h => absurd h hc) (fun _ => h)))), lC⟩
/-! ### chains -/
theorem cfL_f1 {q p : S51} (h : q.f1 = p.f1) : ∀ l, cfL (some q) l = cfL (some p) l
  | [] => rfl
  | v :: vs => by
    unfold cfL
    have e : badV (some q) v ↔ badV (some p) v := by unfold badV; simp only [h]
    by_cases ho : okV v
    · rw [if_pos ho, if_pos ho]
      by_cases hb : badV (some q) v
      · rw [if_pos hb, if_pos (e.1 hb)]
      · rw [if_neg hb, if_neg (fun h2 => hb (e.2 h2))]
    · rw [if_neg ho, if_neg ho]
theorem cfL_none {q : S51} {l : List S51} (h : cfL (some q) l = 0) : cfL none l = 0 := by
  cases l with
  | nil => rfl
  | cons v vs =>
    unfold cfL at h ⊢
    by_cases ho : okV v
    · rw [if_pos ho] at h ⊢
      by_cases hb : badV (some q) v
      · rw [if_pos hb] at h; omega
      · rw [if_neg hb] at h
        rw [if_neg (fun h2 => hb (by unfold badV at h2 ⊢; rcases h2 with h2 | h2; exact .inl h2; exact h2.elim))]
        exact h
    · rw [if_neg ho] at h; omega
theorem cfL_head {q v : S51} {vs : List S51} (h : cfL (some q) (v :: vs) = 0) : okV v ∧ v.f1 ≠ 0 ∧ ¬ (v.f2 = true ∧ v.f3 ≠ 0) ∧ cfL (some v) vs = 0 := by
  unfold cfL at h
  by_cases ho : okV v
  · rw [if_pos ho] at h
    by_cases hb : badV (some q) v
    · rw [if_pos hb] at h; omega
    · rw [if_neg hb] at h
      refine ⟨ho, fun h0 => hb ?_, fun h1 => hb (.inl h1), h⟩
      exact .inr (.inl h0)
  · rw [if_neg ho] at h; omega
/-- A chain on which one may push: what lies under the new version. -/
theorem under_new {C : List S51} {at_ own : Int} (hc : cf C = 0) (hm : may C at_ own = true) {x : S51} (hx : x.f1 = 0) :
    ∃ T, (if loose C = true then C.drop 1 else C) = T ∧ cfL (some x) T = 0 ∧ T.length + (if loose C = true then 1 else 0) = C.length ∧ ∀ oo, oo ≠ own → C.find? (impl_seen.p at_ oo) = T.find? (impl_seen.p at_ oo) := by
  have hl := (cf_ok hc).1
  unfold cf at hc
  rw [if_neg (by omega)] at hc
  refine ⟨_, rfl, ?_⟩
  cases C with
  | nil => exact ⟨rfl, rfl, fun _ _ => rfl⟩
  | cons v vs =>
    unfold cfL at hc
    by_cases ho : okV v
    · rw [if_pos ho] at hc
      by_cases hb : badV none v
      · rw [if_pos hb] at hc; omega
      · rw [if_neg hb] at hc
        by_cases h0 : v.f1 = 0
        · have hlo : loose (v :: vs) = true := by simp [loose, h0]
          rw [if_pos hlo, if_pos hlo]
          refine ⟨by rw [cfL_f1 (show x.f1 = v.f1 by rw [hx, h0])]; exact hc, by simp, fun oo hoo => ?_⟩
          have hv : v.f0 = own := by simpa [may, h0] using hm
          simp [impl_seen.p, h0, hv, Ne.symm hoo]
        · have hlo : ¬ loose (v :: vs) = true := by simp [loose, h0]
          rw [if_neg hlo, if_neg hlo]
          refine ⟨?_, by simp, fun _ _ => rfl⟩
          unfold cfL
          rw [if_pos ho, if_neg (fun h2 => by rcases h2 with h2 | h2 | h2; exact hb (.inl h2); exact h0 h2; exact h2.1 hx)]
          exact hc
    · rw [if_neg ho] at hc; omega
theorem cf_new {x : S51} {T : List S51} (ho : okV x) (hg : ¬ (x.f2 = true ∧ x.f3 ≠ 0)) (hT : cfL (some x) T = 0) (hl : T.length ≤ 11) : cf (x :: T) = 0 := by
  unfold cf
  rw [if_neg (by simp; omega)]
  unfold cfL
  rw [if_pos ho, if_neg (fun h => by rcases h with h | h; exact hg h; exact h.elim)]
  exact hT
theorem other_ne {own : Int} (h0 : 1 ≤ own) (h1 : own ≤ 999) : wrap64 (Int.tmod own 900 + 1) ≠ own ∧ 1 ≤ wrap64 (Int.tmod own 900 + 1) ∧ wrap64 (Int.tmod own 900 + 1) ≤ 999 := by
  rw [Int.tmod_eq_emod_of_nonneg (by omega), w64 (by omega) (by omega)]
  omega
theorem asked0 {l : List S51} {at_ own : Int} (hc : cf l = 0) (hv : viewOK at_ own) : asked l at_ own = 0 := by unfold asked; rw [if_pos hc, if_pos hv]
theorem seen0 {l : List S51} {at_ own : Int} (hc : cf l = 0) (hv : viewOK at_ own) : seenIn l at_ own = sv (l.find? (impl_seen.p at_ own)) := by unfold seenIn; rw [if_pos (asked0 hc hv)]
set_option maxHeartbeats 1000000 in
theorem FnChains : laws_FnChains.Pure := by
  intro l0 h0
  refine Ev.rounds ?_
  unfold laws_FnChains.f laws_lwBig.f
  refine evSeq rfl (evIte (fun _ => evRet rfl) (fun hb => ?_))
  have hl : l0.length ≤ 1048576 := by simp at hb; omega
  have hB : isB l0 := fun x hx => wf8 (h0.2.2 x hx)
  obtain ⟨C, at_, own, gone, value, hD, lC⟩ := pushD hB hl
  refine evCall hD ?_
  have I := implPush C at_ own gone value (by omega)
  have S := specPush C at_ own gone value (by omega)
  have L := push_len C at_ own gone value
  refine evCall I ?_
  by_cases hp : (push C at_ own gone value).1 = 0
  case neg => exact evIte (fun h => absurd h hp) (fun _ => evCall S (evRet (by simp)))
  -- the push went well
  have ha : asked C at_ own = 0 := by
    by_cases h : asked C at_ own = 0
    · exact h
    · unfold push at hp; rw [if_neg h] at hp; exact absurd hp h
  have hval : 0 ≤ value ∧ value ≤ 9999 := by
    by_cases h : 0 ≤ value ∧ value ≤ 9999
    · exact h
    · unfold push at hp; rw [if_pos ha, if_neg h] at hp; simp at hp
  have hgv : ¬ (gone = true ∧ value ≠ 0) := by
    intro h
    unfold push at hp; rw [if_pos ha, if_pos hval, if_pos h] at hp; simp at hp
  have hmw : mw C at_ own = 0 := by
    by_cases h : mw C at_ own = 0
    · exact h
    · unfold push at hp; rw [if_pos ha, if_pos hval, if_neg hgv, if_neg h] at hp; exact absurd hp h
  obtain ⟨_, hown0, hmay⟩ := mw_ok hmw
  obtain ⟨hcC, hv⟩ := asked_ok ha
  have hown : 1 ≤ own ∧ own ≤ 999 := by have := hv.2; omega
  have hat : 0 ≤ at_ ∧ at_ ≤ 1000000 := hv.1
  obtain ⟨T, eT, hT, hTl, hsee⟩ := under_new hcC hmay (x := ⟨own, 0, gone, value⟩) rfl
  have eP : push C at_ own gone value = (0, ⟨own, 0, gone, value⟩ :: T) ∧ T.length ≤ 11 := by
    have lC12 := (cf_ok hcC).1
    unfold push at hp ⊢
    rw [if_pos ha, if_pos hval, if_neg hgv, if_pos hmw] at hp ⊢
    unfold pushed at hp ⊢
    by_cases h1 : loose C = true
    · rw [if_pos h1] at eT hTl ⊢
      rw [eT]
      exact ⟨rfl, by omega⟩
    · rw [if_neg h1] at eT hTl hp ⊢
      by_cases h2 : C.length = 12
      · rw [if_pos h2] at hp; simp at hp
      · rw [if_neg h2, eT]
        exact ⟨rfl, by omega⟩
  obtain ⟨eP, lT⟩ := eP
  rw [eP]
  have okX : okV (⟨own, 0, gone, value⟩ : S51) := ⟨hown.1, hown.2, by simp only; omega, by simp only; omega, hval.1, hval.2⟩
  have hcX := cf_new okX hgv hT lT
  have hcT : cf T = 0 := by unfold cf; rw [if_neg (by omega)]; exact cfL_none hT
  obtain ⟨x, hx⟩ : ∃ x : S51, x = ⟨own, 0, gone, value⟩ := ⟨_, rfl⟩
  rw [← hx] at hcX hT ⊢
  have lX : (x :: T).length ≤ 12 := by simp; omega
  obtain ⟨oo, hoo⟩ : ∃ oo, oo = wrap64 (Int.tmod own 900 + 1) := ⟨_, rfl⟩
  obtain ⟨ho1, ho2, ho3⟩ := other_ne hown.1 hown.2
  rw [← hoo] at ho1 ho2 ho3
  have vo : viewOK at_ oo := ⟨hat, by omega, by omega⟩
  have x0 : x.f0 = own := by rw [hx]
  have x1 : x.f1 = 0 := by rw [hx]
  have x2 : x.f2 = gone := by rw [hx]
  have x3 : x.f3 = value := by rw [hx]
  have pOwn : impl_seen.p at_ own x = true := by simp [impl_seen.p, x0, x1]
  have pOth : impl_seen.p at_ oo x = false := by simp [impl_seen.p, x0, x1, Ne.symm ho1]
  -- what the views see
  have own_ := implSeenIn (x :: T) at_ own (by omega)
  rw [seen0 hcX hv, List.find?_cons_of_pos pOwn] at own_
  have othX := implSeenIn (x :: T) at_ oo (by omega)
  rw [seen0 hcX vo, List.find?_cons_of_neg (by rw [pOth]; decide)] at othX
  have othC := implSeenIn C at_ oo (by omega)
  rw [seen0 hcC vo, hsee oo ho1] at othC
  have othT := implSeenIn T at_ oo (by omega)
  rw [seen0 hcT vo] at othT
  have W := implWO (x :: T) (by omega)
  have eW : wo (x :: T) = (0, own) := by
    unfold wo
    rw [if_pos hcX]
    have : writer (x :: T) = own := by simp [writer, x0, x1]
    rw [this, if_neg (by omega)]
  rw [eW] at W
  have F := implCF (x :: T) (by omega)
  rw [hcX] at F
  have M := implMW (x :: T) at_ oo (by omega)
  have eM : mw (x :: T) at_ oo = 9 := by
    unfold mw
    rw [if_pos (asked0 hcX vo), if_neg (by omega), if_neg (by simp [may, x0, x1, Ne.symm ho1])]
  rw [eM] at M
  refine evIte (fun _ => evCall own_ (evCall W (evCall F (evIte (fun _ => ?_) (fun h => absurd rfl h))))) (fun h => absurd rfl h)
  -- the second half
  have half : Ev (fun k => laws_FnChains.j0 k C gone value false at_ own 0 (x :: T) at_ oo) true := by
    refine evSucc ?_
    simp only [laws_FnChains.j0]
    refine evIte (fun h => absurd h (by simp)) (fun _ => ?_)
    have ew : wrap64 (at_ + 1) = at_ + 1 := by rw [w64 (by omega) (by omega)]
    rw [ew]
    have Ic := implCmt (x :: T) own (at_ + 1) (by omega)
    have Sc := specCmt (x :: T) own (at_ + 1) (by omega)
    refine evCall Ic ?_
    by_cases hc : (cmt (x :: T) own (at_ + 1)).1 = 0
    case neg => exact evIte (fun h => absurd h hc) (fun _ => evCall Sc (evRet (by simp)))
    have hop : opn (x :: T) own = true := by simp [opn, x0, x1]
    have hr : at_ + 1 ≤ 1000000 := by
      by_cases h : at_ + 1 ≤ 1000000
      · exact h
      · unfold cmt at hc; rw [if_pos hcX, if_neg (by omega)] at hc; simp at hc
    have hla : late (x :: T) (at_ + 1) = false := by
      cases h : late (x :: T) (at_ + 1) with
      | false => rfl
      | true => unfold cmt at hc; rw [if_pos hcX, if_pos (by omega), if_pos hop, if_pos h] at hc; simp at hc
    have eC : cmt (x :: T) own (at_ + 1) = (0, ⟨own, at_ + 1, gone, value⟩ :: T) := by
      unfold cmt
      rw [if_pos hcX, if_pos (by omega), if_pos hop, if_neg (by rw [hla]; decide)]
      simp [setAt, hx]
    rw [eC]
    obtain ⟨y, hy⟩ : ∃ y : S51, y = ⟨own, at_ + 1, gone, value⟩ := ⟨_, rfl⟩
    have y1 : y.f1 = at_ + 1 := by rw [hy]
    have y2 : y.f2 = gone := by rw [hy]
    have y3 : y.f3 = value := by rw [hy]
    have hTy : cfL (some y) T = 0 := by
      cases T with
      | nil => rfl
      | cons v vs =>
        obtain ⟨a1, a2, a3, a4⟩ := cfL_head hT
        have a5 : v.f1 < at_ + 1 := by simp only [late, decide_eq_false_iff_not] at hla; omega
        unfold cfL
        rw [if_pos a1, if_neg (fun h => by rcases h with h | h | h; exact a3 h; exact a2 h; have := h.2; rw [y1] at this; omega)]
        exact a4
    have okY : okV y := by rw [hy]; exact ⟨hown.1, hown.2, by simp only; omega, by simp only; omega, hval.1, hval.2⟩
    have hcY := cf_new okY (by rw [y2, y3]; exact hgv) hTy lT
    rw [← hy]
    have lY : (y :: T).length ≤ 12 := by simp; omega
    have vl : viewOK (at_ + 1) oo := ⟨by omega, by omega, by omega⟩
    have Lt := implSeenIn (y :: T) (at_ + 1) oo (by omega)
    rw [seen0 hcY vl, List.find?_cons_of_pos (by simp [impl_seen.p, y1]; omega)] at Lt
    have othY := implSeenIn (y :: T) at_ oo (by omega)
    rw [seen0 hcY vo, List.find?_cons_of_neg (by simp [impl_seen.p, y1]; omega)] at othY
    have R := implRoll (x :: T) own (by omega)
    have eR : roll (x :: T) own = (0, T) := by
      unfold roll
      rw [if_pos hcX, if_pos hown, if_pos hop]
      rfl
    rw [eR] at R
    have Fy := implCF (y :: T) (by omega)
    rw [hcY] at Fy
    have My := implMW (y :: T) at_ oo (by omega)
    have eMy : mw (y :: T) at_ oo = 9 := by
      unfold mw
      rw [if_pos (asked0 hcY vo), if_neg (by omega), if_neg (by unfold may; simp only; rw [if_neg (show ¬ y.f1 = 0 by omega)]; simp; omega)]
    rw [eMy] at My
    refine evIte (fun _ => evCall Lt (evCall R (evCall othY (evCall othC (evIte (fun _ => ?_) (fun h => absurd (by simp) h)))))) (fun h => absurd rfl h)
    have back : Ev (fun k => (impl_MayWrite.f k (y :: T) at_ oo).bind fun t => if t = 9 then (impl_ChainFault.f k (y :: T)).bind fun t2 => if t2 = 0 then (if (0 : Int) = 0 then (impl_SeenIn.f k T at_ oo).bind fun b1 => (impl_SeenIn.f k C at_ oo).bind fun b2 => some (b1.1 == b2.1 && (b1.2 == b2.2)) else some false) else some false else some false) true :=
      evCall My (evIte (fun _ => evCall Fy (evIte (fun _ => evIte (fun _ => evCall othT (evCall othC (evRet (by simp)))) (fun h => absurd rfl h)) (fun h => absurd rfl h))) (fun h => absurd rfl h))
    cases gone with
    | true =>
      refine evIte (fun _ => ?_) (fun h => absurd (by simp [sv, y2]) h)
      exact evIte (fun _ => back) (fun h => absurd rfl h)
    | false =>
      refine evIte (fun _ => ?_) (fun h => absurd (by simp [sv, y2]) h)
      exact evIte (fun h => absurd h (by decide)) (fun _ => evIte (fun _ => back) (fun h => absurd (by simp [sv, y2, y3]) h))
  rw [← hoo]
  have join : Ev (fun k => (impl_MayWrite.f k (x :: T) at_ oo).bind fun t => if t = 9 then (impl_SeenIn.f k (x :: T) at_ oo).bind fun b1 => (impl_SeenIn.f k C at_ oo).bind fun b2 => laws_FnChains.j0 k C gone value (!(b1.1 == b2.1) || (!(b1.2 == b2.2))) at_ own 0 (x :: T) at_ oo else laws_FnChains.j0 k C gone value true at_ own 0 (x :: T) at_ oo) true :=
    evCall M (evIte (fun _ => evCall othX (evCall othC (by simpa using half))) (fun h => absurd rfl h))
  cases gone with
  | true =>
    refine evIte (fun h => absurd h (by simp [sv, x2])) (fun _ => ?_)
    exact evIte (fun _ => evIte (fun _ => join) (fun h => absurd rfl h)) (fun h => absurd rfl h)
  | false =>
    refine evIte (fun h => absurd h (by simp [sv, x2])) (fun _ => ?_)
    exact evIte (fun h => absurd h (by simp)) (fun _ => evIte (fun _ => evIte (fun _ => join) (fun h => absurd rfl h)) (fun h => absurd (by simp [sv, x2, x3]) h))
end Go.Proofs.Ytkaammmkejiafaa.Pure
