import PyProof.Rows.All
import Wide.All
import OpenK.AllK
import Wide.FinOn
import HandS.ForMost
import HandS.WideBits
import HandS.IsInst
import HandS.Conv
import HandS.Steps
import HandS.Rev
import HandS.RevRange
import HandS.Exc
import HandS.ExcOwn
import HandS.WordsExc
import HandS.TryOnly
import PySem.Challenge.RW_boxheap_k11_the_signed_sum
set_option Elab.async false
set_option linter.all false
set_option maxRecDepth 100000
set_option maxHeartbeats 4000000
namespace DL
open PySem PySem.Spec PyProof.Rows L2

/-! ### cells, worlds -/
inductive Cell where
  | dat (d : PyData)
  | own (ds : List PyData)
  | rows (rs : List (List PyData))
abbrev DEnv := List (Option Cell)

theorem same_rd {H H' : Hp} {a : Addr} {u : HO} (e : Same H H') (h : Rd H a u) : Rd H' a u := by
  rcases h with h | ⟨o, h⟩
  · exact .inl (e _ _ h)
  · exact .inr ⟨o, e _ _ h⟩

/-! ### a value that stands for data -/
mutual
inductive Rp (H : Hp) : V → PyData → Prop
  | non : Rp H .non .none
  | bl (b : Bool) : Rp H (.bl b) (.bool b)
  | int (i : Int) : Rp H (.int i) (.int i)
  | str (x : Str) : Rp H (.str x) (.str x)
  | lst {a : Addr} {xs : List V} {ds : List PyData} : Rd H a (.lst xs) → RpAll H xs ds → Rp H (.ref a) (.list ds)
  | tup {a : Addr} {xs : List V} {ds : List PyData} : Rd H a (.tup xs) → RpAll H xs ds → Rp H (.ref a) (.tuple ds)
inductive RpAll (H : Hp) : List V → List PyData → Prop
  | nil : RpAll H [] []
  | cons {v : V} {vs : List V} {d : PyData} {ds : List PyData} : Rp H v d → RpAll H vs ds → RpAll H (v :: vs) (d :: ds)
end

mutual
theorem rp_mono {F F' : Hp} (e : Same F F') : ∀ (d : PyData) (v : V), Rp F v d → Rp F' v d
  | .none, v, h => by cases h; exact .non
  | .bool b, v, h => by cases h; exact .bl b
  | .int i, v, h => by cases h; exact .int i
  | .str x, v, h => by cases h; exact .str x
  | .list ds, v, h => by cases h with | lst a b => exact .lst (same_rd e a) (rpAll_mono e ds _ b)
  | .tuple ds, v, h => by cases h with | tup a b => exact .tup (same_rd e a) (rpAll_mono e ds _ b)
  | .dict _, v, h => by cases h
theorem rpAll_mono {F F' : Hp} (e : Same F F') : ∀ (ds : List PyData) (vs : List V), RpAll F vs ds → RpAll F' vs ds
  | [], vs, h => by cases h; exact .nil
  | d :: ds, vs, h => by cases h with | cons a b => exact .cons (rp_mono e d _ a) (rpAll_mono e ds _ b)
end

/-- F0, F: frozen data at the entry, now; G0: what must stand to the end; H: the heap now -/
structure Wld (F0 G0 F H : Hp) : Prop where
  fh : Same F H
  gh : Same G0 H
  ff : Same F0 F
  nf : ∀ b, F0 b = none → G0 b ≠ none → F b = none

theorem Wld.refl {F H : Hp} (h : Same F H) : Wld F H F H := ⟨h, Same.refl _, Same.refl _, fun _ a _ => a⟩
theorem some_of_same {F H : Hp} (h : Same F H) {b : Addr} (n : F b ≠ none) : H b ≠ none := fun e => n (h.free e)
theorem Wld.trans {F0 G0 F H F2 H2 : Hp} (a : Wld F0 G0 F H) (b : Wld F H F2 H2) : Wld F0 G0 F2 H2 :=
  ⟨b.fh, a.gh.trans b.gh, a.ff.trans b.ff, fun c n g => b.nf c (a.nf c n g) (some_of_same a.gh g)⟩
theorem same_upd {H : Hp} {p : Addr} {o : HO} (h : H p = none) : Same H (upd H p o) := fun b x e => by
  rw [upd_ne (ne_of_none e h)]
  exact e
theorem same_upd2 {F H : Hp} {p : Addr} {o : HO} (e : Same F H) (h : F p = none) : Same F (upd H p o) := fun b x q => by
  rw [upd_ne (ne_of_none q h)]
  exact e _ _ q
/-- a new object, frozen -/
theorem Wld.new {F0 G0 F H : Hp} {p : Addr} {o : HO} (a : Wld F0 G0 F H) (h : H p = none) : Wld F0 G0 (upd F p o) (upd H p o) :=
  ⟨fun b x e => by
    by_cases hb : b = p
    · subst hb
      rw [upd_same] at e ⊢
      exact e
    · rw [upd_ne hb] at e ⊢
      exact a.fh _ _ e, a.gh.trans (same_upd h), a.ff.trans (same_upd (a.fh.free h)), fun b n g => by
    have hb : b ≠ p := fun e => by
      subst e
      exact g (a.gh.free h)
    rw [upd_ne hb]
    exact a.nf b n g⟩
/-- a new object, owned -/
theorem Wld.newOwn {F0 G0 F H : Hp} {p : Addr} {o : HO} (a : Wld F0 G0 F H) (h : H p = none) : Wld F0 G0 F (upd H p o) :=
  ⟨same_upd2 a.fh (a.fh.free h), same_upd2 a.gh (a.gh.free h), a.ff, a.nf⟩
/-- an owned object changes -/
theorem Wld.mut {F0 G0 F H : Hp} {p : Addr} {o : HO} (a : Wld F0 G0 F H) (hf : F p = none) (hg : G0 p = none) : Wld F0 G0 F (upd H p o) :=
  ⟨same_upd2 a.fh hf, same_upd2 a.gh hg, a.ff, a.nf⟩
/-- an owned object is frozen as it stands -/
theorem Wld.freeze {F0 G0 F H : Hp} {p : Addr} {o : HO} (a : Wld F0 G0 F H) (hp : H p = some o) (hf : F p = none) (hg : G0 p = none) : Wld F0 G0 (upd F p o) H :=
  ⟨fun b x e => by
    by_cases hb : b = p
    · subst hb
      rw [upd_same] at e
      rw [hp]
      exact e
    · rw [upd_ne hb] at e
      exact a.fh _ _ e, a.gh, a.ff.trans (same_upd hf), fun b n g => by
    have hb : b ≠ p := fun e => by
      subst e
      exact g hg
    rw [upd_ne hb]
    exact a.nf b n g⟩

/-! ### what a value stands for -/
def RowAt (F H : Hp) (a : Addr) (r : List PyData) : Prop := F a = none ∧ ∃ xs, H a = some (.lst xs) ∧ RpAll F xs r
def RepC (F H : Hp) (v : V) : Cell → List Addr → Prop
  | .dat d, ps => ps = [] ∧ Rp F v d
  | .own ds, ps => ∃ p, v = .ref p ∧ ps = [p] ∧ RowAt F H p ds
  | .rows rs, ps => ∃ (p : Addr) (as : List Addr), v = .ref p ∧ ps = p :: as ∧ F p = none ∧ H p = some (.lst (as.map V.ref)) ∧ Paired (RowAt F H) as rs

section
variable {F H F2 H2 : Hp} {v : V} {c : Cell} {ps : List Addr} {p a : Addr} {r : List PyData}
theorem RowAt.grow (w : Wld F H F2 H2) (h : RowAt F H a r) : RowAt F2 H2 a r := by
  obtain ⟨n, xs, e, d⟩ := h
  exact ⟨w.nf a n (by rw [e]; exact fun z => by cases z), xs, w.gh _ _ e, rpAll_mono w.ff _ _ d⟩
theorem RepC.grow (w : Wld F H F2 H2) (h : RepC F H v c ps) : RepC F2 H2 v c ps := by
  cases c with
  | dat d => exact ⟨h.1, rp_mono w.ff _ _ h.2⟩
  | own ds =>
    obtain ⟨p, e1, e2, e3⟩ := h
    exact ⟨p, e1, e2, e3.grow w⟩
  | rows rs =>
    obtain ⟨p, as, e1, e2, n, e3, q⟩ := h
    exact ⟨p, as, e1, e2, w.nf p n (by rw [e3]; exact fun z => by cases z), w.gh _ _ e3, Paired.mapP q fun _ _ x => x.grow w⟩
theorem paired_mem {α β : Type} {G : α → β → Prop} {as : List α} {bs : List β} (h : Paired G as bs) : ∀ a ∈ as, ∃ b, G a b := by
  induction h with
  | nil => intro a ha; cases ha
  | cons x _ ih =>
    intro a ha
    cases ha with
    | head => exact ⟨_, x⟩
    | tail _ ha => exact ih a ha
theorem RepC.in (h : RepC F H v c ps) (hp : p ∈ ps) : F p = none ∧ ∃ xs, H p = some (.lst xs) := by
  cases c with
  | dat d => rw [h.1] at hp; cases hp
  | own ds =>
    obtain ⟨q, e1, e2, e3, xs, e4, _⟩ := h
    rw [e2] at hp
    obtain rfl : p = q := by simpa using hp
    exact ⟨e3, xs, e4⟩
  | rows rs =>
    obtain ⟨q, as, e1, e2, n, e3, e4⟩ := h
    rw [e2] at hp
    cases hp with
    | head => exact ⟨n, _, e3⟩
    | tail _ hp =>
      obtain ⟨b, x, xs, y, _⟩ := paired_mem e4 p hp
      exact ⟨x, xs, y⟩
/-- another owned object changes -/
theorem RowAt.other {o : HO} (h : RowAt F H a r) (ne : a ≠ p) : RowAt F (upd H p o) a r := by
  obtain ⟨n, xs, e, d⟩ := h
  exact ⟨n, xs, by rw [upd_ne ne]; exact e, d⟩
theorem paired_map {α β : Type} {G G' : α → β → Prop} {as : List α} {bs : List β} (h : Paired G as bs) (f : ∀ a ∈ as, ∀ b, G a b → G' a b) : Paired G' as bs := by
  induction h with
  | nil => exact .nil
  | cons x _ ih => exact .cons (f _ (List.mem_cons_self ..) _ x) (ih fun a ha => f a (List.mem_cons_of_mem _ ha))
theorem RepC.other {o : HO} (h : RepC F H v c ps) (ne : p ∉ ps) : RepC F (upd H p o) v c ps := by
  cases c with
  | dat d => exact h
  | own ds =>
    obtain ⟨q, e1, e2, e3⟩ := h
    refine ⟨q, e1, e2, e3.other fun e => ne ?_⟩
    rw [e2, e]
    exact List.mem_singleton.mpr rfl
  | rows rs =>
    obtain ⟨q, as, e1, e2, n, e3, e4⟩ := h
    refine ⟨q, as, e1, e2, n, ?_, paired_map e4 fun a ha b x => x.other fun e => ne ?_⟩
    · rw [upd_ne fun e => ne (by rw [e2, e]; exact List.mem_cons_self ..)]
      exact e3
    · rw [e2, ← e]
      exact List.mem_cons_of_mem _ ha
/-- another owned object is frozen -/
theorem RowAt.otherF {o : HO} (h : RowAt F H a r) (ne : a ≠ p) (hf : F p = none) : RowAt (upd F p o) H a r := by
  obtain ⟨n, xs, e, d⟩ := h
  exact ⟨by rw [upd_ne ne]; exact n, xs, e, rpAll_mono (same_upd hf) _ _ d⟩
theorem RepC.otherF {o : HO} (h : RepC F H v c ps) (ne : p ∉ ps) (hf : F p = none) : RepC (upd F p o) H v c ps := by
  cases c with
  | dat d => exact ⟨h.1, rp_mono (same_upd hf) _ _ h.2⟩
  | own ds =>
    obtain ⟨q, e1, e2, e3⟩ := h
    refine ⟨q, e1, e2, e3.otherF (fun e => ne ?_) hf⟩
    rw [e2, e]
    exact List.mem_singleton.mpr rfl
  | rows rs =>
    obtain ⟨q, as, e1, e2, n, e3, e4⟩ := h
    refine ⟨q, as, e1, e2, ?_, e3, paired_map e4 fun a ha b x => x.otherF (fun e => ne ?_) hf⟩
    · rw [upd_ne fun e => ne (by rw [e2, e]; exact List.mem_cons_self ..)]
      exact n
    · rw [e2, ← e]
      exact List.mem_cons_of_mem _ ha
end

/-! ### slots -/
structure SatW (G F H : Hp) (σ : L2.St) (ρ : DEnv) (fp : Nat → List Addr) : Prop where
  len : σ.length = ρ.length
  rep : ∀ (i : Nat) (c : Cell), ρ[i]? = some (some c) → ∃ v, σ[i]? = some (some v) ∧ RepC F H v c (fp i)
  emp : ∀ i : Nat, (∀ c, ρ[i]? ≠ some (some c)) → fp i = []
  fr : ∀ (i : Nat) (p : Addr), p ∈ fp i → G p = none
  nd : ∀ i : Nat, (fp i).Nodup
  sep : ∀ (i j : Nat) (p : Addr), p ∈ fp i → p ∈ fp j → i = j
def Sat (G F H : Hp) (σ : L2.St) (ρ : DEnv) : Prop := ∃ fp, SatW G F H σ ρ fp

section
variable {G F H F2 H2 : Hp} {σ : L2.St} {ρ : DEnv} {fp : Nat → List Addr} {c : Cell} {v : V} {i : Nat} {p : Addr}
theorem SatW.grow (w : Wld F H F2 H2) (s : SatW G F H σ ρ fp) : SatW G F2 H2 σ ρ fp :=
  ⟨s.len, fun i c e => let ⟨v, e1, e2⟩ := s.rep i c e; ⟨v, e1, e2.grow w⟩, s.emp, s.fr, s.nd, s.sep⟩
theorem Sat.grow (w : Wld F H F2 H2) (s : Sat G F H σ ρ) : Sat G F2 H2 σ ρ := let ⟨fp, s⟩ := s; ⟨fp, s.grow w⟩
theorem SatW.cell (s : SatW G F H σ ρ fp) (hp : p ∈ fp i) : ∃ c v, ρ[i]? = some (some c) ∧ σ[i]? = some (some v) ∧ RepC F H v c (fp i) := by
  by_cases h : ∀ c, ρ[i]? ≠ some (some c)
  · rw [s.emp i h] at hp; cases hp
  · obtain ⟨c, hc⟩ := Classical.not_forall.mp h
    have hc := Classical.not_not.mp hc
    obtain ⟨v, e1, e2⟩ := s.rep i c hc
    exact ⟨c, v, hc, e1, e2⟩
theorem SatW.in (s : SatW G F H σ ρ fp) (hp : p ∈ fp i) : F p = none ∧ G p = none ∧ ∃ xs, H p = some (.lst xs) := by
  obtain ⟨c, v, _, _, r⟩ := s.cell hp
  obtain ⟨a, b⟩ := r.in hp
  exact ⟨a, s.fr i p hp, b⟩
/-- a slot is stored -/
theorem SatW.set (s : SatW G F H σ ρ fp) {ps : List Addr} (hi : i < ρ.length) (r : RepC F H v c ps) (hg : ∀ p ∈ ps, G p = none) (nd : ps.Nodup) (ha : ∀ j, j ≠ i → ∀ p ∈ ps, p ∉ fp j) :
    SatW G F H (σ.set i (some v)) (ρ.set i (some c)) (fun j => if j = i then ps else fp j) := by
  have hl := s.len
  refine ⟨by rw [List.length_set, List.length_set, hl], fun j c' e => ?_, fun j e => ?_, fun j p hp => ?_, fun j => ?_, fun j k p hp hq => ?_⟩
  · by_cases hj : j = i
    · subst hj
      rw [List.getElem?_set_self hi] at e
      cases e
      refine ⟨v, by rw [List.getElem?_set_self (by omega)], ?_⟩
      rw [if_pos rfl]
      exact r
    · rw [List.getElem?_set_ne (Ne.symm hj)] at e
      obtain ⟨v', e1, e2⟩ := s.rep j c' e
      refine ⟨v', by rw [List.getElem?_set_ne (Ne.symm hj)]; exact e1, ?_⟩
      rw [if_neg hj]
      exact e2
  · by_cases hj : j = i
    · subst hj
      exact absurd (by rw [List.getElem?_set_self hi]) (e c)
    · show (if j = i then ps else fp j) = []
      rw [if_neg hj]
      refine s.emp j fun c' => ?_
      have := e c'
      rw [List.getElem?_set_ne (Ne.symm hj)] at this
      exact this
  · by_cases hj : j = i
    · rw [if_pos hj] at hp; exact hg p hp
    · rw [if_neg hj] at hp; exact s.fr j p hp
  · by_cases hj : j = i
    · show (if j = i then ps else fp j).Nodup
      rw [if_pos hj]; exact nd
    · show (if j = i then ps else fp j).Nodup
      rw [if_neg hj]; exact s.nd j
  · by_cases hj : j = i
    · by_cases hk : k = i
      · rw [hj, hk]
      · rw [if_pos hj] at hp
        rw [if_neg hk] at hq
        exact absurd hq (ha k hk p hp)
    · rw [if_neg hj] at hp
      by_cases hk : k = i
      · rw [if_pos hk] at hq
        exact absurd hp (ha j hj p hq)
      · rw [if_neg hk] at hq
        exact s.sep j k p hp hq
/-- a slot is stored with what is new -/
theorem Sat.setNew {F1 H1 : Hp} (s : Sat G F H σ ρ) (w : Wld F H F1 H1) {ps : List Addr} (gh : Same G H) (hi : i < ρ.length) (r : RepC F1 H1 v c ps) (hn : ∀ p ∈ ps, H p = none) (nd : ps.Nodup) :
    Sat G F1 H1 (σ.set i (some v)) (ρ.set i (some c)) := by
  obtain ⟨fp, s⟩ := s
  refine ⟨_, (s.grow w).set hi r (fun p hp => gh.free (hn p hp)) nd fun j _ p hp hq => ?_⟩
  obtain ⟨_, _, xs, e⟩ := s.in hq
  rw [hn p hp] at e
  cases e
/-- the object at p, owned by slot i, changes; the value in the slot stays -/
theorem SatW.write (s : SatW G F H σ ρ fp) {o : HO} (hp : p ∈ fp i) (hi : σ[i]? = some (some v)) {ps : List Addr} (r : RepC F (upd H p o) v c ps) (hs : ∀ q ∈ ps, q ∈ fp i) (nd : ps.Nodup) :
    SatW G F (upd H p o) σ (ρ.set i (some c)) (fun j => if j = i then ps else fp j) := by
  have hl := s.len
  have hiσ : i < σ.length := (List.getElem?_eq_some_iff.mp hi).1
  refine ⟨by rw [List.length_set, hl], fun j c' e => ?_, fun j e => ?_, fun j q hq => ?_, fun j => ?_, fun j k q hq hk => ?_⟩
  · by_cases hj : j = i
    · subst hj
      rw [List.getElem?_set_self (by omega)] at e
      cases e
      refine ⟨v, hi, ?_⟩
      rw [if_pos rfl]
      exact r
    · rw [List.getElem?_set_ne (Ne.symm hj)] at e
      obtain ⟨v', e1, e2⟩ := s.rep j c' e
      refine ⟨v', e1, ?_⟩
      rw [if_neg hj]
      exact e2.other fun hq => hj (s.sep j i p hq hp)
  · by_cases hj : j = i
    · subst hj
      exact absurd (by rw [List.getElem?_set_self (by omega)]) (e c)
    · show (if j = i then ps else fp j) = []
      rw [if_neg hj]
      refine s.emp j fun c' => ?_
      have := e c'
      rw [List.getElem?_set_ne (Ne.symm hj)] at this
      exact this
  · by_cases hj : j = i
    · rw [if_pos hj] at hq; exact s.fr i q (hs q hq)
    · rw [if_neg hj] at hq; exact s.fr j q hq
  · by_cases hj : j = i
    · show (if j = i then ps else fp j).Nodup
      rw [if_pos hj]; exact nd
    · show (if j = i then ps else fp j).Nodup
      rw [if_neg hj]; exact s.nd j
  · by_cases hj : j = i
    · by_cases hk' : k = i
      · rw [hj, hk']
      · rw [if_pos hj] at hq
        rw [if_neg hk'] at hk
        rw [hj]
        exact s.sep i k q (hs q hq) hk
    · rw [if_neg hj] at hq
      by_cases hk' : k = i
      · rw [if_pos hk'] at hk
        rw [hk']
        exact s.sep j i q hq (hs q hk)
      · rw [if_neg hk'] at hk
        exact s.sep j k q hq hk
/-- an owned object of slot i is frozen -/
theorem SatW.frz (s : SatW G F H σ ρ fp) {o : HO} (hp : p ∈ fp i) (hi : σ[i]? = some (some v)) {ps : List Addr} (r : RepC (upd F p o) H v c ps) (hs : ∀ q ∈ ps, q ∈ fp i) (nd : ps.Nodup) :
    SatW G (upd F p o) H σ (ρ.set i (some c)) (fun j => if j = i then ps else fp j) := by
  have hl := s.len
  have hiσ : i < σ.length := (List.getElem?_eq_some_iff.mp hi).1
  have hf := (s.in hp).1
  refine ⟨by rw [List.length_set, hl], fun j c' e => ?_, fun j e => ?_, fun j q hq => ?_, fun j => ?_, fun j k q hq hk => ?_⟩
  · by_cases hj : j = i
    · subst hj
      rw [List.getElem?_set_self (by omega)] at e
      cases e
      refine ⟨v, hi, ?_⟩
      rw [if_pos rfl]
      exact r
    · rw [List.getElem?_set_ne (Ne.symm hj)] at e
      obtain ⟨v', e1, e2⟩ := s.rep j c' e
      refine ⟨v', e1, ?_⟩
      rw [if_neg hj]
      exact e2.otherF (fun hq => hj (s.sep j i p hq hp)) hf
  · by_cases hj : j = i
    · subst hj
      exact absurd (by rw [List.getElem?_set_self (by omega)]) (e c)
    · show (if j = i then ps else fp j) = []
      rw [if_neg hj]
      refine s.emp j fun c' => ?_
      have := e c'
      rw [List.getElem?_set_ne (Ne.symm hj)] at this
      exact this
  · by_cases hj : j = i
    · rw [if_pos hj] at hq; exact s.fr i q (hs q hq)
    · rw [if_neg hj] at hq; exact s.fr j q hq
  · by_cases hj : j = i
    · show (if j = i then ps else fp j).Nodup
      rw [if_pos hj]; exact nd
    · show (if j = i then ps else fp j).Nodup
      rw [if_neg hj]; exact s.nd j
  · by_cases hj : j = i
    · by_cases hk' : k = i
      · rw [hj, hk']
      · rw [if_pos hj] at hq
        rw [if_neg hk'] at hk
        rw [hj]
        exact s.sep i k q (hs q hq) hk
    · rw [if_neg hj] at hq
      by_cases hk' : k = i
      · rw [if_pos hk'] at hk
        rw [hk']
        exact s.sep j i q hq (hs q hk)
      · rw [if_neg hk'] at hk
        exact s.sep j k q hq hk
end

/-! ### the judgements -/
def DC (te : TE) (ρ : DEnv) (c : Cell) : Prop := ∀ (G F H : Hp) (σ : L2.St), Same F H → Sat G F H σ ρ →
  ∀ Q : VK, (∀ v F2 H2 ps, Wld F H F2 H2 → RepC F2 H2 v c ps → (∀ p ∈ ps, H p = none) → ps.Nodup → Q v H2) → te σ H Q
abbrev DE (te : TE) (ρ : DEnv) (d : PyData) : Prop := DC te ρ (.dat d)
def DT (tt : TT) (ρ : DEnv) (b : Bool) : Prop := ∀ (G F H : Hp) (σ : L2.St), Same F H → Sat G F H σ ρ →
  ∀ Q : Bool → Hp → Prop, (∀ F2 H2, Wld F H F2 H2 → Q b H2) → tt σ H Q
def DA (ta : TA) (ρ : DEnv) (ds : List PyData) : Prop := ∀ (G F H : Hp) (σ : L2.St), Same F H → Sat G F H σ ρ →
  ∀ Q : List V → Hp → Prop, (∀ vs F2 H2, Wld F H F2 H2 → RpAll F2 vs ds → Q vs H2) → ta σ H Q

section
variable {ρ : DEnv} {te ta tb : TE} {d e x y : PyData} {i j : Int} {b : Bool} {c : Cell}
theorem de_mk (h : ∀ (G F H : Hp) (σ : L2.St), Same F H → Sat G F H σ ρ → ∀ Q : VK, (∀ v F2 H2, Wld F H F2 H2 → Rp F2 v d → Q v H2) → te σ H Q) : DE te ρ d :=
  fun G F H σ f s Q q => h G F H σ f s Q fun v F2 H2 w r => q v F2 H2 [] w ⟨rfl, r⟩ (fun _ z => by cases z) List.nodup_nil
theorem de_run (h : DE te ρ d) {G F H : Hp} {σ : L2.St} (f : Same F H) (s : Sat G F H σ ρ) {Q : VK} (q : ∀ v F2 H2, Wld F H F2 H2 → Rp F2 v d → Q v H2) : te σ H Q :=
  h G F H σ f s Q fun v F2 H2 ps w r _ _ => q v F2 H2 w r.2
/-- two in a row -/
theorem de_two (ha : DE ta ρ x) (hb : DE tb ρ y) {G F H : Hp} {σ : L2.St} (f : Same F H) (s : Sat G F H σ ρ) {R : V → V → Hp → Prop}
    (q : ∀ v u F2 H2, Wld F H F2 H2 → Rp F2 v x → Rp F2 u y → R v u H2) : ta σ H fun v H1 => tb σ H1 fun u H2 => R v u H2 :=
  de_run ha f s fun v F1 H1 w1 r1 => de_run hb w1.fh (s.grow w1) fun u F2 H2 w2 r2 => q v u F2 H2 (w1.trans w2) (rp_mono w2.ff _ _ r1) r2
theorem rp_int {F : Hp} {v : V} (h : Rp F v (.int i)) : v = .int i := by cases h; rfl
theorem rp_bl {F : Hp} {v : V} (h : Rp F v (.bool b)) : v = .bl b := by cases h; rfl
theorem rp_str {F : Hp} {v : V} {z : Str} (h : Rp F v (.str z)) : v = .str z := by cases h; rfl
theorem rp_non {F : Hp} {v : V} (h : Rp F v .none) : v = .non := by cases h; rfl
theorem rp_list {F : Hp} {v : V} {ds : List PyData} (h : Rp F v (.list ds)) : ∃ a xs, v = .ref a ∧ Rd F a (.lst xs) ∧ RpAll F xs ds := by
  cases h with | lst a b => exact ⟨_, _, rfl, a, b⟩
theorem rp_tup {F : Hp} {v : V} {ds : List PyData} (h : Rp F v (.tuple ds)) : ∃ a xs, v = .ref a ∧ Rd F a (.tup xs) ∧ RpAll F xs ds := by
  cases h with | tup a b => exact ⟨_, _, rfl, a, b⟩
theorem de_var {k : Nat} (h : ρ[k]? = some (some (.dat d))) : DE (tVar k) ρ d := de_mk fun G F H σ f ⟨fp, s⟩ Q q => by
  obtain ⟨v, e, r⟩ := s.rep k _ h
  exact ⟨v, e, q v F H (.refl f) r.2⟩
theorem de_int : DE (tC (.int i)) ρ (.int i) := de_mk fun G F H σ f s Q q => q _ F H (.refl f) (.int i)
theorem de_bl : DE (tC (.bl b)) ρ (.bool b) := de_mk fun G F H σ f s Q q => q _ F H (.refl f) (.bl b)
theorem de_str {z : Str} : DE (tC (.str z)) ρ (.str z) := de_mk fun G F H σ f s Q q => q _ F H (.refl f) (.str z)
theorem de_non : DE (tC .non) ρ .none := de_mk fun G F H σ f s Q q => q _ F H (.refl f) .non
theorem de_rI0 {g : Int → Int → V} (ha : DE ta ρ (.int i)) (hb : DE tb ρ (.int j)) (hd : ∀ F, Rp F (g i j) d) : DE (tOp (rI0 g) ta tb) ρ d := de_mk fun G F H σ f s Q q =>
  de_two ha hb f s fun v u F2 H2 w r1 r2 => ⟨i, j, rp_int r1, rp_int r2, q _ F2 H2 w (hd F2)⟩
theorem de_rI {C : Int → Int → Prop} {g : Int → Int → V} (ha : DE ta ρ (.int i)) (hb : DE tb ρ (.int j)) (hc : C i j) (hd : ∀ F, Rp F (g i j) d) : DE (tOp (rI C g) ta tb) ρ d := de_mk fun G F H σ f s Q q =>
  de_two ha hb f s fun v u F2 H2 w r1 r2 => ⟨i, j, rp_int r1, rp_int r2, hc, q _ F2 H2 w (hd F2)⟩
theorem rpAll_get {F : Hp} : ∀ {xs : List V} {ds : List PyData} {k : Nat} {d : PyData}, RpAll F xs ds → ds[k]? = some d → ∃ v, xs[k]? = some v ∧ Rp F v d
  | _, _, _, _, .nil, e => by simp at e
  | _, _, 0, _, .cons a _, e => by
    obtain rfl := Option.some.inj e
    exact ⟨_, rfl, a⟩
  | _, _, k + 1, _, .cons _ b, e => rpAll_get (k := k) b e
theorem rpAll_len {F : Hp} : ∀ {xs : List V} {ds : List PyData}, RpAll F xs ds → xs.length = ds.length
  | _, _, .nil => rfl
  | _, _, .cons _ b => congrArg (· + 1) (rpAll_len b)
theorem rpAll_at {F : Hp} {xs : List V} {ds : List PyData} (h : RpAll F xs ds) (e : atI ds i = some d) : ∃ v, atI xs i = some v ∧ Rp F v d := by
  unfold atI at e ⊢
  rw [rpAll_len h]
  cases hk : ixN ds.length i with
  | none => rw [hk] at e; cases e
  | some k =>
    rw [hk] at e
    exact rpAll_get h e
theorem rpAll_append {F : Hp} : ∀ {xs ys : List V} {ds es : List PyData}, RpAll F xs ds → RpAll F ys es → RpAll F (xs ++ ys) (ds ++ es)
  | _, _, _, _, .nil, b => b
  | _, _, _, _, .cons a b, c => .cons a (rpAll_append b c)
theorem da_nil : DA tNil ρ [] := fun G F H σ f s Q q => q [] F H (.refl f) .nil
theorem da_cons {tr : TA} {ds : List PyData} (h : DE te ρ d) (hr : DA tr ρ ds) : DA (tCons te tr) ρ (d :: ds) := fun G F H σ f s Q q =>
  de_run h f s fun v F1 H1 w1 r1 => hr G F1 H1 σ w1.fh (s.grow w1) _ fun vs F2 H2 w2 r2 => q (v :: vs) F2 H2 (w1.trans w2) (.cons (rp_mono w2.ff _ _ r1) r2)
end
end DL
namespace DL
open PySem PySem.Spec PyProof.Rows L2

theorem rp_dpAux {K : PySem.W.Frag} {H : Hp} {a : Addr} {xs : List V} (h : Rd H a (.lst xs)) : SqL K H a xs := .inl h
theorem rp_dpAuxT {K : PySem.W.Frag} {H : Hp} {a : Addr} {xs : List V} (h : Rd H a (.tup xs)) : SqT K H a xs := .inl h
mutual
theorem rp_dp {K : PySem.W.Frag} {F : Hp} : ∀ (d : PyData) (v : V), Rp F v d → Dp K F v d
  | .none, v, h => by cases h; exact .non
  | .bool b, v, h => by cases h; exact .bl b
  | .int i, v, h => by cases h; exact .int i
  | .str x, v, h => by cases h; exact .str x
  | .list ds, v, h => by cases h with | lst a b => exact .lst (.inl a) (rpAll_dp ds _ b)
  | .tuple ds, v, h => by cases h with | tup a b => exact .tup (.inl a) (rpAll_dp ds _ b)
  | .dict _, v, h => by cases h
theorem rpAll_dp {K : PySem.W.Frag} {F : Hp} : ∀ (ds : List PyData) (vs : List V), RpAll F vs ds → DpAll K F vs ds
  | [], vs, h => by cases h; exact .nil
  | d :: ds, vs, h => by cases h with | cons a b => exact .cons (rp_dp d _ a) (rpAll_dp ds _ b)
end

/-! ### flat data: no list within -/
mutual
def flat : PyData → Bool
  | .none => true
  | .bool _ => true
  | .int _ => true
  | .str _ => true
  | .list _ => false
  | .tuple ds => flatAll ds
  | .dict _ => false
def flatAll : List PyData → Bool
  | [] => true
  | d :: ds => flat d && flatAll ds
end
theorem flatAll_iff : ∀ {ds : List PyData}, flatAll ds = true ↔ ∀ d ∈ ds, flat d = true
  | [] => by simp [flatAll]
  | d :: ds => by simp [flatAll, flatAll_iff (ds := ds)]
def flatC : Cell → Bool
  | .dat d => flat d
  | .own ds => flatAll ds
  | .rows rs => rs.all flatAll
def frzC : Cell → Cell
  | .dat d => .dat d
  | .own ds => .dat (.list ds)
  | .rows rs => .dat (.list (rs.map .list))
def frz (ρ : DEnv) : DEnv := ρ.map (Option.map frzC)

section
variable {G F H F2 H2 F' : Hp} {σ : L2.St} {ρ : DEnv} {v : V} {c : Cell} {ps : List Addr} {p : Addr}
mutual
/-- flat data does not lean on lists -/
theorem rp_flat (k : ∀ b u, F b = some u → (∀ xs, u ≠ .lst xs) → F' b = some u) : ∀ (d : PyData) (v : V), flat d = true → Rp F v d → Rp F' v d
  | .none, v, _, h => by cases h; exact .non
  | .bool b, v, _, h => by cases h; exact .bl b
  | .int i, v, _, h => by cases h; exact .int i
  | .str x, v, _, h => by cases h; exact .str x
  | .list ds, v, f, h => by simp [flat] at f
  | .tuple ds, v, f, h => by
    cases h with
    | tup a b =>
      refine .tup ?_ (rpAll_flat k ds _ (by simpa [flat] using f) b)
      rcases a with a | ⟨o, a⟩
      · exact .inl (k _ _ a fun _ z => by cases z)
      · exact .inr ⟨o, k _ _ a fun _ z => by cases z⟩
  | .dict _, v, _, h => by cases h
theorem rpAll_flat (k : ∀ b u, F b = some u → (∀ xs, u ≠ .lst xs) → F' b = some u) : ∀ (ds : List PyData) (vs : List V), flatAll ds = true → RpAll F vs ds → RpAll F' vs ds
  | [], vs, _, h => by cases h; exact .nil
  | d :: ds, vs, f, h => by
    have f' : flat d = true ∧ flatAll ds = true := by simpa [flatAll] using f
    cases h with | cons a b => exact .cons (rp_flat k d _ f'.1 a) (rpAll_flat k ds _ f'.2 b)
end
theorem rows_flat (k : ∀ b u, F b = some u → (∀ xs, u ≠ .lst xs) → F' b = some u) (kn : ∀ b, F b = none → F' b = none) : ∀ {as : List Addr} {rs : List (List PyData)}, rs.all flatAll = true → Paired (RowAt F H) as rs → Paired (RowAt F' H) as rs
  | _, _, _, .nil => .nil
  | _, _, f, .cons ⟨n, xs, e3, e4⟩ t => by
    simp only [List.all_cons, Bool.and_eq_true] at f
    exact .cons ⟨kn _ n, xs, e3, rpAll_flat k _ _ f.1 e4⟩ (rows_flat k kn f.2 t)
theorem rows_frz (ff : Same F F') : ∀ {as : List Addr} {rs : List (List PyData)}, Paired (RowAt F H) as rs → (∀ a ∈ as, F' a = H a) → RpAll F' (as.map V.ref) (rs.map .list)
  | _, _, .nil, _ => .nil
  | _, _, .cons ⟨n, xs, x1, x2⟩ t, h => .cons (.lst (.inl (by rw [h _ (List.mem_cons_self ..)]; exact x1)) (rpAll_mono ff _ _ x2)) (rows_frz ff t fun a ha => h a (List.mem_cons_of_mem _ ha))
theorem RepC.flat (k : ∀ b u, F b = some u → (∀ xs, u ≠ .lst xs) → F' b = some u) (kn : ∀ b, F b = none → F' b = none) (f : flatC c = true) (h : RepC F H v c ps) : RepC F' H v c ps := by
  cases c with
  | dat d => exact ⟨h.1, rp_flat k _ _ f h.2⟩
  | own ds =>
    obtain ⟨p, e1, e2, n, xs, e3, e4⟩ := h
    exact ⟨p, e1, e2, kn p n, xs, e3, rpAll_flat k _ _ f e4⟩
  | rows rs =>
    obtain ⟨p, as, e1, e2, n, e3, e4⟩ := h
    exact ⟨p, as, e1, e2, kn p n, e3, rows_flat k kn f e4⟩

open Classical in
/-- all owned objects frozen at once -/
theorem sat_frz (f : Same F H) (s : Sat G F H σ ρ) : ∃ F', Same F F' ∧ Same F' H ∧ Sat G F' H σ (frz ρ) ∧ (∀ b, F' b ≠ F b → F b = none ∧ G b = none ∧ ∃ xs, H b = some (.lst xs)) := by
  obtain ⟨fp, s⟩ := s
  let F' : Hp := fun b => if ∃ i, b ∈ fp i then H b else F b
  have hin : ∀ b i, b ∈ fp i → F' b = H b := fun b i hb => if_pos ⟨i, hb⟩
  have hout : ∀ b, (¬ ∃ i, b ∈ fp i) → F' b = F b := fun b hb => if_neg hb
  have ff : Same F F' := fun b o e => by
    by_cases hb : ∃ i, b ∈ fp i
    · obtain ⟨i, hi⟩ := hb
      rw [(s.in hi).1] at e
      cases e
    · rw [hout b hb]
      exact e
  have fh : Same F' H := fun b o e => by
    by_cases hb : ∃ i, b ∈ fp i
    · obtain ⟨i, hi⟩ := hb
      rw [hin b i hi] at e
      exact e
    · rw [hout b hb] at e
      exact f _ _ e
  refine ⟨F', ff, fh, ⟨fun _ => [], ?_, fun i c e => ?_, fun _ _ => rfl, fun _ _ h => absurd h (List.not_mem_nil), fun _ => List.nodup_nil, fun _ _ _ h => absurd h (List.not_mem_nil)⟩, fun b hb => ?_⟩
  · rw [s.len]
    exact (List.length_map _).symm
  · unfold frz at e
    rw [List.getElem?_map] at e
    cases e1 : ρ[i]? with
    | none => rw [e1] at e; cases e
    | some oc =>
      rw [e1] at e
      cases oc with
      | none => cases e
      | some c0 =>
        have e2 : frzC c0 = c := Option.some.inj (Option.some.inj e)
        obtain ⟨v, e3, r⟩ := s.rep i c0 e1
        refine ⟨v, e3, ?_⟩
        rw [← e2]
        cases c0 with
        | dat d => exact ⟨rfl, rp_mono ff _ _ r.2⟩
        | own ds =>
          obtain ⟨p, r1, r2, r3, xs, r4, r5⟩ := r
          subst r1
          refine ⟨rfl, .lst (.inl ?_) (rpAll_mono ff _ _ r5)⟩
          rw [hin p i (by rw [r2]; exact List.mem_singleton.mpr rfl)]
          exact r4
        | rows rs =>
          obtain ⟨p, as, r1, r2, r3, r4, r5⟩ := r
          subst r1
          refine ⟨rfl, Rp.lst (xs := as.map V.ref) (.inl ?_) ?_⟩
          · rw [hin p i (by rw [r2]; exact List.mem_cons_self ..)]
            exact r4
          · exact rows_frz ff r5 fun a ha => hin a i (by rw [r2]; exact List.mem_cons_of_mem _ ha)
  · by_cases hx : ∃ i, b ∈ fp i
    · obtain ⟨i, hi⟩ := hx
      exact s.in hi
    · exact absurd (hout b hx) hb
open Classical in
/-- behind an evaluation over the frozen world: a world without the owned ones -/
theorem wld_back {F' F2' : Hp} (h0 : Same F F') (hw : ∀ b, F' b ≠ F b → F b = none ∧ G b = none ∧ ∃ xs, H b = some (.lst xs)) (f : Same F H) (w : Wld F' H F2' H2) :
    ∃ F2, Wld F H F2 H2 ∧ (∀ b u, F2' b = some u → (∀ xs, u ≠ .lst xs) → F2 b = some u) ∧ ∀ b, F2' b = none → F2 b = none := by
  refine ⟨fun b => if F' b ≠ F b then none else F2' b, ⟨fun b o e => ?_, w.gh, fun b o e => ?_, fun b n g => ?_⟩, fun b u e hl => ?_, fun b e => ?_⟩
  · by_cases hb : F' b ≠ F b
    · rw [if_pos hb] at e; cases e
    · rw [if_neg hb] at e; exact w.fh _ _ e
  · have hb : ¬ F' b ≠ F b := fun z => by
      rw [(hw b z).1] at e
      cases e
    rw [if_neg hb]
    exact w.ff _ _ (h0 _ _ e)
  · by_cases hb : F' b ≠ F b
    · rw [if_pos hb]
    · rw [if_neg hb]
      refine w.nf b ?_ g
      rw [Classical.not_not.mp hb]
      exact n
  · have hb : ¬ F' b ≠ F b := fun z => by
      obtain ⟨_, _, xs, hx⟩ := hw b z
      have := w.fh _ _ e
      have h3 := w.gh _ _ hx
      rw [this] at h3
      exact hl xs (Option.some.inj h3)
    show (if F' b ≠ F b then none else F2' b) = some u
    rw [if_neg hb]
    exact e
  · show (if F' b ≠ F b then none else F2' b) = none
    by_cases hb : F' b ≠ F b
    · rw [if_pos hb]
    · rw [if_neg hb]; exact e
end

/-! ### a view from above: all owned cells as data -/
section
variable {ρ : DEnv} {te ta tb tc : TE} {tt tu : TT} {d e x y z : PyData} {ds es : List PyData} {i j : Int} {b b' : Bool} {c : Cell} {K : PySem.W.Frag}
theorem dc_peek (h : DC te (frz ρ) c) (fl : flatC c = true) : DC te ρ c := fun G F H σ f s Q q => by
  obtain ⟨F', f1, f2, s', hw⟩ := sat_frz f s
  refine h G F' H σ f2 s' Q fun v F2' H2 ps w r hn nd => ?_
  obtain ⟨F2, w2, k, kn⟩ := wld_back f1 hw f w
  exact q v F2 H2 ps w2 (r.flat k kn fl) hn nd
theorem dt_peek (h : DT tt (frz ρ) b) : DT tt ρ b := fun G F H σ f s Q q => by
  obtain ⟨F', f1, f2, s', hw⟩ := sat_frz f s
  refine h G F' H σ f2 s' Q fun F2' H2 w => ?_
  obtain ⟨F2, w2, _⟩ := wld_back f1 hw f w
  exact q F2 H2 w2

/-! ### new lists, frozen -/
theorem freeze_rows {F0 G0 F H : Hp} (w : Wld F0 G0 F H) : ∀ {as : List Addr} {rs : List (List PyData)}, Paired (RowAt F H) as rs → (∀ a ∈ as, G0 a = none) → as.Nodup →
    ∃ F', Wld F0 G0 F' H ∧ Same F F' ∧ RpAll F' (as.map V.ref) (rs.map .list) ∧ ∀ b, b ∉ as → F' b = F b
  | _, _, .nil, _, _ => ⟨F, w, Same.refl _, .nil, fun _ _ => rfl⟩
  | a :: as, r :: rs, .cons x t, hg, nd => by
    obtain ⟨F', w', s', q, o⟩ := freeze_rows w t (fun b hb => hg b (List.mem_cons_of_mem _ hb)) (List.nodup_cons.mp nd).2
    obtain ⟨n, xs, e, d⟩ := x
    have hna : a ∉ as := (List.nodup_cons.mp nd).1
    have hf : F' a = none := by rw [o a hna]; exact n
    have s2 : Same F' (upd F' a (.lst xs)) := same_upd hf
    refine ⟨upd F' a (.lst xs), w'.freeze e hf (hg a (List.mem_cons_self ..)), s'.trans s2, .cons (.lst (.inl upd_same) (rpAll_mono (s'.trans s2) _ _ d)) (rpAll_mono s2 _ _ q), fun b hb => ?_⟩
    rw [upd_ne (fun z => hb (by rw [z]; exact List.mem_cons_self ..))]
    exact o b fun z => hb (List.mem_cons_of_mem _ z)
theorem dc_frz (h : DC te ρ (.own ds)) : DE te ρ (.list ds) := de_mk fun G F H σ f s Q q => h G F H σ f s Q fun v F2 H2 ps w r hn nd => by
  obtain ⟨p, e1, e2, n, xs, e3, e4⟩ := r
  subst e1
  exact q _ _ H2 (w.freeze e3 n (hn p (by rw [e2]; exact List.mem_singleton.mpr rfl))) (.lst (.inl upd_same) (rpAll_mono (same_upd n) _ _ e4))
theorem dc_rows_own {rs : List (List PyData)} (h : DC te ρ (.rows rs)) : DC te ρ (.own (rs.map .list)) := fun G F H σ f s Q q => h G F H σ f s Q fun v F2 H2 ps w r hn nd => by
  obtain ⟨p, as, e1, e2, n, e3, e4⟩ := r
  rw [e2] at nd hn
  obtain ⟨F', w', s', hq, o⟩ := freeze_rows w e4 (fun a ha => hn a (List.mem_cons_of_mem _ ha)) (List.nodup_cons.mp nd).2
  exact q v F' H2 [p] w' ⟨p, e1, rfl, by rw [o p (List.nodup_cons.mp nd).1]; exact n, _, e3, hq⟩ (fun a ha => hn a (by rw [List.mem_singleton.mp ha]; exact List.mem_cons_self ..)) (by simp)
theorem dc_rows_frz {rs : List (List PyData)} (h : DC te ρ (.rows rs)) : DE te ρ (.list (rs.map .list)) := dc_frz (dc_rows_own h)

/-! ### displays -/
theorem sz5 {n : Nat} (h : n ≤ 100000) : n ≤ sizeLine := Nat.le_trans h (by decide)
theorem sz5l {n : Nat} (h : n < 100000) : n < sizeLine := Nat.lt_of_lt_of_le h (by decide)
theorem dc_lst {ta : TA} (h : DA ta ρ ds) (hz : ds.length ≤ 100000 := by decide) : DC (tLst ta) ρ (.own ds) := fun G F H σ f s Q q =>
  h G F H σ f s _ fun vs F1 H1 w r => ⟨sz5 (by rw [rpAll_len r]; exact hz), fun p hp => q _ F1 _ [p] (w.newOwn hp)
    ⟨p, rfl, rfl, w.fh.free hp, vs, upd_same, r⟩ (fun a ha => by rw [List.mem_singleton.mp ha]; exact w.gh.free hp) (by simp)⟩
theorem de_tup {ta : TA} (h : DA ta ρ ds) (hz : ds.length ≤ 100000 := by decide) : DE (tTup ta) ρ (.tuple ds) := de_mk fun G F H σ f s Q q =>
  h G F H σ f s _ fun vs F1 H1 w r => ⟨sz5 (by rw [rpAll_len r]; exact hz), fun p hp => q _ _ _ (w.new hp) (.tup (.inl upd_same) (rpAll_mono (same_upd (w.fh.free hp)) _ _ r))⟩

/-! ### arithmetic of ints -/
theorem de_add (ha : DE ta ρ (.int i)) (hb : DE tb ρ (.int j)) : DE (tOp (rI0 fun i j => .int (i + j)) ta tb) ρ (.int (i + j)) := de_rI0 ha hb fun _ => .int _
theorem de_sub (ha : DE ta ρ (.int i)) (hb : DE tb ρ (.int j)) : DE (tOp (rI0 fun i j => .int (i - j)) ta tb) ρ (.int (i - j)) := de_rI0 ha hb fun _ => .int _
theorem de_mul (ha : DE ta ρ (.int i)) (hb : DE tb ρ (.int j)) (hc : CMulX i j) : DE (tOp (rI CMulX fun i j => .int (i * j)) ta tb) ρ (.int (i * j)) := de_rI ha hb hc fun _ => .int _
theorem de_fdiv (ha : DE ta ρ (.int i)) (hb : DE tb ρ (.int j)) (hc : CDiv i j) : DE (tOp (rI CDiv fun i j => .int (i / j)) ta tb) ρ (.int (i / j)) := de_rI ha hb hc fun _ => .int _
theorem de_mod (ha : DE ta ρ (.int i)) (hb : DE tb ρ (.int j)) (hc : 0 < j) : DE (tOp (rI (fun _ j => 0 < j) fun i j => .int (i % j)) ta tb) ρ (.int (i % j)) := de_rI ha hb hc fun _ => .int _
theorem de_pow (ha : DE ta ρ (.int i)) (hb : DE tb ρ (.int j)) (hc : CPow i j) : DE (tOp (rI CPow fun i j => .int (i ^ j.toNat)) ta tb) ρ (.int (i ^ j.toNat)) := de_rI ha hb hc fun _ => .int _
theorem de_neg (ha : DE ta ρ (.int i)) : DE (tUn (rU fun i => .int (-i)) ta) ρ (.int (-i)) := de_mk fun G F H σ f s Q q => de_run ha f s fun v F2 H2 w r => ⟨i, rp_int r, q _ F2 H2 w (.int _)⟩
theorem mulx64 (hi : -(2 ^ 64) < i ∧ i < 2 ^ 64) (hj : -(2 ^ 64) < j ∧ j < 2 ^ 64) : CMulX i j := mulx_ok (a := 64) (b := 64) (by omega) (by omega) (by decide)

/-! ### comparisons -/
theorem de_lt (ha : DE ta ρ (.int i)) (hb : DE tb ρ (.int j)) : DE (tOp (rI0 fun i j => .bl (decide (i < j))) ta tb) ρ (.bool (decide (i < j))) := de_rI0 ha hb fun _ => .bl _
theorem de_le (ha : DE ta ρ (.int i)) (hb : DE tb ρ (.int j)) : DE (tOp (rI0 fun i j => .bl (decide (i ≤ j))) ta tb) ρ (.bool (decide (i ≤ j))) := de_rI0 ha hb fun _ => .bl _
theorem de_gt (ha : DE ta ρ (.int i)) (hb : DE tb ρ (.int j)) : DE (tOp (rI0 fun i j => .bl (decide (j < i))) ta tb) ρ (.bool (decide (j < i))) := de_rI0 ha hb fun _ => .bl _
theorem de_ge (ha : DE ta ρ (.int i)) (hb : DE tb ρ (.int j)) : DE (tOp (rI0 fun i j => .bl (decide (j ≤ i))) ta tb) ρ (.bool (decide (j ≤ i))) := de_rI0 ha hb fun _ => .bl _
theorem de_eqD {P : Prop} [Decidable P] (ha : DE ta ρ x) (hb : DE tb ρ y) (h1 : SeqAt.shaped x = true) (h2 : SeqAt.shaped y = true) (h : PyData.eqv x y = true ↔ P) : DE (tOp (rEqD K) ta tb) ρ (.bool (decide P)) := de_mk fun G F H σ f s Q q =>
  de_two ha hb f s fun v u F2 H2 w r1 r2 => ⟨x, y, rp_dp _ _ (rp_mono w.fh _ _ r1), rp_dp _ _ (rp_mono w.fh _ _ r2), h1, h2, q _ F2 H2 w (by
    have e : PyData.eqv x y = decide P := by
      by_cases hp : P
      · rw [decide_eq_true hp]; exact h.mpr hp
      · rw [decide_eq_false hp]
        cases e : PyData.eqv x y with
        | true => exact absurd (h.mp e) hp
        | false => rfl
    rw [e]
    exact .bl _)⟩
theorem de_neD {P : Prop} [Decidable P] (ha : DE ta ρ x) (hb : DE tb ρ y) (h1 : SeqAt.shaped x = true) (h2 : SeqAt.shaped y = true) (h : PyData.eqv x y = true ↔ P) : DE (tOp (rNeD K) ta tb) ρ (.bool (!decide P)) := de_mk fun G F H σ f s Q q =>
  de_two ha hb f s fun v u F2 H2 w r1 r2 => ⟨x, y, rp_dp _ _ (rp_mono w.fh _ _ r1), rp_dp _ _ (rp_mono w.fh _ _ r2), h1, h2, q _ F2 H2 w (by
    have e : PyData.eqv x y = decide P := by
      by_cases hp : P
      · rw [decide_eq_true hp]; exact h.mpr hp
      · rw [decide_eq_false hp]
        cases e : PyData.eqv x y with
        | true => exact absurd (h.mp e) hp
        | false => rfl
    rw [e]
    exact .bl _)⟩
theorem shaped_int : SeqAt.shaped (.int i) = true := by simp [SeqAt.shaped, PyData.canLay0, PyData.depth]
theorem shaped_bool : SeqAt.shaped (.bool b) = true := by simp [SeqAt.shaped, PyData.canLay0, PyData.depth]
theorem eqv_int : PyData.eqv (.int i) (.int j) = true ↔ i = j := by simp [PyData.eqv]
theorem de_eqI (ha : DE ta ρ (.int i)) (hb : DE tb ρ (.int j)) : DE (tOp (rEqD K) ta tb) ρ (.bool (decide (i = j))) := de_eqD ha hb shaped_int shaped_int eqv_int
theorem de_neI (ha : DE ta ρ (.int i)) (hb : DE tb ρ (.int j)) : DE (tOp (rNeD K) ta tb) ρ (.bool (!decide (i = j))) := de_neD ha hb shaped_int shaped_int eqv_int
theorem de_isN (ha : DE ta ρ x) : DE (tIsN ta) ρ (.bool (match x with | .none => true | _ => false)) := de_mk fun G F H σ f s Q q => de_run ha f s fun v F2 H2 w r => by
  show Q (.bl (decide (v = .non))) H2
  cases r with
  | non => exact q _ F2 H2 w (.bl _)
  | bl _ => exact q _ F2 H2 w (.bl _)
  | int _ => exact q _ F2 H2 w (.bl _)
  | str _ => exact q _ F2 H2 w (.bl _)
  | lst _ _ => exact q _ F2 H2 w (.bl _)
  | tup _ _ => exact q _ F2 H2 w (.bl _)
theorem de_notN (ha : DE ta ρ x) : DE (tNotN ta) ρ (.bool (match x with | .none => false | _ => true)) := de_mk fun G F H σ f s Q q => de_run ha f s fun v F2 H2 w r => by
  show Q (.bl (!decide (v = .non))) H2
  cases r with
  | non => exact q _ F2 H2 w (.bl _)
  | bl _ => exact q _ F2 H2 w (.bl _)
  | int _ => exact q _ F2 H2 w (.bl _)
  | str _ => exact q _ F2 H2 w (.bl _)
  | lst _ _ => exact q _ F2 H2 w (.bl _)
  | tup _ _ => exact q _ F2 H2 w (.bl _)
/-- a chain of comparisons of ints -/
theorem de_chainI {p q : Int → Int → Bool} {k : Int} (ha : DE ta ρ (.int i)) (hb : DE tb ρ (.int j)) (hc : DE tc ρ (.int k)) :
    DE (tChain (rI0 fun i j => .bl (p i j)) (rI0 fun i j => .bl (q i j)) ta tb tc) ρ (.bool (p i j && q j k)) := de_mk fun G F H σ f s Q g =>
  de_run ha f s fun v F1 H1 w1 r1 => de_run hb w1.fh (s.grow w1) fun u F2 H2 w2 r2 => ⟨i, j, rp_int r1, rp_int r2, p i j, rfl, by
    have w := w1.trans w2
    cases hp : p i j with
    | true =>
      rw [if_pos rfl]
      exact de_run hc w.fh (s.grow w) fun t F3 H3 w3 r3 => ⟨j, k, rp_int r2, rp_int r3, g _ F3 H3 (w.trans w3) (by rw [hp, Bool.true_and]; exact .bl _)⟩
    | false =>
      rw [if_neg Bool.false_ne_true]
      exact g _ F2 H2 w (by rw [hp, Bool.false_and]; exact .bl _)⟩

/-! ### and, or, not; tests -/
theorem dt_test (h : DE te ρ (.bool b)) : DT (tTest te) ρ b := fun G F H σ f s Q q => de_run h f s fun v F2 H2 w r => ⟨b, rp_bl r, q F2 H2 w⟩
theorem dt_B (h : DE te ρ (.bool b)) : DT (tB te) ρ b := fun G F H σ f s Q q => de_run h f s fun v F2 H2 w r => ⟨b, rp_bl r, q F2 H2 w⟩
theorem dt_and (h : DT tt ρ b) (h' : b = true → DT tu ρ b') : DT (tAnd tt tu) ρ (b && b') := fun G F H σ f s Q q => h G F H σ f s _ fun F1 H1 w => by
  cases b with
  | true =>
    rw [if_pos rfl]
    exact h' rfl G F1 H1 σ w.fh (s.grow w) _ fun F2 H2 w2 => q F2 H2 (w.trans w2)
  | false =>
    rw [if_neg Bool.false_ne_true]
    exact q F1 H1 w
theorem dt_or (h : DT tt ρ b) (h' : b = false → DT tu ρ b') : DT (tOr tt tu) ρ (b || b') := fun G F H σ f s Q q => h G F H σ f s _ fun F1 H1 w => by
  cases b with
  | true =>
    rw [if_pos rfl]
    exact q F1 H1 w
  | false =>
    rw [if_neg Bool.false_ne_true]
    exact h' rfl G F1 H1 σ w.fh (s.grow w) _ fun F2 H2 w2 => q F2 H2 (w.trans w2)
theorem dt_not (h : DT tt ρ b) : DT (tNot tt) ρ (!b) := fun G F H σ f s Q q => h G F H σ f s _ fun F1 H1 w => q F1 H1 w
theorem dt_to (h : DT tt ρ b) (e : b = b') : DT tt ρ b' := e ▸ h
theorem de_to (h : DE te ρ d) (e : d = x) : DE te ρ x := e ▸ h
theorem de_and (ha : DE ta ρ (.bool b)) (hb : b = true → DE tb ρ (.bool b')) : DE (tAndV ta tb) ρ (.bool (b && b')) := de_mk fun G F H σ f s Q q => de_run ha f s fun v F1 H1 w r => ⟨b, rp_bl r, by
  cases b with
  | true =>
    rw [if_pos rfl]
    exact de_run (hb rfl) w.fh (s.grow w) fun u F2 H2 w2 r2 => q u F2 H2 (w.trans w2) r2
  | false =>
    rw [if_neg Bool.false_ne_true]
    exact q _ F1 H1 w (.bl _)⟩
theorem de_or (ha : DE ta ρ (.bool b)) (hb : b = false → DE tb ρ (.bool b')) : DE (tOrV ta tb) ρ (.bool (b || b')) := de_mk fun G F H σ f s Q q => de_run ha f s fun v F1 H1 w r => ⟨b, rp_bl r, by
  cases b with
  | true =>
    rw [if_pos rfl]
    exact q _ F1 H1 w (.bl _)
  | false =>
    rw [if_neg Bool.false_ne_true]
    exact de_run (hb rfl) w.fh (s.grow w) fun u F2 H2 w2 r2 => q u F2 H2 (w.trans w2) r2⟩
theorem de_not (ha : DE ta ρ (.bool b)) : DE (tNotV ta) ρ (.bool (!b)) := de_mk fun G F H σ f s Q q => de_run ha f s fun v F1 H1 w r => ⟨b, rp_bl r, q _ F1 H1 w (.bl _)⟩

/-! ### items, slices, +, len -/
theorem rpAll_set {F : Hp} {v : V} (h : Rp F v d) : ∀ {xs : List V} {ds : List PyData} (k : Nat), RpAll F xs ds → RpAll F (xs.set k v) (ds.set k d)
  | _, _, _, .nil => .nil
  | _, _, 0, .cons _ t => .cons h t
  | _, _, k + 1, .cons r t => .cons r (rpAll_set h k t)
theorem rpAll_take {F : Hp} : ∀ {xs : List V} {ds : List PyData} (k : Nat), RpAll F xs ds → RpAll F (xs.take k) (ds.take k)
  | _, _, 0, _ => .nil
  | _, _, _ + 1, .nil => .nil
  | _, _, k + 1, .cons r t => .cons r (rpAll_take k t)
theorem rpAll_drop {F : Hp} : ∀ {xs : List V} {ds : List PyData} (k : Nat), RpAll F xs ds → RpAll F (xs.drop k) (ds.drop k)
  | _, _, 0, r => r
  | _, _, _ + 1, .nil => .nil
  | _, _, k + 1, .cons _ t => rpAll_drop k t
theorem de_ixL (ha : DE ta ρ (.list ds)) (hb : DE tb ρ (.int i)) (e : atI ds i = some d) : DE (tOp (rIx K) ta tb) ρ d := de_mk fun G F H σ f s Q q =>
  de_two ha hb f s fun v u F2 H2 w r1 r2 => by
    obtain ⟨a, xs, rfl, h1, h2⟩ := rp_list r1
    obtain ⟨z, h3, h4⟩ := rpAll_at h2 e
    exact .inl ⟨a, xs, i, z, rfl, rp_int r2, .inl (same_rd w.fh h1), h3, q z F2 H2 w h4⟩
theorem de_ixT (ha : DE ta ρ (.tuple ds)) (hb : DE tb ρ (.int i)) (e : atI ds i = some d) : DE (tOp (rIx K) ta tb) ρ d := de_mk fun G F H σ f s Q q =>
  de_two ha hb f s fun v u F2 H2 w r1 r2 => by
    obtain ⟨a, xs, rfl, h1, h2⟩ := rp_tup r1
    obtain ⟨z, h3, h4⟩ := rpAll_at h2 e
    exact .inr (.inl ⟨a, xs, i, z, rfl, rp_int r2, .inl (same_rd w.fh h1), h3, q z F2 H2 w h4⟩)
theorem de_ixS {t : Str} {k : Nat} (ha : DE ta ρ (.str t)) (hb : DE tb ρ (.int i)) (hz : t.length ≤ 100000) (e : atI t.cps.toList i = some k) : DE (tOp (rIx K) ta tb) ρ (.str ⟨#[k]⟩) := de_mk fun G F H σ f s Q q =>
  de_two ha hb f s fun v u F2 H2 w r1 r2 => .inr (.inr ⟨t, i, k, rp_str r1, rp_int r2, sz5 hz, e, q _ F2 H2 w (.str _)⟩)
def cutD (ds : List PyData) (lo hi : Option Int) : List PyData := (ds.drop (HT.sIx ds.length 0 lo)).take (HT.sIx ds.length ds.length hi - HT.sIx ds.length 0 lo)
theorem rpAll_cut {F : Hp} {xs : List V} (lo hi : Option Int) (h : RpAll F xs ds) : RpAll F (cutV xs lo hi) (cutD ds lo hi) := by
  unfold cutV cutD
  rw [rpAll_len h]
  exact rpAll_take _ (rpAll_drop _ h)
def DO (to : TO) (ρ : DEnv) (o : Option Int) : Prop := ∀ (G F H : Hp) (σ : L2.St), Same F H → Sat G F H σ ρ →
  ∀ Q : Option Int → Hp → Prop, (∀ F2 H2, Wld F H F2 H2 → Q o H2) → to σ H Q
theorem do_none : DO tNoPart ρ none := fun G F H σ f s Q q => q F H (.refl f)
theorem do_some (h : DE te ρ (.int i)) : DO (tPart te) ρ (some i) := fun G F H σ f s Q q => de_run h f s fun v F2 H2 w r => ⟨i, rp_int r, q F2 H2 w⟩
theorem dc_sl {tl th : TO} {lo hi : Option Int} (ha : DE ta ρ (.list ds)) (hl : DO tl ρ lo) (hh : DO th ρ hi) : DC (tSl (rSlL K) ta tl th) ρ (.own (cutD ds lo hi)) := fun G F H σ f s Q q =>
  de_run ha f s fun v F1 H1 w1 r1 => hl G F1 H1 σ w1.fh (s.grow w1) _ fun F2 H2 w2 => hh G F2 H2 σ w2.fh (s.grow (w1.trans w2)) _ fun F3 H3 w3 => by
    obtain ⟨a, xs, rfl, h1, h2⟩ := rp_list r1
    have w := (w1.trans w2).trans w3
    have ff := w2.ff.trans w3.ff
    refine ⟨a, xs, rfl, .inl (same_rd (ff.trans w3.fh) h1), fun p hp => q _ F3 _ [p] (w.newOwn hp) ⟨p, rfl, rfl, w.fh.free hp, _, upd_same, rpAll_cut lo hi (rpAll_mono ff _ _ h2)⟩ (fun a ha => by rw [List.mem_singleton.mp ha]; exact w.gh.free hp) (by simp)⟩
def rCatS (K : PySem.W.Frag) : R2 := fun x y H Q => ∃ l b xs zs, x = .ref l ∧ y = .ref b ∧ SqL K H l xs ∧ SqL K H b zs ∧ xs.length + zs.length ≤ sizeLine ∧ ∀ p, H p = none → Q (.ref p) (upd H p (.lst (xs ++ zs)))
theorem op_catS {X : Cx} : OpR X (binaryOp .Add) (rCatS X.K) := by
  intro pins s σ H x y v u Q I rx ry h
  obtain ⟨l, b, xs, zs, rfl, rfl, hH, hB, hz, q⟩ := h
  cases rx
  cases ry
  obtain ⟨its, r, pl, hl⟩ := I.list hH
  obtain ⟨its2, r2, pl2, hl2⟩ := I.list hB
  obtain ⟨⟨cls, dd, data, sl⟩, ho, hc, n, hd⟩ := pl.isList
  obtain ⟨⟨cls2, dd2, data2, sl2⟩, ho2, hc2, n2, hd2⟩ := pl2.isList
  simp only at hc hd hc2 hd2
  subst hc hd hc2 hd2
  have e1 := r.length
  have e2 := r2.length
  have ea : its.toArray ++ its2.toArray = (its ++ its2).toArray := by simp
  refine concat_meets ⟨_, ho, rfl⟩ ⟨_, ho2, rfl⟩ noFill_list_add seq_list_add PySem.F.slot_list_add PySem.F.entry_list_add (PySem.F.args_list_add_2 _ _) (list_addW l b its.toArray its2.toArray n n2 dd dd2 sl sl2 (by simp; omega)) ⟨ho, ho2, ?_⟩
  rw [ea]
  exact ⟨.ref _, _, I.lnew (t' := s.toks) (r.append r2) (by rw [List.length_append]; omega), rfl, q _ I.fresh⟩
/-- + of ints, of texts, of lists -/
def rAddA (K : PySem.W.Frag) : R2 := fun x y H Q => (rI0 fun i j => .int (i + j)) x y H Q ∨ (∃ i j, x = .str i ∧ y = .str j ∧ i.length + j.length ≤ sizeLine ∧ Q (.str (i ++ j)) H) ∨ rCatS K x y H Q
theorem op_addA {X : Cx} : OpR X (binaryOp .Add) (rAddA X.K) := op_add.or (op_add_str.or op_catS)
theorem de_addI (ha : DE ta ρ (.int i)) (hb : DE tb ρ (.int j)) : DE (tOp (rAddA K) ta tb) ρ (.int (i + j)) := de_mk fun G F H σ f s Q q =>
  de_two ha hb f s fun v u F2 H2 w r1 r2 => .inl ⟨i, j, rp_int r1, rp_int r2, q _ F2 H2 w (.int _)⟩
theorem de_addS {p q : Str} (ha : DE ta ρ (.str p)) (hb : DE tb ρ (.str q)) (hz : p.length + q.length ≤ 100000) : DE (tOp (rAddA K) ta tb) ρ (.str (p ++ q)) := de_mk fun G F H σ f s Q g =>
  de_two ha hb f s fun v u F2 H2 w r1 r2 => .inr (.inl ⟨p, q, rp_str r1, rp_str r2, sz5 hz, g _ F2 H2 w (.str _)⟩)
theorem dc_cat (ha : DE ta ρ (.list ds)) (hb : DE tb ρ (.list es)) (hz : ds.length + es.length ≤ 100000) : DC (tOp (rAddA K) ta tb) ρ (.own (ds ++ es)) := fun G F H σ f s Q q =>
  de_two ha hb f s fun v u F2 H2 w r1 r2 => by
    obtain ⟨a, xs, rfl, h1, h2⟩ := rp_list r1
    obtain ⟨b, ys, rfl, h3, h4⟩ := rp_list r2
    refine .inr (.inr ⟨a, b, xs, ys, rfl, rfl, .inl (same_rd w.fh h1), .inl (same_rd w.fh h3), sz5 (by rw [rpAll_len h2, rpAll_len h4]; exact hz), fun p hp => ?_⟩)
    exact q _ F2 _ [p] (w.newOwn hp) ⟨p, rfl, rfl, w.fh.free hp, _, upd_same, rpAll_append h2 h4⟩ (fun a ha => by rw [List.mem_singleton.mp ha]; exact w.gh.free hp) (by simp)
/-- len of a list, a tuple, a text -/
def rLenA (K : PySem.W.Frag) : List V → Hp → VK → Prop := fun xs H Q => (∃ p ys, xs = [.ref p] ∧ (SqL K H p ys ∨ SqT K H p ys) ∧ Q (.int ys.length) H) ∨ (∃ z, xs = [.str z] ∧ z.length ≤ sizeLine ∧ Q (.int z.length) H)
theorem call_lenA {X : Cx} : CallR X (.builtin "len") (rLenA X.K) := call_len_seq.or call_len_str
theorem da1 {ta : TA} (h : DA ta ρ [x]) {G F H : Hp} {σ : L2.St} (f : Same F H) (s : Sat G F H σ ρ) {R : List V → Hp → Prop} (q : ∀ v F2 H2, Wld F H F2 H2 → Rp F2 v x → R [v] H2) : ta σ H R :=
  h G F H σ f s _ fun vs F2 H2 w r => by
    cases r with
    | cons a b =>
      cases b
      exact q _ F2 H2 w a
theorem da2 {ta : TA} (h : DA ta ρ [x, y]) {G F H : Hp} {σ : L2.St} (f : Same F H) (s : Sat G F H σ ρ) {R : List V → Hp → Prop} (q : ∀ v u F2 H2, Wld F H F2 H2 → Rp F2 v x → Rp F2 u y → R [v, u] H2) : ta σ H R :=
  h G F H σ f s _ fun vs F2 H2 w r => by
    cases r with
    | cons a b =>
      cases b with
      | cons a2 b2 =>
        cases b2
        exact q _ _ F2 H2 w a a2
theorem de_lenL {ta : TA} (h : DA ta ρ [.list ds]) : DE (tCB (rLenA K) ta) ρ (.int (ds.length : Int)) := de_mk fun G F H σ f s Q q => da1 h f s fun v F2 H2 w r => by
  obtain ⟨a, xs, rfl, h1, h2⟩ := rp_list r
  rw [← rpAll_len h2] at q
  exact .inl ⟨a, xs, rfl, .inl (.inl (same_rd w.fh h1)), q _ F2 H2 w (.int _)⟩
theorem de_lenT {ta : TA} (h : DA ta ρ [.tuple ds]) : DE (tCB (rLenA K) ta) ρ (.int (ds.length : Int)) := de_mk fun G F H σ f s Q q => da1 h f s fun v F2 H2 w r => by
  obtain ⟨a, xs, rfl, h1, h2⟩ := rp_tup r
  rw [← rpAll_len h2] at q
  exact .inl ⟨a, xs, rfl, .inr (.inl (same_rd w.fh h1)), q _ F2 H2 w (.int _)⟩
theorem de_lenS {ta : TA} {t : Str} (h : DA ta ρ [.str t]) (hz : t.length ≤ 100000) : DE (tCB (rLenA K) ta) ρ (.int (t.length : Int)) := de_mk fun G F H σ f s Q q => da1 h f s fun v F2 H2 w r =>
  .inr ⟨t, by rw [rp_str r], sz5 hz, q _ F2 H2 w (.int _)⟩

/-! ### list(range(..)), isinstance, int, max, min, abs -/
def rgD (a b : Int) : List PyData := (List.range (b - a).toNat).map fun i => PyData.int (a + (i : Nat))
theorem rpAll_map {α : Type} {F : Hp} {f : α → V} {g : α → PyData} : ∀ {l : List α}, (∀ a ∈ l, Rp F (f a) (g a)) → RpAll F (l.map f) (l.map g)
  | [], _ => .nil
  | _ :: _, h => .cons (h _ (List.mem_cons_self ..)) (rpAll_map fun a ha => h a (List.mem_cons_of_mem _ ha))
theorem dc_listRg1 (h : DE te ρ (.int i)) (hi : i ≤ 100000) (h0 : -100000 ≤ i) : DC (tLstRg (tRg1 te)) ρ (.own (rgD 0 i)) := fun G F H σ f s Q q =>
  de_run h f s fun v F2 H2 w r => ⟨i, rp_int r, ⟨by omega, by omega, by omega, by omega, by omega⟩, fun p hp => q _ F2 _ [p] (w.newOwn hp) ⟨p, rfl, rfl, w.fh.free hp, _, upd_same, rpAll_map fun _ _ => .int _⟩ (fun a ha => by rw [List.mem_singleton.mp ha]; exact w.gh.free hp) (by simp)⟩
def tyD : PyData → Value
  | .none => .type "NoneType"
  | .bool _ => .type "bool"
  | .int _ => .type "int"
  | .str _ => .type "str"
  | .list _ => .type "list"
  | .tuple _ => .type "tuple"
  | .dict _ => .type "dict"
theorem tyx_of {H : Hp} {v : V} (r : Rp H v x) : TyX K H v (tyD x) := by
  cases r with
  | non => exact .base .non
  | bl b => exact .base (.bl b)
  | int i => exact .base (.int i)
  | str z => exact .base (.str z)
  | lst a _ =>
    rcases a with a | ⟨o, a⟩
    · exact .base (.lst a)
    · exact .base (.frz a)
  | tup a _ =>
    rcases a with a | ⟨o, a⟩
    · exact .base (.tup a)
    · exact .fTuple a
def rIsiB (K : PySem.W.Frag) (n : String) : List V → Hp → VK → Prop := fun xs H Q => ∃ (x : V) (t : Value) (b : Bool), xs = [x, .ty n] ∧ TyX K H x t ∧ PySem.W.kitOne K t (.type n) = some b ∧ Q (.bl b) H
theorem call_isiB {X : Cx} {n : String} : CallR X (.builtin "isinstance") (rIsiB X.K n) := by
  intro pins s σ H xs us Q I r h
  obtain ⟨x, t, b, rfl, ty, e, q⟩ := h
  exact call_isi pins s σ H _ us Q I r ⟨x, .ty n, t, .type n, b, rfl, .ty n, ty, e, q⟩
theorem de_isi {n : String} (h : DE te ρ x) (e : PySem.W.kitOne K (tyD x) (.type n) = some b) : DE (tCB (rIsiB K n) (tCons te (tCons (tC (.ty n)) tNil))) ρ (.bool b) := de_mk fun G F H σ f s Q q =>
  de_run h f s fun v F2 H2 w r => ⟨v, tyD x, b, rfl, tyx_of (rp_mono w.fh _ _ r), e, q _ F2 H2 w (.bl _)⟩
def rInt1 : List V → Hp → VK → Prop := fun xs H Q => (∃ i, xs = [.int i] ∧ Q (.int i) H) ∨ ∃ k, xs = [.bl k] ∧ Q (.int (if k then 1 else 0)) H
theorem call_int1' {X : Cx} : CallR X (.type "int") rInt1 := call_int1
theorem de_intB {ta : TA} (h : DA ta ρ [.bool b]) : DE (tCB rInt1 ta) ρ (.int (if b then 1 else 0)) := de_mk fun G F H σ f s Q q => da1 h f s fun v F2 H2 w r => .inr ⟨b, by rw [rp_bl r], q _ F2 H2 w (.int _)⟩
def rMax2 : List V → Hp → VK → Prop := fun xs H Q => ∃ i j, xs = [.int i, .int j] ∧ Q (.int (if j > i then j else i)) H
def rMin2 : List V → Hp → VK → Prop := fun xs H Q => ∃ i j, xs = [.int i, .int j] ∧ Q (.int (if j < i then j else i)) H
theorem de_max2 {ta : TA} (h : DA ta ρ [.int i, .int j]) : DE (tCB rMax2 ta) ρ (.int (max i j)) := de_mk fun G F H σ f s Q q => da2 h f s fun v u F2 H2 w r1 r2 => ⟨i, j, by rw [rp_int r1, rp_int r2], by
  have e : (if j > i then j else i) = max i j := by
    by_cases hh : j > i
    · rw [if_pos hh]; omega
    · rw [if_neg hh]; omega
  rw [e]
  exact q _ F2 H2 w (.int _)⟩
theorem de_min2 {ta : TA} (h : DA ta ρ [.int i, .int j]) : DE (tCB rMin2 ta) ρ (.int (min i j)) := de_mk fun G F H σ f s Q q => da2 h f s fun v u F2 H2 w r1 r2 => ⟨i, j, by rw [rp_int r1, rp_int r2], by
  have e : (if j < i then j else i) = min i j := by
    by_cases hh : j < i
    · rw [if_pos hh]; omega
    · rw [if_neg hh]; omega
  rw [e]
  exact q _ F2 H2 w (.int _)⟩
end
end DL
namespace DL
open PySem PySem.Spec PyProof.Rows L2

structure DEnds where
  nx : DEnv → Prop
  rt : Cell → Prop := fun _ => False
  bk : DEnv → Prop := fun _ => False
  ct : DEnv → Prop := fun _ => False
  ex : Addr → Prop := fun _ => False
structure Meets (E : XK) (F0 G0 : Hp) (Dh : DEnds) (D : Ends) : Prop where
  nx : ∀ σ F H ρ, Dh.nx ρ → Wld F0 G0 F H → Sat G0 F H σ ρ → D.nx σ H
  rt : ∀ v F H c ps, Dh.rt c → Wld F0 G0 F H → RepC F H v c ps → (∀ p ∈ ps, G0 p = none) → ps.Nodup → D.rt v H
  bk : ∀ σ F H ρ, Dh.bk ρ → Wld F0 G0 F H → Sat G0 F H σ ρ → D.bk σ H
  ct : ∀ σ F H ρ, Dh.ct ρ → Wld F0 G0 F H → Sat G0 F H σ ρ → D.ct σ H
  ex : ∀ F H C, Dh.ex C → Wld F0 G0 F H → E (.ref C) none H
def DS (E : XK) (ts : TS) (ρ : DEnv) (Dh : DEnds) : Prop := ∀ (D : Ends) (F0 G0 F H : Hp) (σ : L2.St), Wld F0 G0 F H → Sat G0 F H σ ρ → Meets E F0 G0 Dh D → ts D σ H

theorem Wld.re {F0 G0 F H : Hp} (w : Wld F0 G0 F H) : Wld F G0 F H := ⟨w.fh, w.gh, Same.refl _, fun _ a _ => a⟩
theorem Wld.comp {F0 G0 F H F' H' : Hp} (w : Wld F0 G0 F H) (v : Wld F G0 F' H') : Wld F0 G0 F' H' := ⟨v.fh, v.gh, w.ff.trans v.ff, fun b n g => v.nf b (w.nf b n g) g⟩
/-- growth seen from the entry -/
theorem Wld.then {F0 G0 F H F' H' : Hp} (w : Wld F0 G0 F H) (v : Wld F H F' H') : Wld F0 G0 F' H' := w.trans v
theorem Wld.up {F0 G0 F H F' H' : Hp} (w : Wld F0 G0 F H) (v : Wld F H F' H') : Wld F G0 F' H' := ⟨v.fh, w.gh.trans v.gh, v.ff, fun b n g => v.nf b n (some_of_same w.gh g)⟩

section
variable {E : XK} {ρ : DEnv} {Dh : DEnds} {te ta tb : TE} {tt : TT} {t u : TS} {d x : PyData} {ds : List PyData} {c : Cell} {b : Bool} {i j : Nat} {K : PySem.W.Frag}
theorem Meets.mono {F0 G0 : Hp} {D : Ends} {Dh' : DEnds} (m : Meets E F0 G0 Dh D) (h1 : ∀ ρ, Dh'.nx ρ → Dh.nx ρ) (h2 : ∀ c, Dh'.rt c → Dh.rt c) (h3 : ∀ ρ, Dh'.bk ρ → Dh.bk ρ) (h4 : ∀ ρ, Dh'.ct ρ → Dh.ct ρ) (h5 : ∀ C, Dh'.ex C → Dh.ex C) : Meets E F0 G0 Dh' D :=
  ⟨fun σ F H ρ h => m.nx σ F H ρ (h1 _ h), fun v F H c ps h => m.rt v F H c ps (h2 _ h), fun σ F H ρ h => m.bk σ F H ρ (h3 _ h), fun σ F H ρ h => m.ct σ F H ρ (h4 _ h), fun F H C h => m.ex F H C (h5 _ h)⟩
theorem ds_mono {Dh' : DEnds} (h : DS E t ρ Dh') (h1 : ∀ ρ, Dh'.nx ρ → Dh.nx ρ) (h2 : ∀ c, Dh'.rt c → Dh.rt c) (h3 : ∀ ρ, Dh'.bk ρ → Dh.bk ρ) (h4 : ∀ ρ, Dh'.ct ρ → Dh.ct ρ) (h5 : ∀ C, Dh'.ex C → Dh.ex C) : DS E t ρ Dh :=
  fun D F0 G0 F H σ w s m => h D F0 G0 F H σ w s (m.mono h1 h2 h3 h4 h5)
theorem ds_seq (h : DS E t ρ { Dh with nx := fun ρ' => DS E u ρ' Dh }) : DS E (tSeq t u) ρ Dh := fun D F0 G0 F H σ w s m =>
  h { D with nx := u D } F0 G0 F H σ w s ⟨fun σ F H ρ q w s => q D F0 G0 F H σ w s m, m.rt, m.bk, m.ct, m.ex⟩
theorem ds_next (h : Dh.nx ρ) : DS E tNext ρ Dh := fun D F0 G0 F H σ w s m => m.nx σ F H ρ h w s
theorem ds_brk (h : Dh.bk ρ) : DS E tBreak ρ Dh := fun D F0 G0 F H σ w s m => m.bk σ F H ρ h w s
theorem ds_cont (h : Dh.ct ρ) : DS E tCont ρ Dh := fun D F0 G0 F H σ w s m => m.ct σ F H ρ h w s
theorem ds_asg (h : DC te ρ c) (hi : i < ρ.length) (q : Dh.nx (ρ.set i (some c))) : DS E (tAsg te (gName i)) ρ Dh := fun D F0 G0 F H σ w s m =>
  h G0 F H σ w.fh s _ fun v F2 H2 ps w2 r hn nd => m.nx _ F2 H2 _ q (w.then w2) (s.setNew w2 w.gh hi r hn nd)
theorem ds_drop (h : DC te ρ c) (q : Dh.nx ρ) : DS E (tDrop te) ρ Dh := fun D F0 G0 F H σ w s m =>
  h G0 F H σ w.fh s _ fun v F2 H2 ps w2 r hn nd => m.nx _ F2 H2 _ q (w.then w2) (s.grow w2)
theorem ds_ret (h : DC te ρ c) (q : Dh.rt c) : DS E (tRet te) ρ Dh := fun D F0 G0 F H σ w s m =>
  h G0 F H σ w.fh s _ fun v F2 H2 ps w2 r hn nd => m.rt v F2 H2 c ps q (w.then w2) r (fun p hp => w.gh.free (hn p hp)) nd
theorem ds_retN (q : Dh.rt (.dat .none)) : DS E tRetN ρ Dh := fun D F0 G0 F H σ w s m => m.rt _ F H _ [] q w ⟨rfl, .non⟩ (fun _ z => absurd z List.not_mem_nil) List.nodup_nil
/-- an owned list is handed back -/
theorem ds_retvar (h : ρ[i]? = some (some c)) (q : Dh.rt c) : DS E (tRet (tVar i)) ρ Dh := fun D F0 G0 F H σ w ⟨fp, s⟩ m => by
  obtain ⟨v, e, r⟩ := s.rep i c h
  exact ⟨v, e, m.rt v F H c _ q w r (fun p hp => s.fr i p hp) (s.nd i)⟩
theorem ds_if (h : DT tt ρ b) (ht : b = true → DS E t ρ Dh) (hf : b = false → DS E u ρ Dh) : DS E (tIfS tt t u) ρ Dh := fun D F0 G0 F H σ w s m =>
  h G0 F H σ w.fh s _ fun F2 H2 w2 => by
    cases b with
    | true =>
      rw [if_pos rfl]
      exact ht rfl D F0 G0 F2 H2 σ (w.then w2) (s.grow w2) m
    | false =>
      rw [if_neg Bool.false_ne_true]
      exact hf rfl D F0 G0 F2 H2 σ (w.then w2) (s.grow w2) m
/-- all owned cells are frozen from here on -/
theorem ds_frz (h : DS E t (frz ρ) Dh) : DS E t ρ Dh := fun D F0 G0 F H σ w s m => by
  obtain ⟨F', f1, f2, s', hw⟩ := sat_frz w.fh s
  refine h D F0 G0 F' H σ ⟨f2, w.gh, w.ff.trans f1, fun b n g => ?_⟩ s' m
  by_cases e : F' b = F b
  · rw [e]; exact w.nf b n g
  · exact absurd (hw b e).2.1 g
/-- one owned list is frozen -/
theorem ds_frz1 (h : ρ[i]? = some (some (.own ds))) (q : DS E t (ρ.set i (some (.dat (.list ds)))) Dh) : DS E t ρ Dh := fun D F0 G0 F H σ w ⟨fp, s⟩ m => by
  obtain ⟨v, e, r⟩ := s.rep i _ h
  obtain ⟨p, r1, r2, r3, xs, r4, r5⟩ := r
  have hp : p ∈ fp i := by rw [r2]; exact List.mem_singleton.mpr rfl
  refine q D F0 G0 _ H σ (w.freeze (o := .lst xs) r4 r3 (s.fr i p hp)) ⟨_, s.frz (ps := []) hp e ⟨rfl, ?_⟩ (fun _ z => absurd z List.not_mem_nil) List.nodup_nil⟩ m
  rw [r1]
  exact .lst (.inl upd_same) (rpAll_mono (same_upd r3) _ _ r5)
theorem ds_env {ρ' : DEnv} (h : DS E t ρ' Dh) (e : ρ' = ρ) : DS E t ρ Dh := e ▸ h
theorem dc_env {ρ' : DEnv} (h : DC te ρ' c) (e : ρ' = ρ) : DC te ρ c := e ▸ h

/-! ### loops -/
def IterOk (J : It) (F0 : Hp) (ds : List PyData) : Prop :=
  (∀ i F H, Same F0 F → Same F H → i < ds.length → J.go i H) ∧ (∀ i F H, Same F0 F → Same F H → ds.length ≤ i → J.stop i H) ∧
  ∀ i d F H v H', Same F0 F → Same F H → ds[i]? = some d → J.yld i H v H' → ∃ F', Wld F H F' H' ∧ Rp F' v d
def DI (wi : TI) (ρ : DEnv) (ds : List PyData) : Prop := ∀ (G F H : Hp) (σ : L2.St), Same F H → Sat G F H σ ρ →
  ∀ R : It → Hp → Prop, (∀ J F2 H2, Wld F H F2 H2 → IterOk J F2 ds → R J H2) → wi σ H R
theorem di_list (h : DE te ρ (.list ds)) : DI (iList K te) ρ ds := fun G F H σ f s R q => de_run h f s fun v F2 H2 w r => by
  obtain ⟨a, xs, rfl, h1, h2⟩ := rp_list r
  have hl := rpAll_len h2
  refine ⟨a, rfl, ⟨xs, .inl (same_rd w.fh h1)⟩, q _ F2 H2 w ⟨fun i F' H' e1 e2 hi => ?_, fun i F' H' e1 e2 hi => ?_, fun i d F' H' v H'' e1 e2 hd y => ?_⟩⟩
  · exact ⟨xs, xs[i]'(by omega), .inl (same_rd (e1.trans e2) h1), List.getElem?_eq_getElem _⟩
  · exact ⟨xs, .inl (same_rd (e1.trans e2) h1), by omega⟩
  · obtain ⟨rfl, y⟩ := y
    obtain ⟨u, hu, ru⟩ := rpAll_get h2 hd
    have := y xs (.inl (same_rd (e1.trans e2) h1))
    rw [hu] at this
    obtain rfl := Option.some.inj this
    exact ⟨F', .refl e2, rp_mono e1 _ _ ru⟩
theorem di_range1 {ta : TA} {n : Int} (h : DA ta ρ [.int n]) (h1 : -(2 ^ 62) ≤ n) (h2 : n < 2 ^ 62) : DI (iRng1 ta) ρ ((List.range n.toNat).map fun k => .int (k : Nat)) := fun G F H σ f s R q => da1 h f s fun v F2 H2 w r => by
  refine ⟨n, by rw [rp_int r], h1, h2, q _ F2 H2 w ⟨fun i F' H' e1 e2 hi => ?_, fun i F' H' e1 e2 hi => ?_, fun i d F' H' v H'' e1 e2 hd y => ?_⟩⟩
  · exact (by rw [List.length_map, List.length_range] at hi; exact hi)
  · exact (by rw [List.length_map, List.length_range] at hi; exact hi)
  · obtain ⟨rfl, rfl⟩ := y
    refine ⟨F', .refl e2, ?_⟩
    rw [List.getElem?_map] at hd
    have hi : i < n.toNat := by
      by_cases hi : i < n.toNat
      · exact hi
      · rw [List.getElem?_eq_none (by simpa using hi)] at hd; cases hd
    rw [List.getElem?_range hi] at hd
    obtain rfl := Option.some.inj hd
    rw [Int.zero_add]
    exact .int _
theorem di_range2 {ta : TA} {lo hi : Int} (h : DA ta ρ [.int lo, .int hi]) (hb : -(2 ^ 62) ≤ lo ∧ lo < 2 ^ 62 ∧ -(2 ^ 62) ≤ hi ∧ hi < 2 ^ 62) : DI (iRng2 ta) ρ ((List.range (hi - lo).toNat).map fun k => .int (lo + (k : Nat))) := fun G F H σ f s R q => da2 h f s fun v u F2 H2 w r r2 => by
  refine ⟨lo, hi, by rw [rp_int r, rp_int r2], hb, q _ F2 H2 w ⟨fun i F' H' e1 e2 hi' => ?_, fun i F' H' e1 e2 hi' => ?_, fun i d F' H' v H'' e1 e2 hd y => ?_⟩⟩
  · rw [List.length_map, List.length_range] at hi'
    exact hi'
  · rw [List.length_map, List.length_range] at hi'
    exact hi'
  · obtain ⟨rfl, rfl⟩ := y
    refine ⟨F', .refl e2, ?_⟩
    rw [List.getElem?_map] at hd
    have hi : i < (hi - lo).toNat := by
      by_cases hi' : i < (hi - lo).toNat
      · exact hi'
      · rw [List.getElem?_eq_none (by simpa using hi')] at hd; cases hd
    rw [List.getElem?_range hi] at hd
    obtain rfl := Option.some.inj hd
    exact .int _
/-- a for: g stores the item -/
def DG (g : TG) (d : PyData) (f : DEnv → DEnv) (ρ : DEnv) : Prop := ∀ (G F H : Hp) (σ : L2.St) (v : V), Same F H → Sat G F H σ ρ → Same G H → Rp F v d → ∀ Q : L2.St → Hp → Prop, (∀ σ', Sat G F H σ' (f ρ) → Q σ' H) → g v σ H Q
theorem Sat.setD {G F H : Hp} {σ : L2.St} {v : V} (s : Sat G F H σ ρ) (hi : i < ρ.length) (r : Rp F v d) : Sat G F H (σ.set i (some v)) (ρ.set i (some (.dat d))) := by
  obtain ⟨fp, s⟩ := s
  exact ⟨_, s.set hi (ps := []) ⟨rfl, r⟩ (fun _ z => absurd z List.not_mem_nil) List.nodup_nil fun _ _ _ z => absurd z List.not_mem_nil⟩
theorem dg_name (hi : i < ρ.length) : DG (gName i) d (fun ρ => ρ.set i (some (.dat d))) ρ := fun G F H σ v f s g r Q q => q _ (s.setD hi r)
theorem dg_pair {x y : PyData} (hi : i < ρ.length) (hj : j < ρ.length) : DG (gTup K 2 (gCons (gName i) (gCons (gName j) gNil))) (.tuple [x, y]) (fun ρ => (ρ.set i (some (.dat x))).set j (some (.dat y))) ρ := fun G F H σ v f s g r Q q => by
  obtain ⟨a, xs, rfl, h1, h2⟩ := rp_tup r
  cases h2 with
  | cons r1 h2 =>
    cases h2 with
    | cons r2 h2 =>
      cases h2
      exact ⟨a, _, rfl, .inl (same_rd f h1), rfl, _, _, rfl, _, _, rfl, rfl, q _ ((s.setD hi r1).setD (by rw [List.length_set]; exact hj) r2)⟩
theorem ds_forG {α : Type} {wi : TI} {g : TG} {tb : TS} {xs : List α} {e : α → PyData} {st : α → DEnv → DEnv} (hi : DI wi ρ (xs.map e)) (inv : Nat → DEnv → Prop) (h0 : inv 0 ρ)
    (hs : ∀ k x ρ', xs[k]? = some x → inv k ρ' → DG g (e x) (st x) ρ' ∧ DS E tb (st x ρ') { Dh with nx := inv (k + 1), ct := inv (k + 1), bk := Dh.nx }) (hd : ∀ ρ', inv xs.length ρ' → Dh.nx ρ') : DS E (tFor wi g tb) ρ Dh := fun D F0 G0 F H σ w s m => by
  refine hi G0 F H σ w.fh s _ fun J F2 H2 w2 ⟨go, stop, yld⟩ => ?_
  rw [List.length_map] at go stop
  refine ⟨fun k mm σ' H' => mm = xs.length - k ∧ k ≤ xs.length ∧ ∃ ρ' F', inv k ρ' ∧ Wld F0 G0 F' H' ∧ Same F2 F' ∧ Sat G0 F' H' σ' ρ', ⟨_, rfl, Nat.zero_le _, ρ, F2, h0, w.then w2, Same.refl _, s.grow w2⟩, ?_⟩
  rintro k mm σ' H' ⟨rfl, hk, ρ', F', iv, w', f', s'⟩
  by_cases hlt : k < xs.length
  · have hx : xs[k]? = some xs[k] := List.getElem?_eq_getElem hlt
    obtain ⟨hg, hb⟩ := hs k xs[k] ρ' hx iv
    refine .inr ⟨go k F' H' f' w'.fh hlt, fun σ3 H3 => ∃ ρ3 F3, inv (k + 1) ρ3 ∧ Wld F0 G0 F3 H3 ∧ Same F2 F3 ∧ Sat G0 F3 H3 σ3 ρ3, fun σ3 H3 ⟨ρ3, F3, q⟩ => ⟨xs.length - (k + 1), by omega, rfl, hlt, ρ3, F3, q⟩, fun v H3 y => ?_⟩
    obtain ⟨F3, w3, r3⟩ := yld k (e xs[k]) F' H' v H3 f' w'.fh (by rw [List.getElem?_map, hx]; rfl) y
    have w4 : Wld F0 G0 F3 H3 := w'.then w3
    refine hg G0 F3 H3 σ' v w4.fh (s'.grow w3) w4.gh r3 _ fun σ4 s4 => ?_
    refine hb _ F3 G0 F3 H3 σ4 w4.re s4 ⟨fun σ5 F5 H5 ρ5 q5 w5 s5 => ⟨ρ5, F5, q5, w4.comp w5, (f'.trans w3.ff).trans w5.ff, s5⟩, fun v5 F5 H5 c5 ps5 q5 w5 => m.rt v5 F5 H5 c5 ps5 q5 (w4.comp w5), fun σ5 F5 H5 ρ5 q5 w5 s5 => m.nx σ5 F5 H5 ρ5 q5 (w4.comp w5) s5, fun σ5 F5 H5 ρ5 q5 w5 s5 => ⟨ρ5, F5, q5, w4.comp w5, (f'.trans w3.ff).trans w5.ff, s5⟩, fun F5 H5 C q5 w5 => m.ex F5 H5 C q5 (w4.comp w5)⟩
  · have e : k = xs.length := by omega
    subst e
    exact .inl ⟨stop _ F' H' f' w'.fh (Nat.le_refl _), m.nx σ' F' H' ρ' (hd ρ' iv) w' s'⟩
/-- for x in a list -/
theorem ds_for {α : Type} {wi : TI} {tb : TS} {xs : List α} {e : α → PyData} (hi : DI wi ρ (xs.map e)) (inv : Nat → DEnv → Prop) (h0 : inv 0 ρ)
    (hs : ∀ k x ρ', xs[k]? = some x → inv k ρ' → i < ρ'.length ∧ DS E tb (ρ'.set i (some (.dat (e x)))) { Dh with nx := inv (k + 1), ct := inv (k + 1), bk := Dh.nx }) (hd : ∀ ρ', inv xs.length ρ' → Dh.nx ρ') : DS E (tFor wi (gName i) tb) ρ Dh :=
  ds_forG (st := fun x ρ => ρ.set i (some (.dat (e x)))) hi inv h0 (fun k x ρ' hx iv => ⟨dg_name (hs k x ρ' hx iv).1, (hs k x ρ' hx iv).2⟩) hd
/-- for k in range(n) -/
theorem ds_forR {ta : TA} {tb : TS} {n : Int} (h : DA ta ρ [.int n]) (h1 : -(2 ^ 62) ≤ n) (h2 : n < 2 ^ 62) (inv : Nat → DEnv → Prop) (h0 : inv 0 ρ)
    (hs : ∀ (k : Nat) ρ', k < n.toNat → inv k ρ' → i < ρ'.length ∧ DS E tb (ρ'.set i (some (.dat (.int (k : Nat))))) { Dh with nx := inv (k + 1), ct := inv (k + 1), bk := Dh.nx }) (hd : ∀ ρ', inv n.toNat ρ' → Dh.nx ρ') : DS E (tFor (iRng1 ta) (gName i) tb) ρ Dh :=
  ds_for (di_range1 h h1 h2) inv h0 (fun k x ρ' hx iv => by
    have hk : k < n.toNat := by
      by_cases hk : k < n.toNat
      · exact hk
      · rw [List.getElem?_eq_none (by simpa using hk)] at hx; cases hx
    rw [List.getElem?_range hk] at hx
    obtain rfl := Option.some.inj hx
    exact hs k ρ' hk iv) (by rw [List.length_range]; exact hd)
/-- for k in range(lo, hi) -/
theorem ds_forR2 {ta : TA} {tb : TS} {lo hi : Int} (h : DA ta ρ [.int lo, .int hi]) (hb : -(2 ^ 62) ≤ lo ∧ lo < 2 ^ 62 ∧ -(2 ^ 62) ≤ hi ∧ hi < 2 ^ 62) (inv : Nat → DEnv → Prop) (h0 : inv 0 ρ)
    (hs : ∀ (k : Nat) ρ', k < (hi - lo).toNat → inv k ρ' → i < ρ'.length ∧ DS E tb (ρ'.set i (some (.dat (.int (lo + (k : Nat)))))) { Dh with nx := inv (k + 1), ct := inv (k + 1), bk := Dh.nx }) (hd : ∀ ρ', inv (hi - lo).toNat ρ' → Dh.nx ρ') : DS E (tFor (iRng2 ta) (gName i) tb) ρ Dh :=
  ds_for (di_range2 h hb) inv h0 (fun k x ρ' hx iv => by
    have hk : k < (hi - lo).toNat := by
      by_cases hk : k < (hi - lo).toNat
      · exact hk
      · rw [List.getElem?_eq_none (by simpa using hk)] at hx; cases hx
    rw [List.getElem?_range hk] at hx
    obtain rfl := Option.some.inj hx
    exact hs k ρ' hk iv) (by rw [List.length_range]; exact hd)
/-- while -/
theorem ds_while {tb : TS} (inv : DEnv → Prop) (μ : DEnv → Nat) (h0 : inv ρ) (hs : ∀ ρ', inv ρ' → ∃ b, DT tt ρ' b ∧ (b = true → DS E tb ρ' { Dh with nx := fun ρ2 => inv ρ2 ∧ μ ρ2 < μ ρ', ct := fun ρ2 => inv ρ2 ∧ μ ρ2 < μ ρ', bk := Dh.nx }) ∧ (b = false → Dh.nx ρ')) : DS E (tWhile tt tb) ρ Dh := fun D F0 G0 F H σ w s m => by
  refine ⟨fun k σ' H' => ∃ ρ' F', k = μ ρ' ∧ inv ρ' ∧ Wld F0 G0 F' H' ∧ Sat G0 F' H' σ' ρ', ⟨_, ρ, F, rfl, h0, w, s⟩, ?_⟩
  rintro k σ' H' ⟨ρ', F', rfl, iv, w', s'⟩
  obtain ⟨b, ht, h1, h2⟩ := hs ρ' iv
  refine ht G0 F' H' σ' w'.fh s' _ fun F2 H2 w2 => ?_
  cases b with
  | true =>
    rw [if_pos rfl]
    refine ⟨fun σ3 H3 => ∃ ρ3 F3, (inv ρ3 ∧ μ ρ3 < μ ρ') ∧ Wld F0 G0 F3 H3 ∧ Sat G0 F3 H3 σ3 ρ3, fun σ3 H3 ⟨ρ3, F3, q, w3, s3⟩ => ⟨μ ρ3, q.2, ρ3, F3, rfl, q.1, w3, s3⟩, ?_⟩
    exact h1 rfl _ F0 G0 F2 H2 σ' (w'.then w2) (s'.grow w2) ⟨fun σ5 F5 H5 ρ5 q5 w5 s5 => ⟨ρ5, F5, q5, w5, s5⟩, m.rt, fun σ5 F5 H5 ρ5 q5 w5 s5 => m.nx σ5 F5 H5 ρ5 q5 w5 s5, fun σ5 F5 H5 ρ5 q5 w5 s5 => ⟨ρ5, F5, q5, w5, s5⟩, m.ex⟩
  | false =>
    rw [if_neg Bool.false_ne_true]
    exact m.nx σ' F2 H2 ρ' (h2 rfl) (w'.then w2) (s'.grow w2)
end

/-! ### comprehensions -/
section
variable {E : XK} {ρ : DEnv} {te : TE} {tt : TT} {i : Nat} {K : PySem.W.Frag}
theorem Sat.wipe {G F H : Hp} {σ : L2.St} (s : Sat G F H σ ρ) : Sat G F H (σ.set i none) (ρ.set i none) := by
  obtain ⟨fp, s⟩ := s
  refine ⟨fun j => if j = i then [] else fp j, by rw [List.length_set, List.length_set, s.len], fun j c e => ?_, fun j e => ?_, fun j p hp => ?_, fun j => ?_, fun j k p hp hq => ?_⟩
  · by_cases hj : j = i
    · subst hj
      by_cases hl : j < ρ.length
      · rw [List.getElem?_set_self hl] at e; cases e
      · rw [List.getElem?_eq_none (by simpa using hl)] at e; cases e
    · rw [List.getElem?_set_ne (Ne.symm hj)] at e
      obtain ⟨v, e1, e2⟩ := s.rep j c e
      refine ⟨v, by rw [List.getElem?_set_ne (Ne.symm hj)]; exact e1, ?_⟩
      rw [if_neg hj]
      exact e2
  · by_cases hj : j = i
    · exact if_pos hj
    · show (if j = i then [] else fp j) = []
      rw [if_neg hj]
      refine s.emp j fun c' => ?_
      have := e c'
      rw [List.getElem?_set_ne (Ne.symm hj)] at this
      exact this
  · by_cases hj : j = i
    · rw [if_pos hj] at hp; exact absurd hp List.not_mem_nil
    · rw [if_neg hj] at hp; exact s.fr j p hp
  · show (if j = i then [] else fp j).Nodup
    by_cases hj : j = i
    · rw [if_pos hj]; exact List.nodup_nil
    · rw [if_neg hj]; exact s.nd j
  · by_cases hj : j = i
    · rw [if_pos hj] at hp; exact absurd hp List.not_mem_nil
    · rw [if_neg hj] at hp
      by_cases hk : k = i
      · rw [if_pos hk] at hq; exact absurd hq List.not_mem_nil
      · rw [if_neg hk] at hq; exact s.sep j k p hp hq
theorem Sat.same {G F H F2 H2 : Hp} {σ : L2.St} (s : Sat G F H σ ρ) (w : Wld F H F2 H2) : Sat G F2 H2 σ ρ := s.grow w
theorem set_none_set {ρ : DEnv} {x : Option Cell} : (ρ.set i none).set i x = ρ.set i x := List.set_set ..
theorem filter_take {α : Type} {xs : List α} {t : α → Bool} {k : Nat} {x : α} (h : xs[k]? = some x) : (xs.take (k + 1)).filter t = (xs.take k).filter t ++ (if t x = true then [x] else []) := by
  rw [List.take_add_one, h, List.filter_append]
  congr 1
  show [x].filter t = _
  cases ht : t x <;> simp [ht]
/-- the core: what the new list holds is told by Rows: own data, or owned rows -/
theorem lc_run {α : Type} {wi : TI} {xs : List α} {e : α → PyData} {t : α → Bool} {g : α → Cell} (hn : xs.length ≤ 100000) (hi : DI wi ρ (xs.map e)) (hl : i < ρ.length)
    (ht : ∀ x ∈ xs, DT tt (ρ.set i (some (.dat (e x)))) (t x)) (he : ∀ x ∈ xs, t x = true → DC te (ρ.set i (some (.dat (e x)))) (g x))
    {G F H : Hp} {σ : L2.St} (f : Same F H) (s : Sat G F H σ ρ) {Q : VK}
    (Pk : Hp → Hp → List V → List Addr → List α → Prop) (p0 : ∀ F H, Pk F H [] [] [])
    (pgrow : ∀ F H F2 H2 acc as ys, Wld F H F2 H2 → Pk F H acc as ys → (∀ a ∈ as, F a = none ∧ H a ≠ none) → Pk F2 H2 acc as ys)
    (ploc : ∀ F H D o acc as ys, D ∉ as → Pk F H acc as ys → Pk F (upd H D o) acc as ys)
    (pstep : ∀ F H acc as ys x v ps, Pk F H acc as ys → RepC F H v (g x) ps → Pk F H (acc ++ [v]) (as ++ ps) (ys ++ [x]))
    (q : ∀ D F2 H2 acc as, Wld F H F2 H2 → H D = none → F2 D = none → H2 D = some (.lst acc) → (∀ a ∈ as, H a = none ∧ F2 a = none) → (D :: as).Nodup → Pk F2 H2 acc as (xs.filter t) → Q (.ref D) H2) :
    tLc wi (gName i) tt te [i] σ H Q := by
  refine hi G F H σ f s _ fun J F2 H2 w2 ⟨go, stop, yld⟩ => ?_
  rw [List.length_map] at go stop
  intro D hD
  have hDH : H D = none := w2.gh.free hD
  have hDF2 : F2 D = none := w2.fh.free hD
  -- the invariant: frozen F', heap H', acc at D, as the owned rows
  refine ⟨fun k mm H' => mm = xs.length - k ∧ k ≤ xs.length ∧ ∃ F' acc as, Wld F H F' H' ∧ Same F2 F' ∧ F' D = none ∧ H' D = some (.lst acc) ∧ acc.length ≤ k ∧ (∀ a ∈ as, H a = none ∧ F' a = none ∧ H' a ≠ none) ∧ (D :: as).Nodup ∧ Pk F' H' acc as ((xs.take k).filter t),
    ⟨_, rfl, Nat.zero_le _, F2, [], [], (w2.newOwn hD), Same.refl _, hDF2, upd_same, Nat.zero_le _, fun _ z => absurd z List.not_mem_nil, by simp, p0 _ _⟩, ?_⟩
  rintro k mm H' ⟨rfl, hk, F', acc, as, w', f', nD, eD, la, ha, nd, pk⟩
  by_cases hlt : k < xs.length
  · have hx : xs[k]? = some xs[k] := List.getElem?_eq_getElem hlt
    have hmem : xs[k] ∈ xs := List.getElem_mem hlt
    refine .inr ⟨go k F' H' f' w'.fh hlt, fun H3 => ∃ F3 acc as, Wld F H F3 H3 ∧ Same F2 F3 ∧ F3 D = none ∧ H3 D = some (.lst acc) ∧ acc.length ≤ k + 1 ∧ (∀ a ∈ as, H a = none ∧ F3 a = none ∧ H3 a ≠ none) ∧ (D :: as).Nodup ∧ Pk F3 H3 acc as ((xs.take (k + 1)).filter t), fun H3 ⟨F3, acc3, as3, q3⟩ => ⟨xs.length - (k + 1), by omega, rfl, hlt, F3, acc3, as3, q3⟩, fun v H3 y => ?_⟩
    obtain ⟨F3, w3, r3⟩ := yld k (e xs[k]) F' H' v H3 f' w'.fh (by rw [List.getElem?_map, hx]; rfl) y
    have w4 : Wld F H F3 H3 := w'.then w3
    have s4 : Sat G F3 H3 ((L2.wipe σ [i]).set i (some v)) (ρ.set i (some (.dat (e xs[k])))) := by
      have s5 := ((s.grow w4).wipe (i := i)).setD (by rw [List.length_set]; exact hl) r3
      rw [set_none_set] at s5
      exact s5
    have keepNone : ∀ {a : Addr} {F4 H4 : Hp}, Wld F' H' F4 H4 → F' a = none → H' a ≠ none → F4 a = none ∧ H4 a ≠ none := fun {a F4 H4} w n z => ⟨w.nf a n z, some_of_same w.gh z⟩
    refine ⟨?_, ?_⟩
    · show ((((σ.set i none).set i (some v)).set i none) : L2.St) = σ.set i none
      rw [List.set_set, List.set_set]
    refine ht xs[k] hmem G F3 H3 _ w4.fh s4 _ fun F5 H5 w5 => ?_
    have w35 : Wld F' H' F5 H5 := w3.trans w5
    have w05 : Wld F H F5 H5 := w'.then w35
    cases htx : t xs[k] with
    | false =>
      rw [if_neg Bool.false_ne_true]
      refine ⟨F5, acc, as, w05, f'.trans w35.ff, (keepNone w35 nD (by rw [eD]; exact fun z => by cases z)).1, w35.gh _ _ eD, by omega, fun a h => ⟨(ha a h).1, keepNone w35 (ha a h).2.1 (ha a h).2.2⟩, nd, ?_⟩
      rw [filter_take hx, htx, if_neg Bool.false_ne_true, List.append_nil]
      exact pgrow _ _ _ _ _ _ _ w35 pk fun a h => (ha a h).2
    | true =>
      rw [if_pos rfl]
      refine he xs[k] hmem htx G F5 H5 _ w5.fh (s4.grow w5) _ fun u F6 H6 ps w6 r6 hps ndp => ?_
      have w36 : Wld F' H' F6 H6 := w35.trans w6
      have w06 : Wld F H F6 H6 := w'.then w36
      have eD6 := w36.gh _ _ eD
      have nD6 := (keepNone w36 nD (by rw [eD]; exact fun z => by cases z)).1
      have hDps : D ∉ ps := fun z => by
        have := hps D z
        rw [w35.gh _ _ eD] at this
        cases this
      have hDas : D ∉ as := (List.nodup_cons.mp nd).1
      refine ⟨acc, eD6, sz5l (by omega), F6, acc ++ [u], as ++ ps, w06.mut nD6 hDH, f'.trans w36.ff, nD6, upd_same, by rw [List.length_append, List.length_singleton]; omega, fun a h => ?_, ?_, ?_⟩
      · have hne : a ≠ D := fun z => by
          subst z
          rcases List.mem_append.mp h with h | h
          · exact hDas h
          · exact hDps h
        rw [upd_ne hne]
        rcases List.mem_append.mp h with h | h
        · exact ⟨(ha a h).1, keepNone w36 (ha a h).2.1 (ha a h).2.2⟩
        · obtain ⟨n1, ys, e1⟩ := r6.in h
          exact ⟨w05.gh.free (hps a h), n1, by rw [e1]; exact fun z => by cases z⟩
      · rw [← List.cons_append]
        refine List.nodup_append.mpr ⟨nd, ndp, fun a h1 b h2 z => ?_⟩
        subst z
        have hb := hps a h2
        rcases List.mem_cons.mp h1 with z | z
        · rw [z] at h2; exact hDps h2
        · exact (keepNone w35 (ha a z).2.1 (ha a z).2.2).2 hb
      · rw [filter_take hx, htx, if_pos rfl]
        refine ploc _ _ _ _ _ _ _ (fun z => ?_) (pstep _ _ _ _ _ _ _ _ (pgrow _ _ _ _ _ _ _ w36 pk fun a h => (ha a h).2) r6)
        rcases List.mem_append.mp z with z | z
        · exact hDas z
        · exact hDps z
  · have e : k = xs.length := by omega
    subst e
    rw [List.take_length] at pk
    exact .inl ⟨stop _ F' H' f' w'.fh (Nat.le_refl _), q D F' H' acc as w' hDH nD eD (fun a h => ⟨(ha a h).1, (ha a h).2.1⟩) nd pk⟩
theorem dc_lc {α : Type} {wi : TI} {xs : List α} {e : α → PyData} {t : α → Bool} {g : α → PyData} (hi : DI wi ρ (xs.map e)) (hn : xs.length ≤ 100000) (hl : i < ρ.length)
    (ht : ∀ x ∈ xs, DT tt (ρ.set i (some (.dat (e x)))) (t x)) (he : ∀ x ∈ xs, t x = true → DE te (ρ.set i (some (.dat (e x)))) (g x)) : DC (tLc wi (gName i) tt te [i]) ρ (.own ((xs.filter t).map g)) := fun G F H σ f s Q q =>
  lc_run (g := fun x => .dat (g x)) hn hi hl ht he f s (fun F H acc as ys => as = [] ∧ RpAll F acc (ys.map g)) (fun _ _ => ⟨rfl, .nil⟩) (fun F H F2 H2 acc as ys w h _ => ⟨h.1, rpAll_mono w.ff _ _ h.2⟩) (fun F H D o acc as ys _ h => h)
    (fun F H acc as ys x v ps h r => ⟨by rw [h.1, r.1]; rfl, by rw [List.map_append]; exact rpAll_append h.2 (.cons r.2 .nil)⟩)
    fun D F2 H2 acc as w hD nD eD ha nd pk => q _ F2 H2 [D] w ⟨D, rfl, rfl, nD, acc, eD, pk.2⟩ (fun a z => by rw [List.mem_singleton.mp z]; exact hD) (by simp)
theorem paired_append {α β : Type} {G : α → β → Prop} {as as' : List α} {bs bs' : List β} (h : Paired G as bs) (h' : Paired G as' bs') : Paired G (as ++ as') (bs ++ bs') := by
  induction h with
  | nil => exact h'
  | cons x _ ih => exact .cons x ih
theorem dc_lcRows {α : Type} {wi : TI} {xs : List α} {e : α → PyData} {t : α → Bool} {g : α → List PyData} (hi : DI wi ρ (xs.map e)) (hn : xs.length ≤ 100000) (hl : i < ρ.length)
    (ht : ∀ x ∈ xs, DT tt (ρ.set i (some (.dat (e x)))) (t x)) (he : ∀ x ∈ xs, t x = true → DC te (ρ.set i (some (.dat (e x)))) (.own (g x))) : DC (tLc wi (gName i) tt te [i]) ρ (.rows ((xs.filter t).map g)) := fun G F H σ f s Q q =>
  lc_run (g := fun x => .own (g x)) hn hi hl ht he f s (fun F H acc as ys => acc = as.map V.ref ∧ Paired (RowAt F H) as (ys.map g)) (fun _ _ => ⟨rfl, .nil⟩) (fun F H F2 H2 acc as ys w h _ => ⟨h.1, Paired.mapP h.2 fun _ _ x => x.grow w⟩)
    (fun F H D o acc as ys nD h => ⟨h.1, paired_map h.2 fun a ha b x => x.other fun z => nD (z ▸ ha)⟩)
    (fun F H acc as ys x v ps h r => by
      obtain ⟨p, e1, e2, e3⟩ := r
      subst e1 e2
      exact ⟨by rw [h.1, List.map_append]; rfl, by rw [List.map_append]; exact paired_append h.2 (.cons e3 .nil)⟩)
    fun D F2 H2 acc as w hD nD eD ha nd pk => q _ F2 H2 (D :: as) w ⟨D, as, rfl, rfl, nD, by rw [eD, pk.1], pk.2⟩ (fun a z => by
      rcases List.mem_cons.mp z with z | z
      · rw [z]; exact hD
      · exact (ha a z).1) nd
theorem dt_yes {ρ : DEnv} : DT tYes ρ true := fun G F H σ f s Q q => q F H (.refl f)
theorem filter_yes {α : Type} (xs : List α) : xs.filter (fun _ => true) = xs := List.filter_eq_self.mpr fun _ _ => rfl
end

/-! ### changes of owned lists -/
section
variable {E : XK} {ρ : DEnv} {Dh : DEnds} {te ti tj : TE} {d : PyData} {ds : List PyData} {rs : List (List PyData)} {i : Nat} {K : PySem.W.Frag}
theorem rpAll_len' {F : Hp} {xs : List V} (h : RpAll F xs ds) (hz : ds.length < 100000) : xs.length < sizeLine := sz5l (by rw [rpAll_len h]; exact hz)
/-- x.append(e), x an owned list -/
theorem ds_append (h : ρ[i]? = some (some (.own ds))) (he : DE te ρ d) (hz : ds.length < 100000) (q : Dh.nx (ρ.set i (some (.own (ds ++ [d]))))) : DS E (tDrop (tBM K "list" rAppend (tVar i) (tCons te tNil))) ρ Dh := fun D F0 G0 F H σ w ⟨fp, s⟩ m => by
  obtain ⟨v, e, r⟩ := s.rep i _ h
  obtain ⟨p, rfl, r2, r3, xs, r4, r5⟩ := r
  have hp : p ∈ fp i := by rw [r2]; exact List.mem_singleton.mpr rfl
  refine ⟨_, e, .inl ⟨rfl, xs, SqL.of r4⟩, de_run he w.fh ⟨fp, s⟩ fun u F2 H2 w2 ru => ?_⟩
  have w3 := w.then w2
  have s2 := s.grow w2
  have e2 := w2.gh _ _ r4
  have n2 := (s2.in hp).1
  refine ⟨p, xs, u, rfl, rfl, e2, rpAll_len' r5 hz, ?_⟩
  exact m.nx σ F2 _ _ q (w3.mut n2 (s.fr i p hp)) ⟨_, s2.write hp e (ps := [p]) ⟨p, rfl, rfl, n2, _, upd_same, rpAll_append (rpAll_mono w2.ff _ _ r5) (.cons ru .nil)⟩ (fun a z => by rw [List.mem_singleton.mp z]; exact hp) (by simp)⟩
/-- x[k] = e, x an owned list -/
theorem ds_set {k : Int} {n : Nat} (h : ρ[i]? = some (some (.own ds))) (he : DE te ρ d) (hk : DE ti ρ (.int k)) (hn : ixN ds.length k = some n) (q : Dh.nx (ρ.set i (some (.own (ds.set n d))))) : DS E (tAsg te (gSub (tVar i) ti rSetL)) ρ Dh := fun D F0 G0 F H σ w ⟨fp, s⟩ m => by
  obtain ⟨v, e, r⟩ := s.rep i _ h
  obtain ⟨p, rfl, r2, r3, xs, r4, r5⟩ := r
  have hp : p ∈ fp i := by rw [r2]; exact List.mem_singleton.mpr rfl
  refine de_run he w.fh ⟨fp, s⟩ fun u F2 H2 w2 ru => ⟨_, e, de_run hk w2.fh ⟨fp, s.grow w2⟩ fun ku F3 H3 w3 rk => ?_⟩
  have w23 := w2.trans w3
  have s3 := s.grow w23
  have e3 := w23.gh _ _ r4
  have n3 := (s3.in hp).1
  refine ⟨p, xs, k, n, rfl, rp_int rk, e3, by rw [rpAll_len r5]; exact hn, ?_⟩
  exact m.nx σ F3 _ _ q ((w.then w23).mut n3 (s.fr i p hp)) ⟨_, s3.write hp e (ps := [p]) ⟨p, rfl, rfl, n3, _, upd_same, rpAll_set (rp_mono w3.ff _ _ ru) _ (rpAll_mono w23.ff _ _ r5)⟩ (fun a z => by rw [List.mem_singleton.mp z]; exact hp) (by simp)⟩
theorem paired_get' {α β : Type} {G : α → β → Prop} : ∀ {as : List α} {bs : List β} {k : Nat} {b : β}, Paired G as bs → bs[k]? = some b → ∃ a, as[k]? = some a ∧ G a b
  | _, _, _, _, .nil, e => by simp at e
  | _, _, 0, _, .cons x _, e => by
    obtain rfl := Option.some.inj e
    exact ⟨_, rfl, x⟩
  | _, _, k + 1, _, .cons _ t, e => paired_get' (k := k) t e
theorem paired_len {α β : Type} {G : α → β → Prop} : ∀ {as : List α} {bs : List β}, Paired G as bs → as.length = bs.length
  | _, _, .nil => rfl
  | _, _, .cons _ t => congrArg (· + 1) (paired_len t)
/-- one row changes -/
theorem paired_row {F H : Hp} {a : Addr} {o : HO} {r : List PyData} : ∀ {as : List Addr} {rs : List (List PyData)} {k : Nat}, Paired (RowAt F H) as rs → as.Nodup → as[k]? = some a → RowAt F (upd H a o) a r → Paired (RowAt F (upd H a o)) as (rs.set k r)
  | _, _, _, .nil, _, e, _ => by simp at e
  | b :: as, _ :: rs, 0, .cons x t, nd, e, hr => by
    obtain rfl := Option.some.inj e
    exact .cons hr (paired_map t fun c hc _ x => x.other fun z => (List.nodup_cons.mp nd).1 (z ▸ hc))
  | b :: as, _ :: rs, k + 1, .cons x t, nd, e, hr => by
    have hm : a ∈ as := List.mem_of_getElem? (show as[k]? = some a from e)
    exact .cons (x.other fun z => (List.nodup_cons.mp nd).1 (z ▸ hm)) (paired_row t (List.nodup_cons.mp nd).2 e hr)
theorem rows_ix {σ : L2.St} {G F H : Hp} {fp : Nat → List Addr} (s : SatW G F H σ ρ fp) (h : ρ[i]? = some (some (.rows rs))) {n : Nat} {r : List PyData} (hr : rs[n]? = some r) :
    ∃ p as a xs, σ[i]? = some (some (.ref p)) ∧ fp i = p :: as ∧ F p = none ∧ H p = some (.lst (as.map V.ref)) ∧ Paired (RowAt F H) as rs ∧ as[n]? = some a ∧ a ∈ fp i ∧ F a = none ∧ H a = some (.lst xs) ∧ RpAll F xs r := by
  obtain ⟨v, e, r'⟩ := s.rep i _ h
  obtain ⟨p, as, rfl, r2, r3, r4, r5⟩ := r'
  obtain ⟨a, ha, na, xs, ea, ra⟩ := paired_get' r5 hr
  exact ⟨p, as, a, xs, e, r2, r3, r4, r5, ha, by rw [r2]; exact List.mem_cons_of_mem _ (List.mem_of_getElem? ha), na, ea, ra⟩
theorem atI_ix {α : Type} {xs : List α} {k : Int} {n : Nat} {a : α} (h : ixN xs.length k = some n) (e : xs[n]? = some a) : atI xs k = some a := by
  unfold atI
  rw [h]
  exact e
/-- x[k][l] = e, x an owned list of owned rows -/
theorem ds_set2 {k l : Int} {n o : Nat} {r : List PyData} (h : ρ[i]? = some (some (.rows rs))) (he : DE te ρ d) (hk : DE ti ρ (.int k)) (hl : DE tj ρ (.int l)) (hn : ixN rs.length k = some n) (hr : rs[n]? = some r) (ho : ixN r.length l = some o)
    (q : Dh.nx (ρ.set i (some (.rows (rs.set n (r.set o d)))))) : DS E (tAsg te (gSub (tOp (rIx K) (tVar i) ti) tj rSetL)) ρ Dh := fun D F0 G0 F H σ w ⟨fp, s⟩ m => by
  refine de_run he w.fh ⟨fp, s⟩ fun u F2 H2 w2 ru => ?_
  have s2 := s.grow w2
  obtain ⟨v, e, _⟩ := s.rep i _ h
  refine ⟨v, e, de_run hk w2.fh ⟨fp, s2⟩ fun ku F3 H3 w3 rk => ?_⟩
  have s3 := s2.grow w3
  obtain ⟨p, as, a, xs, e', f', n3, e3, pr, ha, hm, na, ea, ra⟩ := rows_ix s3 h hr
  rw [e] at e'
  cases Option.some.inj (Option.some.inj e')
  refine .inl ⟨p, as.map V.ref, k, .ref a, rfl, rp_int rk, SqL.of e3, ?_, de_run hl w3.fh ⟨fp, s3⟩ fun lu F4 H4 w4 rl => ?_⟩
  · refine atI_ix (n := n) ?_ (by rw [List.getElem?_map, ha]; rfl)
    rw [List.length_map, paired_len pr]
    exact hn
  · have w34 := w3.trans w4
    have w24 := w2.trans w34
    have s4 := s3.grow w4
    obtain ⟨p', as', a', xs', e'', f'', n4, e4, pr', ha', hm', na', ea', ra'⟩ := rows_ix s4 h hr
    rw [e] at e''
    cases Option.some.inj (Option.some.inj e'')
    rw [f'] at f''
    obtain ⟨_, rfl⟩ := List.cons.inj f''
    rw [ha] at ha'
    cases Option.some.inj ha'
    have nd := s4.nd i
    rw [f'] at nd
    refine ⟨a, xs', l, o, rfl, rp_int rl, ea', by rw [rpAll_len ra']; exact ho, ?_⟩
    refine m.nx σ F4 _ _ q ((w.then w24).mut na' (s.fr i a hm)) ⟨_, s4.write hm e (ps := p :: as) ⟨p, as, rfl, rfl, n4, ?_, ?_⟩ (fun b z => by rw [f']; exact z) nd⟩
    · have hne : p ≠ a := fun z => (List.nodup_cons.mp nd).1 (z ▸ List.mem_of_getElem? ha)
      rw [upd_ne hne]
      exact e4
    · exact paired_row pr' (List.nodup_cons.mp nd).2 ha ⟨na', _, upd_same, rpAll_set (rp_mono w34.ff _ _ ru) _ ra'⟩
/-- x[k].append(e), x an owned list of owned rows -/
theorem ds_append2 {k : Int} {n : Nat} {r : List PyData} (h : ρ[i]? = some (some (.rows rs))) (hk : DE ti ρ (.int k)) (he : DE te ρ d) (hn : ixN rs.length k = some n) (hr : rs[n]? = some r) (hz : r.length < 100000)
    (q : Dh.nx (ρ.set i (some (.rows (rs.set n (r ++ [d])))))) : DS E (tDrop (tBM K "list" rAppend (tOp (rIx K) (tVar i) ti) (tCons te tNil))) ρ Dh := fun D F0 G0 F H σ w ⟨fp, s⟩ m => by
  obtain ⟨v, e, _⟩ := s.rep i _ h
  refine ⟨v, e, de_run hk w.fh ⟨fp, s⟩ fun ku F3 H3 w3 rk => ?_⟩
  have s3 := s.grow w3
  obtain ⟨p, as, a, xs, e', f', n3, e3, pr, ha, hm, na, ea, ra⟩ := rows_ix s3 h hr
  rw [e] at e'
  cases Option.some.inj (Option.some.inj e')
  refine .inl ⟨p, as.map V.ref, k, .ref a, rfl, rp_int rk, SqL.of e3, ?_, .inl ⟨rfl, xs, SqL.of ea⟩, de_run he w3.fh ⟨fp, s3⟩ fun u F4 H4 w4 ru => ?_⟩
  · refine atI_ix (n := n) ?_ (by rw [List.getElem?_map, ha]; rfl)
    rw [List.length_map, paired_len pr]
    exact hn
  · have w34 := w3.trans w4
    have s4 := s3.grow w4
    obtain ⟨p', as', a', xs', e'', f'', n4, e4, pr', ha', hm', na', ea', ra'⟩ := rows_ix s4 h hr
    rw [e] at e''
    cases Option.some.inj (Option.some.inj e'')
    rw [f'] at f''
    obtain ⟨_, rfl⟩ := List.cons.inj f''
    rw [ha] at ha'
    cases Option.some.inj ha'
    have nd := s4.nd i
    rw [f'] at nd
    refine ⟨a, xs', u, rfl, rfl, ea', rpAll_len' ra' hz, ?_⟩
    refine m.nx σ F4 _ _ q ((w.then w34).mut na' (s.fr i a hm)) ⟨_, s4.write hm e (ps := p :: as) ⟨p, as, rfl, rfl, n4, ?_, ?_⟩ (fun b z => by rw [f']; exact z) nd⟩
    · have hne : p ≠ a := fun z => (List.nodup_cons.mp nd).1 (z ▸ List.mem_of_getElem? ha)
      rw [upd_ne hne]
      exact e4
    · exact paired_row pr' (List.nodup_cons.mp nd).2 ha ⟨na', _, upd_same, rpAll_append ra' (.cons ru .nil)⟩
end

/-! ### defs -/
inductive Res where
  | ret (c : Cell)
  | exc (C : Addr)
def spR (R : List PyData → Res → Prop) : Sp := fun vs H Q E => ∃ F ds r, Same F H ∧ RpAll F vs ds ∧ R ds r ∧ match r with
  | .ret c => ∀ v F2 H2 ps, Wld F H F2 H2 → RepC F2 H2 v c ps → (∀ p ∈ ps, H p = none) → ps.Nodup → Q v H2
  | .exc C => ∀ F2 H2, Wld F H F2 H2 → E (.ref C) none H2
def ini (n : Nat) (ds : List PyData) : DEnv := ds.map (fun d => some (.dat d)) ++ List.replicate (n - ds.length) none
theorem sat_ini {G F H : Hp} {vs : List V} {ds : List PyData} (r : RpAll F vs ds) (n : Nat) : Sat G F H (vs.map some ++ List.replicate (n - vs.length) none) (ini n ds) := by
  refine ⟨fun _ => [], ?_, fun i c e => ?_, fun _ _ => rfl, fun _ _ h => absurd h List.not_mem_nil, fun _ => List.nodup_nil, fun _ _ _ h => absurd h List.not_mem_nil⟩
  · unfold ini
    simp [rpAll_len r]
  · unfold ini at e
    by_cases hi : i < ds.length
    · rw [List.getElem?_append_left (by simpa using hi), List.getElem?_map] at e
      cases hd : ds[i]? with
      | none => rw [hd] at e; cases e
      | some d =>
        rw [hd] at e
        have e2 : Cell.dat d = c := Option.some.inj (Option.some.inj e)
        obtain ⟨v, hv, rv⟩ := rpAll_get r hd
        refine ⟨v, ?_, ?_⟩
        · rw [List.getElem?_append_left (by simp [rpAll_len r]; exact hi), List.getElem?_map, hv]
          rfl
        · rw [← e2]
          exact ⟨rfl, rv⟩
    · rw [List.getElem?_append_right (by simpa using hi), List.getElem?_replicate] at e
      split at e <;> cases e
theorem dc_call {R : List PyData → Res → Prop} {ρ : DEnv} {ta : TA} {ds : List PyData} {c : Cell} {E : XK} (h : DA ta ρ ds) (hr : R ds (.ret c)) : DC (tCall (spR R) [] E ta) ρ c := fun G F H σ f s Q q =>
  h G F H σ f s _ fun vs F1 H1 w r => ⟨F1, ds, .ret c, w.fh, by rw [List.append_nil]; exact r, hr, fun v F2 H2 ps w2 rc hn nd => q v F2 H2 ps (w.trans w2) rc (fun p hp => w.gh.free (hn p hp)) nd⟩
section
variable {P : Program} {w : World} {K : PySem.W.Frag} {mg : Str → Option Value} {base : Heap}
theorem spR_len {R : List PyData → Res → Prop} {ps : List Str} (hl : ∀ ds r, R ds r → ds.length = ps.length) : ∀ vs H Q E, spR R vs H Q E → vs.length = ps.length := fun vs H Q E ⟨F, ds, r, _, h2, h3, _⟩ => by
  rw [rpAll_len h2]
  exact hl _ _ h3
/-- THE RULE for a def that raises nothing -/
theorem fn_data {x qual : Str} {st : Stmt} {f : Addr} {fd : FuncData} {N ps : List Str} {k : Nat} {R : List PyData → Res → Prop} (F : Fun K x qual st f fd) (S : FnScope N ps (defScope st)) (hl : ∀ ds r, R ds r → ds.length = ps.length) {t : TS}
    (hb : ∀ (cdv : Value) (A : Around) (outer : List Env) (s : Shared) (H : Hp) (E : XK), Room k (A.deeper (envOfC qual (defScope st) s.heap.objs.size f cdv)) → PSs (cxOf CX0 P w K mg base N qual (defScope st) f cdv A outer s H E).nox (defBody st) t)
    (hd : ∀ ds r, R ds r → ∃ c, r = .ret c ∧ DS E0 t (ini N.length ds) { nx := fun _ => c = .dat .none, rt := fun c' => c' = c }) : FnOk P w K mg base CX0 (k + 1) f fd ps (spR R) :=
  F.ok S (spR_len hl) fun cdv A outer s H vs Q E hr ⟨F', ds, r, h1, h2, h3, h4⟩ => ⟨t, hb cdv A outer s H E hr, by
    obtain ⟨c, rfl, hds⟩ := hd ds r h3
    refine hds _ F' H F' H _ (.refl h1) (sat_ini h2 N.length) ⟨fun σ F2 H2 ρ q w s => ?_, fun v F2 H2 c' ps q w rc hn nd => ?_, fun _ _ _ _ q => q.elim, fun _ _ _ _ q => q.elim, fun _ _ _ q => q.elim⟩
    · have q' : c = .dat .none := q
      subst q'
      exact h4 _ F2 H2 [] w ⟨rfl, .non⟩ (fun _ z => absurd z List.not_mem_nil) List.nodup_nil
    · have q' : c' = c := q
      subst q'
      exact h4 v F2 H2 ps w rc hn nd⟩
/-- THE RULE for a def that may raise -/
theorem fn_dataX {x qual : Str} {st : Stmt} {f : Addr} {fd : FuncData} {N ps : List Str} {k : Nat} {R : List PyData → Res → Prop} (F : Fun K x qual st f fd) (S : FnScope N ps (defScope st)) (hl : ∀ ds r, R ds r → ds.length = ps.length) {t : XK → TS}
    (hb : ∀ (cdv : Value) (A : Around) (outer : List Env) (s : Shared) (H : Hp) (E : XK), Room k (A.deeper (envOfC qual (defScope st) s.heap.objs.size f cdv)) → PSs (cxOf (L2.CX P w) P w K mg base N qual (defScope st) f cdv A outer s H E) (defBody st) (t E))
    (hd : ∀ ds r E, R ds r → DS E (t E) (ini N.length ds) { nx := fun _ => r = .ret (.dat .none), rt := fun c' => r = .ret c', ex := fun C => r = .exc C }) : FnOk P w K mg base (L2.CX P w) (k + 1) f fd ps (spR R) :=
  F.okX S (spR_len hl) fun cdv A outer s H vs Q E hr ⟨F', ds, r, h1, h2, h3, h4⟩ => ⟨t E, hb cdv A outer s H E hr, by
    refine hd ds r E h3 _ F' H F' H _ (.refl h1) (sat_ini h2 N.length) ⟨fun σ F2 H2 ρ q w s => ?_, fun v F2 H2 c' ps q w rc hn nd => ?_, fun _ _ _ _ q => q.elim, fun _ _ _ _ q => q.elim, fun F2 H2 C q w => ?_⟩
    · have q' : r = .ret (.dat .none) := q
      subst q'
      exact h4 _ F2 H2 [] w ⟨rfl, .non⟩ (fun _ z => absurd z List.not_mem_nil) List.nodup_nil
    · have q' : r = .ret c' := q
      subst q'
      exact h4 v F2 H2 ps w rc hn nd
    · have q' : r = .exc C := q
      subst q'
      exact h4 F2 H2 w⟩
end
end DL
namespace DL
open PySem PySem.Spec PyProof.Rows L2

structure Cal (P : Program) (w : World) (K : PySem.W.Frag) (mg : Str → Option Value) (base : Heap) (CX : CXT) (x : Str) (k : Nat) (ps : List Str) (R : List PyData → Res → Prop) : Prop where
  ex : ∃ (f : Addr) (fd : FuncData), FnOk P w K mg base CX k f fd ps (spR R) ∧ mg x = some (.ref f) ∧ PySem.W.keepIn K (.ref f) = true ∧ Binds K fd ps []
structure Blt (mg : Str → Option Value) : Prop where
  len : mg "len" = none
  range : mg "range" = none
  min : mg "min" = none
  max : mg "max" = none
  isinstance : mg "isinstance" = none
  list : mg "list" = none
  int : mg "int" = none
  bool : mg "bool" = none
  tuple : mg "tuple" = none
  str : mg "str" = none
  sum : mg "sum" = none
  sorted : mg "sorted" = none
  set : mg "set" = none
  enumerate : mg "enumerate" = none
  reversed : mg "reversed" = none
  all : mg "all" = none
section
variable {X : Cx} {x : Str} {j k : Nat} {ps : List Str} {R : List PyData → Res → Prop} {p pos : Pos} {e : Expr} {es : List Expr} {t : TA}
theorem pe_callC (C : Cal X.prog X.w X.K X.mg X.base CX0 x k ps R) (hr : Room j X.A) (hg : Gl X x) (ha : PA X (e :: es) t) (hjk : k ≤ j := by decide) (hdb : (x == ("__debug__" : Str)) = false := by decide)
    (he : starEach (e :: es) X.env = (false, eval e X.env) :: starEach es X.env := by rfl) (hpl : (backTo pos (starEach es X.env)).any (·.1) = false := by rfl) : PE X (.Call (.Name x p) (e :: es) [] pos) (tCall (spR R) [] E0 t) := by
  obtain ⟨f, fd, F, hm, hk, hb⟩ := C.ex
  exact pe_call F (hr.mono hjk) hg hm hk hb .nil pass0 ha hdb he hpl
theorem pe_const {i : Int} (hg : Gl X x) (h : ∃ t, X.mg x = some (.int i t)) (hd : (x == ("__debug__" : Str)) = false := by decide) : PE X (.Name x pos) (tC (.int i)) := by
  obtain ⟨t, h⟩ := h
  exact pe_glob hg h ⟨_, rfl⟩ hd
def rAddS : R2 := fun x y H Q => ∃ i j, x = .str i ∧ y = .str j ∧ i.length + j.length ≤ sizeLine ∧ Q (.str (i ++ j)) H
def rSlA (K : PySem.W.Frag) : V → Option Int → Option Int → Hp → VK → Prop := fun x lo hi H Q => rSlL K x lo hi H Q ∨ rSlS x lo hi H Q
theorem sl_A : SlR X (rSlA X.K) := sl_list.or sl_str
def rListOf (K : PySem.W.Frag) : List V → Hp → VK → Prop := fun xs H Q => ∃ p ys, xs = [.ref p] ∧ (SqL K H p ys ∨ SqT K H p ys) ∧ ∀ l, H l = none → Q (.ref l) (upd H l (.lst ys))
end
section
variable {ρ : DEnv} {te ta tb tc : TE} {ds : List PyData} {K : PySem.W.Frag}
theorem dc_slA {tl th : TO} {lo hi : Option Int} (ha : DE ta ρ (.list ds)) (hl : DO tl ρ lo) (hh : DO th ρ hi) : DC (tSl (rSlA K) ta tl th) ρ (.own (cutD ds lo hi)) := fun G F H σ f s Q q =>
  de_run ha f s fun v F1 H1 w1 r1 => hl G F1 H1 σ w1.fh (s.grow w1) _ fun F2 H2 w2 => hh G F2 H2 σ w2.fh (s.grow (w1.trans w2)) _ fun F3 H3 w3 => by
    obtain ⟨a, xs, rfl, h1, h2⟩ := rp_list r1
    have w := (w1.trans w2).trans w3
    have ff := w2.ff.trans w3.ff
    refine .inl ⟨a, xs, rfl, .inl (same_rd (ff.trans w3.fh) h1), fun p hp => q _ F3 _ [p] (w.newOwn hp) ⟨p, rfl, rfl, w.fh.free hp, _, upd_same, rpAll_cut lo hi (rpAll_mono ff _ _ h2)⟩ (fun a ha => by rw [List.mem_singleton.mp ha]; exact w.gh.free hp) (by simp)⟩
theorem de_addStr {p q : Str} (ha : DE ta ρ (.str p)) (hb : DE tb ρ (.str q)) (hz : p.length + q.length ≤ 100000) : DE (tOp rAddS ta tb) ρ (.str (p ++ q)) := de_mk fun G F H σ f s Q g =>
  de_two ha hb f s fun v u F2 H2 w r1 r2 => ⟨p, q, rp_str r1, rp_str r2, sz5 hz, g _ F2 H2 w (.str _)⟩
theorem dc_catS {es : List PyData} (ha : DE ta ρ (.list ds)) (hb : DE tb ρ (.list es)) (hz : ds.length + es.length ≤ 100000) : DC (tOp (rCatS K) ta tb) ρ (.own (ds ++ es)) := fun G F H σ f s Q q =>
  de_two ha hb f s fun v u F2 H2 w r1 r2 => by
    obtain ⟨a, xs, rfl, h1, h2⟩ := rp_list r1
    obtain ⟨b, ys, rfl, h3, h4⟩ := rp_list r2
    refine ⟨a, b, xs, ys, rfl, rfl, .inl (same_rd w.fh h1), .inl (same_rd w.fh h3), sz5 (by rw [rpAll_len h2, rpAll_len h4]; exact hz), fun p hp => ?_⟩
    exact q _ F2 _ [p] (w.newOwn hp) ⟨p, rfl, rfl, w.fh.free hp, _, upd_same, rpAll_append h2 h4⟩ (fun a ha => by rw [List.mem_singleton.mp ha]; exact w.gh.free hp) (by simp)
theorem dc_listOf {ta : TA} (h : DA ta ρ [.list ds]) : DC (tCB (rListOf K) ta) ρ (.own ds) := fun G F H σ f s Q q => da1 h f s fun v F2 H2 w r => by
  obtain ⟨a, xs, rfl, h1, h2⟩ := rp_list r
  exact ⟨a, xs, rfl, .inl (.inl (same_rd w.fh h1)), fun p hp => q _ F2 _ [p] (w.newOwn hp) ⟨p, rfl, rfl, w.fh.free hp, _, upd_same, h2⟩ (fun a ha => by rw [List.mem_singleton.mp ha]; exact w.gh.free hp) (by simp)⟩
theorem dc_rep {d : PyData} {i : Int} (ha : DC ta ρ (.own [d])) (hb : DE tb ρ (.int i)) (hz : i ≤ 100000) (h0 : -100000 ≤ i) : DC (tOp rRep ta tb) ρ (.own (List.replicate i.toNat d)) := fun G F H σ f s Q q =>
  ha G F H σ f s _ fun v F1 H1 ps w1 r1 hn nd => de_run hb w1.fh (s.grow w1) fun u F2 H2 w2 r2 => by
    obtain ⟨p, rfl, e2, r3⟩ := r1
    obtain ⟨n, xs, e4, r5⟩ := r3.grow w2
    have w := w1.trans w2
    cases r5 with
    | cons r6 r7 =>
      cases r7
      refine ⟨p, i, [_], rfl, rp_int r2, e4, by omega, by omega, ?_, fun l hl => ?_⟩
      · rw [List.length_singleton, Nat.one_mul]
        exact sz5 (by omega)
      · rw [List.flatten_replicate_singleton]
        refine q _ F2 _ [l] (w.newOwn hl) ⟨l, rfl, rfl, w.fh.free hl, _, upd_same, ?_⟩ (fun a ha => by rw [List.mem_singleton.mp ha]; exact w.gh.free hl) (by simp)
        generalize i.toNat = m
        induction m with
        | zero => exact .nil
        | succ m ih => exact .cons r6 ih
theorem dc_lcA {α : Type} {i : Nat} {wi : TI} {xs : List α} {e : α → PyData} {g : α → PyData} (hi : DI wi ρ (xs.map e)) (hn : xs.length ≤ 100000) (hl : i < ρ.length)
    (he : ∀ x ∈ xs, DE te (ρ.set i (some (.dat (e x)))) (g x)) : DC (tLc wi (gName i) tYes te [i]) ρ (.own (xs.map g)) := by
  have h := dc_lc (t := fun _ => true) hi hn hl (fun _ _ => dt_yes) fun x hx _ => he x hx
  rw [filter_yes] at h
  exact h
theorem dc_lcRowsA {α : Type} {i : Nat} {wi : TI} {xs : List α} {e : α → PyData} {g : α → List PyData} (hi : DI wi ρ (xs.map e)) (hn : xs.length ≤ 100000) (hl : i < ρ.length)
    (he : ∀ x ∈ xs, DC te (ρ.set i (some (.dat (e x)))) (.own (g x))) : DC (tLc wi (gName i) tYes te [i]) ρ (.rows (xs.map g)) := by
  have h := dc_lcRows (t := fun _ => true) hi hn hl (fun _ _ => dt_yes) fun x hx _ => he x hx
  rw [filter_yes] at h
  exact h
theorem de_tIf {tt : TT} {b : Bool} {x : PyData} (h : DT tt ρ b) (h1 : b = true → DE ta ρ x) (h2 : b = false → DE tb ρ x) : DE (tIf tt ta tb) ρ x := de_mk fun G F H σ f s Q q => h G F H σ f s _ fun F2 H2 w => by
  cases b with
  | true =>
    rw [if_pos rfl]
    exact de_run (h1 rfl) w.fh (s.grow w) fun v F3 H3 w3 r => q v F3 H3 (w.trans w3) r
  | false =>
    rw [if_neg Bool.false_ne_true]
    exact de_run (h2 rfl) w.fh (s.grow w) fun v F3 H3 w3 r => q v F3 H3 (w.trans w3) r
end
end DL
namespace DL
open PySem PySem.Spec PyProof.Rows L2
/-! ### base: names for data, small facts -/
theorem dd_hyp {ta : TE} {ρ : DEnv} {c : Cell} (h : DC ta ρ c) : DC ta ρ c := h
theorem CDiv_of {i j : Int} (h : 0 < j) (h2 : j < 1073741824) : CDiv i j := ⟨h, h2⟩
abbrev dL (ns : List Int) : PyData := .list (ns.map .int)
abbrev dNs (ns : List Nat) : PyData := .list (ns.map fun k : Nat => .int (k : Int))
abbrev dTab (t : List (List Int)) : PyData := .list (t.map dL)
abbrev dRoom (r c h : Nat) : PyData := .tuple [.int r, .int c, .int h]
abbrev dPl (i j : Nat) : PyData := .tuple [.int i, .int j]
abbrev endR (c : Cell) : DEnds := { nx := fun _ => c = .dat .none, rt := fun c' => c' = c }
theorem atI_of {α : Type} {xs : List α} {i : Int} {k : Nat} {a : α} (e : i = (k : Int)) (h : xs[k]? = some a) : atI xs i = some a := by
  rw [e]; exact atI_nat h
theorem at_map {α : Type} {f : α → PyData} {xs : List α} {k : Nat} {a : α} (h : xs[k]? = some a) : atI (xs.map f) (k : Int) = some (f a) := atI_nat (by rw [List.getElem?_map, h]; rfl)
theorem at_mapI {α : Type} {f : α → PyData} {xs : List α} {i : Int} {k : Nat} {a : α} (e : i = (k : Int)) (h : xs[k]? = some a) : atI (xs.map f) i = some (f a) := by rw [e]; exact at_map h
theorem ixN_nat {n k : Nat} (h : k < n) : ixN n (k : Int) = some k := by
  unfold ixN
  rw [if_pos (by omega), if_pos (by omega), Int.toNat_natCast]
theorem ixN_of {n k : Nat} {i : Int} (e : i = (k : Int)) (h : k < n) : ixN n i = some k := by rw [e]; exact ixN_nat h
theorem getD_of {α : Type} {xs : List α} {k : Nat} (d : α) (h : k < xs.length) : xs[k]? = some (xs.getD k d) := by
  rw [List.getD_eq_getElem?_getD, List.getElem?_eq_getElem h]
  rfl
theorem cutD_len (ds : List PyData) (lo hi : Option Int) : (cutD ds lo hi).length ≤ ds.length := by
  unfold cutD
  rw [List.length_take, List.length_drop]
  omega
theorem cutD_lo (ds : List PyData) (k : Nat) (h : k ≤ ds.length) : cutD ds none (some (k : Int)) = ds.take k := by
  unfold cutD
  rw [HT.sIx_none, HT.sIx_nat, Nat.min_eq_left h]
  simp
theorem cutD_hi (ds : List PyData) (k : Nat) (h : k ≤ ds.length) : cutD ds (some (k : Int)) none = ds.drop k := by
  unfold cutD
  rw [HT.sIx_none, HT.sIx_nat, Nat.min_eq_left h]
  rw [List.take_of_length_le (by rw [List.length_drop]; omega)]
theorem sum_range_succ (f : Nat → Int) (k : Nat) : ((List.range (k + 1)).map f).sum = ((List.range k).map f).sum + f k := by
  rw [List.range_succ, List.map_append, List.sum_append]
  simp
/-- the law's promise -/
def R_law (ds : List PyData) (r : Res) : Prop := ∃ ns : List Int, ds = [dL ns] ∧ ns.length ≤ 63 ∧ r = .ret (.dat (.bool true))
def noL (K : PySem.W.Frag) : Bool := K.all fun p => match p.2.cls with
  | .type n => !(n == "list")
  | _ => true
theorem noL_lookup : ∀ {K : PySem.W.Frag} {a : Addr} {o : Obj}, noL K = true → K.lookup a = some o → o.cls ≠ .type "list"
  | [], _, _, _, e => by cases e
  | (b, u) :: K, a, o, h, e => by
    have h' : (match u.cls with | .type n => !(n == "list") | _ => true) = true ∧ noL K = true := by simpa [noL] using h
    simp only [List.lookup] at e
    split at e
    · cases e
      intro z
      rw [z] at h'
      simp at h'
    · exact noL_lookup h'.2 e
theorem law_pre {K : PySem.W.Frag} {H : Hp} {a : Addr} {ns : List Int} (h : noL K = true) (hS : SqL K H a (ns.map V.int)) (hl : ns.length ≤ 63) : spR R_law [.ref a] H (fun v _ => v = .bl true) fun _ _ _ => False := by
  have hr : Rd H a (.lst (ns.map V.int)) := by
    rcases hS with q | ⟨o, its, n, h1, h2, _⟩
    · exact q
    · exact absurd h2 (noL_lookup h h1)
  refine ⟨H, [dL ns], .ret (.dat (.bool true)), Same.refl _, .cons (.lst hr (rpAll_map fun _ _ => .int _)) .nil, ⟨ns, rfl, hl, rfl⟩, fun v F2 H2 ps w r _ _ => ?_⟩
  exact rp_bl r.2

/-! ### steps: "dd" walks an expression's judgement, "ds" one statement -/
local macro_rules | `(tactic| walk_at "side") => `(tactic| first | assumption | exact rfl | decide | omega)
local macro_rules | `(tactic| walk_at "dd1") => `(tactic| first
  | exact de_int | exact de_str | exact de_bl | exact de_non | exact da_nil | exact do_none | exact dt_yes
  | exact de_var rfl
  | refine' da_cons ?_ ?_ | refine' do_some ?_
  | refine' dt_test ?_ | refine' dt_B ?_ | refine' dt_and ?_ fun _ => ?_ | refine' dt_or ?_ fun _ => ?_ | refine' dt_not ?_
  | refine' de_and ?_ fun _ => ?_ | refine' de_or ?_ fun _ => ?_ | refine' de_not ?_
  | refine' de_add ?_ ?_ | refine' de_sub ?_ ?_ | refine' de_mod ?_ ?_ ?_ | refine' de_fdiv ?_ ?_ ?_ | refine' de_mul ?_ ?_ ?_ | refine' de_pow ?_ ?_ ?_ | refine' de_neg ?_
  | refine' de_lt ?_ ?_ | refine' de_le ?_ ?_ | refine' de_gt ?_ ?_ | refine' de_ge ?_ ?_ | refine' de_chainI ?_ ?_ ?_
  | (refine' de_ixT (de_var rfl) ?_ ?_) | (refine' de_ixL (de_var rfl) ?_ ?_)
  | refine' de_max2 ?_ | refine' de_min2 ?_ | refine' de_intB ?_
  | refine' de_tup ?_ ?_
  | (refine' de_lenL (da_cons (de_var rfl) da_nil)) | (refine' de_lenT (da_cons (de_var rfl) da_nil)) | (refine' de_lenS (da_cons (de_var rfl) da_nil) ?_)
  | refine' de_isN ?_ | refine' de_notN ?_
  | refine' de_addStr ?_ ?_ ?_
  | refine' dc_frz (dc_lst ?_ ?_) | refine' dc_frz (dc_sl ?_ ?_ ?_) | refine' dc_frz (dc_catS ?_ ?_ ?_) | refine' dc_frz (dc_listRg1 ?_ ?_ ?_) | refine' dc_frz (dc_listOf ?_) | refine' dc_frz (dc_rep ?_ ?_ ?_ ?_)
  | refine' dc_lst ?_ ?_ | refine' dc_sl ?_ ?_ ?_ | refine' dc_catS ?_ ?_ ?_ | refine' dc_listRg1 ?_ ?_ ?_ | refine' dc_listOf ?_ | refine' dc_rep ?_ ?_ ?_ ?_
  | refine' CDiv_of ?_ ?_
  | exact (show atI _ _ = some _ by assumption) | exact (show atI _ _ = some _ from rfl) | (show _ ≤ _; first | assumption | decide | omega | (simp; done) | (simp; omega)) | (show _ < _; first | assumption | decide | omega | (simp; done) | (simp; omega)) | exact dd_hyp (by assumption))
local macro_rules | `(tactic| walk_at "dd") => `(tactic| repeat' walk_at "dd1")
local macro_rules | `(tactic| walk_at "nrm") => `(tactic| simp only [List.set_cons_succ, List.set_cons_zero])
local macro_rules | `(tactic| walk_at "if") => `(tactic| (refine' ds_if ?t ?y ?n; case t => walk_at "dd"))
local macro_rules | `(tactic| walk_at "as") => `(tactic| (refine' ds_asg ?t (Nat.le_of_ble_eq_true rfl) ?q; case t => walk_at "dd"))
local macro_rules | `(tactic| walk_at "ao") => `(tactic| (refine' ds_asg (c := Cell.own _) ?t (Nat.le_of_ble_eq_true rfl) ?q; case t => walk_at "dd"))
local macro_rules | `(tactic| walk_at "dr") => `(tactic| (refine' ds_drop ?t ?q; case t => walk_at "dd"))
local macro_rules | `(tactic| walk_at "re") => `(tactic| (refine' ds_ret ?t ?q; case t => walk_at "dd"))
local macro_rules | `(tactic| walk_at "ini") => `(tactic| simp only [ini, List.map_cons, List.map_nil, List.length_cons, List.length_nil, List.replicate, List.cons_append, List.nil_append, Nat.reduceSub, Nat.reduceAdd, Nat.zero_add])
/-! ### the script, rooms -/
def R_L_of (ds : List PyData) (r : Res) : Prop := ∃ (ns : List Int) (k : Nat), ds = [dL ns, .int k] ∧ ns.length ≤ 1000 ∧ k ≤ 100000 ∧ r = .ret (.dat (.int (ns.getD k 0)))
def t_L_of (K : PySem.W.Frag) : TS :=
  (tRet (tOp (rIx K) (tOp (rCatS K) (tSl (rSlL K) (tVar 0) (tPart (tVar 1)) (tPart (tOp (rI0 fun i j => .int (i + j)) (tVar 1) (tC (.int 1))))) (tLst (tCons (tC (.int 0)) tNil))) (tC (.int 0))))
-- slots: 0 1
theorem cut1_getD (ns : List Int) (k : Nat) : atI (cutD (ns.map PyData.int) (some (k : Int)) (some ((k : Int) + 1)) ++ [PyData.int 0]) 0 = some (.int (ns.getD k 0)) := by
  have e1 : HT.sIx (ns.map PyData.int).length 0 (some (k : Int)) = min k ns.length := by rw [HT.sIx_nat, List.length_map]
  have e2 : HT.sIx (ns.map PyData.int).length (ns.map PyData.int).length (some ((k : Int) + 1)) = min (k + 1) ns.length := by
    rw [show ((k : Int) + 1) = ((k + 1 : Nat) : Int) by omega, HT.sIx_nat, List.length_map]
  refine atI_of (k := 0) rfl ?_
  unfold cutD
  rw [e1, e2]
  by_cases hk : k < ns.length
  · have : min (k + 1) ns.length - min k ns.length = 1 := by omega
    rw [this, Nat.min_eq_left (by omega), List.getElem?_append_left (by simp; omega)]
    rw [List.getElem?_take_of_lt (by omega), List.getElem?_drop, List.getElem?_map, Nat.add_zero, List.getElem?_eq_getElem hk, List.getD_eq_getElem?_getD, List.getElem?_eq_getElem hk]
    rfl
  · have : min (k + 1) ns.length - min k ns.length = 0 := by omega
    rw [this, List.take_zero, List.getD_eq_getElem?_getD, List.getElem?_eq_none (Nat.le_of_not_lt hk)]
    rfl
theorem d_L_of {K : PySem.W.Frag} (ds : List PyData) (r : Res) (h : R_L_of ds r) : ∃ c, r = .ret c ∧ DS E0 (t_L_of K) (ini 2 ds) (endR c) := by
  obtain ⟨ns, k, rfl, hl, hk, rfl⟩ := h
  refine ⟨_, rfl, ?_⟩
  have e := cut1_getD ns k
  refine' ds_ret (de_ixL ?_ ?_ e) rfl
  all_goals walk_at "dd"
  have := cutD_len (ns.map PyData.int) (some (k : Int)) (some ((k : Int) + 1))
  simp at this ⊢
  omega

def isInt : PyData → Bool
  | .int _ => true
  | _ => false
def R_L_is_number (ds : List PyData) (r : Res) : Prop := ∃ x : PyData, ds = [x] ∧ (∀ kv, x ≠ .dict kv) ∧ r = .ret (.dat (.bool (isInt x)))
def t_L_is_number (K : PySem.W.Frag) : TS :=
  (tRet (tAndV (tNotV (tCB (rIsiB K "bool") (tCons (tVar 0) (tCons (tC (.ty "bool")) tNil)))) (tCB (rIsiB K "int") (tCons (tVar 0) (tCons (tC (.ty "int")) tNil)))))
-- slots: 0
def isint : PyData → Bool
  | .int _ => true
  | .bool _ => true
  | _ => false
theorem kit_int (x : PyData) (K : PySem.W.Frag) (h : ∀ kv, x ≠ .dict kv) : PySem.W.kitOne K (tyD x) (.type "int") = some (isint x) := by
  cases x with
  | none => exact kit_ty (show kitB "NoneType" "int" = some false by decide +kernel)
  | bool _ => exact kit_ty (show kitB "bool" "int" = some true by decide +kernel)
  | int _ => exact kit_ty (show kitB "int" "int" = some true by decide +kernel)
  | str _ => exact kit_ty (show kitB "str" "int" = some false by decide +kernel)
  | list _ => exact kit_ty (show kitB "list" "int" = some false by decide +kernel)
  | tuple _ => exact kit_ty (show kitB "tuple" "int" = some false by decide +kernel)
  | dict _ => exact absurd rfl (h _)
def isbool : PyData → Bool
  | .bool _ => true
  | _ => false
theorem kit_bool (x : PyData) (K : PySem.W.Frag) (h : ∀ kv, x ≠ .dict kv) : PySem.W.kitOne K (tyD x) (.type "bool") = some (isbool x) := by
  cases x with
  | none => exact kit_ty (show kitB "NoneType" "bool" = some false by decide +kernel)
  | bool _ => exact kit_ty (show kitB "bool" "bool" = some true by decide +kernel)
  | int _ => exact kit_ty (show kitB "int" "bool" = some false by decide +kernel)
  | str _ => exact kit_ty (show kitB "str" "bool" = some false by decide +kernel)
  | list _ => exact kit_ty (show kitB "list" "bool" = some false by decide +kernel)
  | tuple _ => exact kit_ty (show kitB "tuple" "bool" = some false by decide +kernel)
  | dict _ => exact absurd rfl (h _)
def islist : PyData → Bool
  | .list _ => true
  | _ => false
theorem kit_list (x : PyData) (K : PySem.W.Frag) (h : ∀ kv, x ≠ .dict kv) : PySem.W.kitOne K (tyD x) (.type "list") = some (islist x) := by
  cases x with
  | none => exact kit_ty (show kitB "NoneType" "list" = some false by decide +kernel)
  | bool _ => exact kit_ty (show kitB "bool" "list" = some false by decide +kernel)
  | int _ => exact kit_ty (show kitB "int" "list" = some false by decide +kernel)
  | str _ => exact kit_ty (show kitB "str" "list" = some false by decide +kernel)
  | list _ => exact kit_ty (show kitB "list" "list" = some true by decide +kernel)
  | tuple _ => exact kit_ty (show kitB "tuple" "list" = some false by decide +kernel)
  | dict _ => exact absurd rfl (h _)
def istuple : PyData → Bool
  | .tuple _ => true
  | _ => false
theorem kit_tuple (x : PyData) (K : PySem.W.Frag) (h : ∀ kv, x ≠ .dict kv) : PySem.W.kitOne K (tyD x) (.type "tuple") = some (istuple x) := by
  cases x with
  | none => exact kit_ty (show kitB "NoneType" "tuple" = some false by decide +kernel)
  | bool _ => exact kit_ty (show kitB "bool" "tuple" = some false by decide +kernel)
  | int _ => exact kit_ty (show kitB "int" "tuple" = some false by decide +kernel)
  | str _ => exact kit_ty (show kitB "str" "tuple" = some false by decide +kernel)
  | list _ => exact kit_ty (show kitB "list" "tuple" = some false by decide +kernel)
  | tuple _ => exact kit_ty (show kitB "tuple" "tuple" = some true by decide +kernel)
  | dict _ => exact absurd rfl (h _)
def isstr : PyData → Bool
  | .str _ => true
  | _ => false
theorem kit_str (x : PyData) (K : PySem.W.Frag) (h : ∀ kv, x ≠ .dict kv) : PySem.W.kitOne K (tyD x) (.type "str") = some (isstr x) := by
  cases x with
  | none => exact kit_ty (show kitB "NoneType" "str" = some false by decide +kernel)
  | bool _ => exact kit_ty (show kitB "bool" "str" = some false by decide +kernel)
  | int _ => exact kit_ty (show kitB "int" "str" = some false by decide +kernel)
  | str _ => exact kit_ty (show kitB "str" "str" = some true by decide +kernel)
  | list _ => exact kit_ty (show kitB "list" "str" = some false by decide +kernel)
  | tuple _ => exact kit_ty (show kitB "tuple" "str" = some false by decide +kernel)
  | dict _ => exact absurd rfl (h _)
theorem d_L_is_number {K : PySem.W.Frag} (ds : List PyData) (r : Res) (h : R_L_is_number ds r) : ∃ c, r = .ret c ∧ DS E0 (t_L_is_number K) (ini 1 ds) (endR c) := by
  obtain ⟨x, rfl, hx, rfl⟩ := h
  refine ⟨_, rfl, ?_⟩
  refine ds_ret (de_to (de_and (de_not (de_isi (de_var rfl) (kit_bool x K hx))) fun _ => de_isi (de_var rfl) (kit_int x K hx)) ?_) rfl
  cases x <;> rfl

/-- the room that a cell draws -/
def roomD (c : Int) : Nat × Nat × Nat := if c / 6 % 4 = 1 then ((1 + c % 6).toNat, (1 + c / 24 % 20).toNat, (1 + c / 480 % 20).toNat) else ((1 + c % 6).toNat, (1 + c / 24 % 5).toNat, (1 + c / 120 % 5).toNat)
theorem roomD_ok (c : Int) : 1 ≤ (roomD c).1 ∧ (roomD c).1 ≤ 6 ∧ 1 ≤ (roomD c).2.1 ∧ (roomD c).2.1 ≤ 20 ∧ 1 ≤ (roomD c).2.2 ∧ (roomD c).2.2 ≤ 20 := by
  unfold roomD
  split
  · refine ⟨?_, ?_, ?_, ?_, ?_, ?_⟩ <;> dsimp only <;> omega
  · refine ⟨?_, ?_, ?_, ?_, ?_, ?_⟩ <;> dsimp only <;> omega
def R_L_room (ds : List PyData) (r : Res) : Prop := ∃ c : Int, ds = [.int c] ∧ r = .ret (.dat (dRoom (roomD c).1 (roomD c).2.1 (roomD c).2.2))
def t_L_room (K : PySem.W.Frag) : TS :=
  (tSeq (tIfS (tTest (tOp (rEqD K) (tOp (rI (fun _ j => 0 < j) fun i j => .int (i % j)) (tOp (rI CDiv fun i j => .int (i / j)) (tVar 0) (tC (.int 6))) (tC (.int 4))) (tC (.int 1)))) (tRet (tTup (tCons (tOp (rI0 fun i j => .int (i + j)) (tC (.int 1)) (tOp (rI (fun _ j => 0 < j) fun i j => .int (i % j)) (tVar 0) (tC (.int 6)))) (tCons (tOp (rI0 fun i j => .int (i + j)) (tC (.int 1)) (tOp (rI (fun _ j => 0 < j) fun i j => .int (i % j)) (tOp (rI CDiv fun i j => .int (i / j)) (tVar 0) (tC (.int 24))) (tC (.int 20)))) (tCons (tOp (rI0 fun i j => .int (i + j)) (tC (.int 1)) (tOp (rI (fun _ j => 0 < j) fun i j => .int (i % j)) (tOp (rI CDiv fun i j => .int (i / j)) (tVar 0) (tC (.int 480))) (tC (.int 20)))) tNil))))) tNext) (tRet (tTup (tCons (tOp (rI0 fun i j => .int (i + j)) (tC (.int 1)) (tOp (rI (fun _ j => 0 < j) fun i j => .int (i % j)) (tVar 0) (tC (.int 6)))) (tCons (tOp (rI0 fun i j => .int (i + j)) (tC (.int 1)) (tOp (rI (fun _ j => 0 < j) fun i j => .int (i % j)) (tOp (rI CDiv fun i j => .int (i / j)) (tVar 0) (tC (.int 24))) (tC (.int 5)))) (tCons (tOp (rI0 fun i j => .int (i + j)) (tC (.int 1)) (tOp (rI (fun _ j => 0 < j) fun i j => .int (i % j)) (tOp (rI CDiv fun i j => .int (i / j)) (tVar 0) (tC (.int 120))) (tC (.int 5)))) tNil))))))
-- slots: 0
theorem d_L_room {K : PySem.W.Frag} (ds : List PyData) (r : Res) (h : R_L_room ds r) : ∃ c, r = .ret c ∧ DS E0 (t_L_room K) (ini 1 ds) (endR c) := by
  obtain ⟨c, rfl, rfl⟩ := h
  refine ⟨_, rfl, ?_⟩
  walk_at "ini"
  refine ds_seq ?_
  refine' ds_if (dt_test (de_eqI ?a ?b)) ?y ?n
  case a => walk_at "dd"
  case b => walk_at "dd"
  · intro hb
    have hb' := of_decide_eq_true hb
    walk_at "re"
    show Cell.dat _ = Cell.dat _
    unfold roomD
    rw [if_pos hb']
    simp only [Cell.dat.injEq, PyData.tuple.injEq, List.cons.injEq, PyData.int.injEq, and_true]
    omega
  · intro hb
    have hb' := of_decide_eq_false hb
    refine ds_next ?_
    walk_at "re"
    show Cell.dat _ = Cell.dat _
    unfold roomD
    rw [if_neg hb']
    simp only [Cell.dat.injEq, PyData.tuple.injEq, List.cons.injEq, PyData.int.injEq, and_true]
    omega

def isWh (x : PyData) (lo hi : Int) : Bool := match x with
  | .int i => decide (lo ≤ i) && decide (i ≤ hi)
  | _ => false
def R_P_is_whole (ds : List PyData) (r : Res) : Prop := ∃ (x : PyData) (lo hi : Int), ds = [x, .int lo, .int hi] ∧ (∀ kv, x ≠ .dict kv) ∧ r = .ret (.dat (.bool (isWh x lo hi)))
def t_P_is_whole (K : PySem.W.Frag) : TS :=
  (tRet (tAndV (tCB (rIsiB K "int") (tCons (tVar 0) (tCons (tC (.ty "int")) tNil))) (tAndV (tNotV (tCB (rIsiB K "bool") (tCons (tVar 0) (tCons (tC (.ty "bool")) tNil)))) (tChain (rI0 fun i j => .bl (decide (i ≤ j))) (rI0 fun i j => .bl (decide (i ≤ j))) (tVar 1) (tVar 0) (tVar 2)))))
-- slots: 0 1 2
theorem d_P_is_whole {K : PySem.W.Frag} (ds : List PyData) (r : Res) (h : R_P_is_whole ds r) : ∃ c, r = .ret c ∧ DS E0 (t_P_is_whole K) (ini 3 ds) (endR c) := by
  obtain ⟨x, lo, hi, rfl, hx, rfl⟩ := h
  refine ⟨_, rfl, ?_⟩
  cases x with
  | int i =>
    refine ds_ret (de_to (de_and (de_isi (de_var rfl) (kit_int _ K hx)) fun _ => de_and (de_not (de_isi (de_var rfl) (kit_bool _ K hx))) fun _ => de_chainI (de_var rfl) (de_var rfl) (de_var rfl)) ?_) rfl
    rfl
  | bool b => exact ds_ret (de_to (de_and (b' := false) (de_isi (de_var rfl) (kit_int _ K hx)) fun _ => de_and (b' := false) (de_not (de_isi (de_var rfl) (kit_bool _ K hx))) fun h => by cases h) rfl) rfl
  | none => exact ds_ret (de_to (de_and (b' := false) (de_isi (de_var rfl) (kit_int _ K hx)) fun h => by cases h) rfl) rfl
  | str _ => exact ds_ret (de_to (de_and (b' := false) (de_isi (de_var rfl) (kit_int _ K hx)) fun h => by cases h) rfl) rfl
  | list _ => exact ds_ret (de_to (de_and (b' := false) (de_isi (de_var rfl) (kit_int _ K hx)) fun h => by cases h) rfl) rfl
  | tuple _ => exact ds_ret (de_to (de_and (b' := false) (de_isi (de_var rfl) (kit_int _ K hx)) fun h => by cases h) rfl) rfl
  | dict _ => exact absurd rfl (hx _)

/-- a room, as it is asked for -/
structure RoomOk (r c h : Nat) : Prop where
  r1 : 1 ≤ r
  r6 : r ≤ 6
  c1 : 1 ≤ c
  c20 : c ≤ 20
  h1 : 1 ≤ h
  h20 : h ≤ 20
def R_P_need_room (ds : List PyData) (r : Res) : Prop := ∃ R C H : Nat, ds = [dRoom R C H] ∧ RoomOk R C H ∧ r = .ret (.dat .none)
def t_P_need_room (K : PySem.W.Frag) : TS :=
  (tSeq (tIfS (tOr (tTest (tOp (rNeD K) (tCB (rLenA K) (tCons (tVar 0) tNil)) (tC (.int 3)))) (tNot (tB (tCall (spR R_P_is_whole) [] E0 (tCons (tOp (rIx K) (tVar 0) (tC (.int 0))) (tCons (tC (.int 1)) (tCons (tC (.int 6)) tNil))))))) tNever tNext) (tIfS (tOr (tNot (tB (tCall (spR R_P_is_whole) [] E0 (tCons (tOp (rIx K) (tVar 0) (tC (.int 1))) (tCons (tC (.int 1)) (tCons (tC (.int 20)) tNil)))))) (tNot (tB (tCall (spR R_P_is_whole) [] E0 (tCons (tOp (rIx K) (tVar 0) (tC (.int 2))) (tCons (tC (.int 1)) (tCons (tC (.int 20)) tNil))))))) tNever tNext))
-- slots: 0
theorem call_wh {ρ : DEnv} {ta : TA} {i lo hi : Int} (h : DA ta ρ [.int i, .int lo, .int hi]) : DE (tCall (spR R_P_is_whole) [] E0 ta) ρ (.bool (decide (lo ≤ i) && decide (i ≤ hi))) :=
  dc_call h ⟨_, lo, hi, rfl, (fun _ z => by cases z), rfl⟩
local macro_rules | `(tactic| walk_at "dd1") => `(tactic| refine' call_wh ?_)
theorem d_P_need_room {K : PySem.W.Frag} (ds : List PyData) (r : Res) (h : R_P_need_room ds r) : ∃ c, r = .ret c ∧ DS E0 (t_P_need_room K) (ini 1 ds) (endR c) := by
  obtain ⟨R, C, H, rfl, ok, rfl⟩ := h
  obtain ⟨r1, r6, c1, c20, h1, h20⟩ := ok
  refine ⟨_, rfl, ?_⟩
  walk_at "ini"
  refine ds_seq ?_
  refine' ds_if (dt_or (dt_test (de_neI ?a ?b)) fun _ => ?c) ?y ?n
  case a => walk_at "dd"
  case b => walk_at "dd"
  case c => walk_at "dd"
  · intro hb
    simp at hb
    omega
  · intro _
    refine ds_next ?_
    walk_at "if"
    · intro hb
      simp at hb
      omega
    · intro _
      exact ds_next rfl

/-! ### ways to choose -/
def bin : Nat → Nat → Nat
  | _, 0 => 1
  | 0, _ + 1 => 0
  | n + 1, k + 1 => bin n k + bin n (k + 1)
theorem bin_zero (n : Nat) : bin n 0 = 1 := by cases n <;> rfl
theorem bin_succ (n k : Nat) : bin (n + 1) (k + 1) = bin n k + bin n (k + 1) := rfl
theorem bin_out : ∀ (n k : Nat), n < k → bin n k = 0
  | 0, k + 1, _ => rfl
  | n + 1, k + 1, h => by
    rw [bin_succ, bin_out n k (by omega), bin_out n (k + 1) (by omega)]
theorem bin_le : ∀ (n k : Nat), bin n k ≤ 2 ^ n
  | n, 0 => by rw [bin_zero]; exact Nat.one_le_two_pow
  | 0, k + 1 => Nat.zero_le _
  | n + 1, k + 1 => by
    rw [bin_succ, Nat.pow_succ]
    have := bin_le n k
    have := bin_le n (k + 1)
    omega
theorem bin_step : ∀ (n k : Nat), ((k : Int) + 1) * (bin n (k + 1) : Int) = ((n : Int) - k) * (bin n k : Int)
  | 0, 0 => by decide
  | 0, k + 1 => by
    show ((k + 1 : Nat) + 1 : Int) * ((0 : Nat) : Int) = (((0 : Nat) : Int) - (k + 1 : Nat)) * ((0 : Nat) : Int)
    simp
  | n + 1, 0 => by
    have h := bin_step n 0
    rw [bin_zero] at h ⊢
    rw [bin_succ, bin_zero]
    simp at h ⊢
    omega
  | n + 1, k + 1 => by
    have h1 := bin_step n k
    have h2 := bin_step n (k + 1)
    rw [bin_succ n (k + 1), bin_succ n k]
    generalize (bin n k : Nat) = A at *
    generalize (bin n (k + 1) : Nat) = B at *
    generalize (bin n (k + 1 + 1) : Nat) = C at *
    simp only [Int.natCast_add, Int.natCast_one, Int.mul_add, Int.add_mul, Int.sub_mul, Int.one_mul] at *
    omega
def chooseZ (m : Nat) (f : Int) : Int := if f < 0 then 0 else (bin m f.toNat : Int)
def R_P_choose (ds : List PyData) (r : Res) : Prop := ∃ (m : Nat) (f : Int), ds = [.int m, .int f] ∧ m ≤ 40 ∧ r = .ret (.dat (.int (chooseZ m f)))
def t_P_choose (K : PySem.W.Frag) : TS :=
  (tSeq (tIfS (tOr (tTest (tOp (rI0 fun i j => .bl (decide (i < j))) (tVar 1) (tC (.int 0)))) (tTest (tOp (rI0 fun i j => .bl (decide (j < i))) (tVar 1) (tVar 0)))) (tRet (tC (.int 0))) tNext) (tSeq (tAsg (tC (.int 1)) (gName 2)) (tSeq (tFor (iRng1 (tCons (tVar 1) tNil)) (gName 3) (tAsg (tOp (rI CDiv fun i j => .int (i / j)) (tOp (rI CMulX fun i j => .int (i * j)) (tVar 2) (tOp (rI0 fun i j => .int (i - j)) (tVar 0) (tVar 3))) (tOp (rI0 fun i j => .int (i + j)) (tVar 3) (tC (.int 1)))) (gName 2))) (tRet (tVar 2)))))
-- slots: 0 1 2 3
theorem bin40 {m : Nat} (h : m ≤ 40) (k : Nat) : (bin m k : Int) ≤ 1099511627776 := by
  have h1 := bin_le m k
  have h2 : 2 ^ m ≤ 2 ^ 40 := Nat.pow_le_pow_right (by decide) h
  have h3 : (2 : Nat) ^ 40 = 1099511627776 := by decide
  omega
theorem d_P_choose {K : PySem.W.Frag} (ds : List PyData) (r : Res) (h : R_P_choose ds r) : ∃ c, r = .ret c ∧ DS E0 (t_P_choose K) (ini 4 ds) (endR c) := by
  obtain ⟨m, f, rfl, hm, rfl⟩ := h
  refine ⟨_, rfl, ?_⟩
  walk_at "ini"
  refine ds_seq ?_
  walk_at "if"
  · intro hb
    walk_at "re"
    show Cell.dat _ = Cell.dat _
    simp at hb
    unfold chooseZ
    split
    · rfl
    · rw [bin_out m f.toNat (by omega)]
      rfl
  · intro hb
    simp at hb
    obtain ⟨h0, h1⟩ := hb
    refine ds_next (ds_seq ?_)
    walk_at "as"
    walk_at "nrm"
    refine ds_seq ?_
    refine' ds_forR (n := f) ?a (by omega) (by omega) (fun k ρ => ∃ x, ρ = [some (.dat (.int m)), some (.dat (.int f)), some (.dat (.int (bin m k : Int))), x]) ?z ?s ?d
    case a => walk_at "dd"
    case z => exact ⟨_, by rw [bin_zero]; rfl⟩
    case s =>
      rintro k ρ hk ⟨x, rfl⟩
      refine ⟨Nat.le_of_ble_eq_true rfl, ?_⟩
      walk_at "nrm"
      have e := bin_step m k
      have b0 := bin40 hm k
      have b1 : (0 : Int) ≤ (bin m k : Int) := Int.natCast_nonneg _
      have ev : (bin m k : Int) * ((m : Int) - k) / ((k : Int) + 1) = (bin m (k + 1) : Int) := by
        rw [Int.mul_comm, ← e]
        exact Int.mul_ediv_cancel_left _ (by omega)
      refine' ds_asg (c := .dat (.int ((bin m (k + 1) : Nat) : Int))) (de_to (de_fdiv (de_mul ?g1 ?g2 ?g3) ?g4 ?g5) (congrArg PyData.int ev)) (Nat.le_of_ble_eq_true rfl) ?g6
      case g3 => exact mulx64 ⟨by omega, by omega⟩ ⟨by omega, by omega⟩
      case g6 => exact ⟨_, rfl⟩
      case g5 => exact CDiv_of (by omega) (by omega)
      all_goals walk_at "dd"
    case d =>
      rintro ρ ⟨x, rfl⟩
      walk_at "re"
      show Cell.dat _ = Cell.dat _
      unfold chooseZ
      rw [if_neg (by omega)]
theorem call_P_choose {ρ : DEnv} {ta : TA} {m : Nat} {f : Int} (h : DA ta ρ [.int m, .int f]) (hm : m ≤ 40) : DE (tCall (spR R_P_choose) [] E0 ta) ρ (.int (chooseZ m f)) := dc_call h ⟨m, f, rfl, hm, rfl⟩
theorem chooseZ_b {m : Nat} (hm : m ≤ 40) (f : Int) : 0 ≤ chooseZ m f ∧ chooseZ m f ≤ 1099511627776 := by
  unfold chooseZ
  split
  · omega
  · have := bin40 hm f.toNat
    omega
/-! ### the signed sum over all orders -/
def sgnAt (a : Nat) : Int := 1 - 2 * ((a : Int) % 2)
def sumG (f : Nat → Nat → Int) : Nat → Nat → List Nat → Int
  | 0, _, _ => 1
  | n + 1, k, left => ((List.range (n + 1)).map fun a => sgnAt a * f k (left.getD a 0) * sumG f n (k + 1) (left.eraseIdx a)).sum
theorem sumG_succ (f : Nat → Nat → Int) (n k : Nat) (left : List Nat) : sumG f (n + 1) k left = ((List.range (n + 1)).map fun a => sgnAt a * f k (left.getD a 0) * sumG f n (k + 1) (left.eraseIdx a)).sum := rfl
def bnd : Nat → Nat
  | 0 => 1
  | n + 1 => (n + 1) * (1099511627776 * bnd n)
theorem sgnAt_abs (a : Nat) : (sgnAt a).natAbs = 1 := by unfold sgnAt; omega
theorem sum_bound {f : Nat → Int} {b : Nat} : ∀ n : Nat, (∀ k, k < n → (f k).natAbs ≤ b) → (((List.range n).map f).sum).natAbs ≤ n * b
  | 0, _ => by simp
  | n + 1, h => by
    rw [sum_range_succ]
    have h1 := sum_bound n fun k hk => h k (by omega)
    have h2 := h n (by omega)
    rw [Nat.add_mul, Nat.one_mul]
    omega
theorem sumG_bound {f : Nat → Nat → Int} (hf : ∀ k m, (f k m).natAbs ≤ 1099511627776) : ∀ (n k : Nat) (left : List Nat), (sumG f n k left).natAbs ≤ bnd n
  | 0, _, _ => Nat.le_refl 1
  | n + 1, k, left => by
    rw [sumG_succ]
    refine sum_bound (n + 1) fun a _ => ?_
    rw [Int.natAbs_mul, Int.natAbs_mul, sgnAt_abs, Nat.one_mul]
    exact Nat.mul_le_mul (hf _ _) (sumG_bound hf n (k + 1) _)
theorem bnd_le {n : Nat} (h : n ≤ 6) : bnd n ≤ 2 ^ 400 := by
  match n, h with
  | 0, _ => decide
  | 1, _ => decide
  | 2, _ => decide
  | 3, _ => decide
  | 4, _ => decide
  | 5, _ => decide
  | 6, _ => decide
theorem sumG_congr {f g : Nat → Nat → Int} {R : Nat} (h : ∀ k m, k < R → m < R → f k m = g k m) : ∀ (n k : Nat) (left : List Nat), k + n ≤ R → n = left.length → (∀ m ∈ left, m < R) → sumG f n k left = sumG g n k left
  | 0, _, _, _, _, _ => rfl
  | n + 1, k, left, hk, hl, hm => by
    rw [sumG_succ, sumG_succ]
    congr 1
    refine List.map_congr_left fun a ha => ?_
    have ha' : a < n + 1 := List.mem_range.mp ha
    rw [h k (left.getD a 0) (by omega) (hm _ (by rw [List.getD_eq_getElem?_getD, List.getElem?_eq_getElem (by omega)]; exact List.getElem_mem _)),
      sumG_congr h n (k + 1) (left.eraseIdx a) (by omega) (by rw [List.length_eraseIdx_of_lt (by omega)]; omega) fun m hm' => hm m (List.mem_of_mem_eraseIdx hm')]
/-- the ways' table, by f -/
def waysOf (f : Nat → Nat → Int) (R : Nat) : List (List Int) := (List.range R).map fun k => (List.range R).map fun m => f k m
def R_P_summed : Nat → List PyData → Res → Prop := fun n ds r => ∃ (f : Nat → Nat → Int) (R : Nat) (left : List Nat), ds = [dTab (waysOf f R), dNs left] ∧ left.length < n ∧ n ≤ 7 ∧ R ≤ 6 ∧ left.length ≤ R ∧ (∀ m ∈ left, m < R) ∧ (∀ k m, (f k m).natAbs ≤ 1099511627776) ∧
  r = .ret (.dat (.int (sumG f left.length (R - left.length) left)))
def t_P_summed (K : PySem.W.Frag) (n : Nat) : TS :=
  (tSeq (tIfS (tTest (tOp (rEqD K) (tCB (rLenA K) (tCons (tVar 1) tNil)) (tC (.int 0)))) (tRet (tC (.int 1))) tNext) (tSeq (tAsg (tOp (rIx K) (tVar 0) (tOp (rI0 fun i j => .int (i - j)) (tCB (rLenA K) (tCons (tVar 0) tNil)) (tCB (rLenA K) (tCons (tVar 1) tNil)))) (gName 2)) (tSeq (tAsg (tC (.int 0)) (gName 3)) (tSeq (tFor (iRng1 (tCons (tCB (rLenA K) (tCons (tVar 1) tNil)) tNil)) (gName 4) (tIfS (tTest (tOp (rNeD K) (tOp (rIx K) (tVar 2) (tOp (rIx K) (tVar 1) (tVar 4))) (tC (.int 0)))) (tSeq (tAsg (tOp (rI0 fun i j => .int (i - j)) (tC (.int 1)) (tOp (rI CMulX fun i j => .int (i * j)) (tC (.int 2)) (tOp (rI (fun _ j => 0 < j) fun i j => .int (i % j)) (tVar 4) (tC (.int 2))))) (gName 5)) (tAsg (tOp (rI0 fun i j => .int (i + j)) (tVar 3) (tOp (rI CMulX fun i j => .int (i * j)) (tOp (rI CMulX fun i j => .int (i * j)) (tVar 5) (tOp (rIx K) (tVar 2) (tOp (rIx K) (tVar 1) (tVar 4)))) (tCall (spR (R_P_summed n)) [] E0 (tCons (tVar 0) (tCons (tOp (rCatS K) (tSl (rSlL K) (tVar 1) tNoPart (tPart (tVar 4))) (tSl (rSlL K) (tVar 1) (tPart (tOp (rI0 fun i j => .int (i + j)) (tVar 4) (tC (.int 1)))) tNoPart)) tNil))))) (gName 3))) tNext)) (tRet (tVar 3))))))
-- slots: 0 1 2 3 4 5
theorem waysOf_len (f : Nat → Nat → Int) (R : Nat) : (waysOf f R).length = R := by unfold waysOf; rw [List.length_map, List.length_range]
theorem waysOf_at (f : Nat → Nat → Int) {R k : Nat} (h : k < R) : (waysOf f R)[k]? = some ((List.range R).map fun m => f k m) := by unfold waysOf; rw [List.getElem?_map, List.getElem?_range h]; rfl
theorem call_P_summed {n : Nat} {ρ : DEnv} {ta : TA} {f : Nat → Nat → Int} {R : Nat} {left : List Nat} (h : DA ta ρ [dTab (waysOf f R), dNs left]) (h1 : left.length < n) (h2 : n ≤ 7) (h3 : R ≤ 6) (h4 : left.length ≤ R) (h5 : ∀ m ∈ left, m < R) (h6 : ∀ k m, (f k m).natAbs ≤ 1099511627776) :
    DE (tCall (spR (R_P_summed n)) [] E0 ta) ρ (.int (sumG f left.length (R - left.length) left)) := dc_call h ⟨f, R, left, rfl, h1, h2, h3, h4, h5, h6, rfl⟩
theorem take_drop_erase {α : Type} (l : List α) (k : Nat) : l.take k ++ l.drop (k + 1) = l.eraseIdx k := (List.eraseIdx_eq_take_drop_succ l k).symm
theorem erase_map {α β : Type} (f : α → β) : ∀ (l : List α) (k : Nat), (l.map f).eraseIdx k = (l.eraseIdx k).map f
  | [], _ => rfl
  | _ :: _, 0 => rfl
  | a :: l, k + 1 => congrArg (f a :: ·) (erase_map f l k)
theorem mul2mod (k : Nat) : (1 : Int) - 2 * ((k : Int) % 2) = sgnAt k := rfl
theorem d_P_summed {K : PySem.W.Frag} (n : Nat) (ds : List PyData) (r : Res) (h : R_P_summed (n + 1) ds r) : ∃ c, r = .ret c ∧ DS E0 (t_P_summed K n) (ini 6 ds) (endR c) := by
  obtain ⟨f, R, left, rfl, hn, hn6, hR, hl, hm, hf, rfl⟩ := h
  refine ⟨_, rfl, ?_⟩
  walk_at "ini"
  refine ds_seq ?_
  refine' ds_if (dt_test (de_eqI ?a ?b)) ?y ?n
  case a => walk_at "dd"
  case b => walk_at "dd"
  case y =>
    intro hb
    have hb' := of_decide_eq_true hb
    rw [List.length_map] at hb'
    have e0 : left.length = 0 := by omega
    walk_at "re"
    show Cell.dat _ = Cell.dat _
    rw [e0]
    rfl
  case n =>
    intro hb
    have hb' := of_decide_eq_false hb
    rw [List.length_map] at hb'
    obtain ⟨m, em⟩ : ∃ m, left.length = m + 1 := ⟨left.length - 1, by omega⟩
    have hrow := waysOf_at f (R := R) (k := R - (m + 1)) (by omega)
    have hrow' : atI ((waysOf f R).map dL) (((waysOf f R).map dL).length - (left.map fun k : Nat => PyData.int (k : Int)).length : Int) = some (dL ((List.range R).map fun j => f (R - (m + 1)) j)) :=
      at_mapI (by rw [List.length_map, List.length_map, waysOf_len]; omega) hrow
    refine ds_next (ds_seq ?_)
    walk_at "as"
    walk_at "nrm"
    refine ds_seq ?_
    walk_at "as"
    walk_at "nrm"
    refine ds_seq ?_
    refine' ds_forR (n := ((left.map fun k : Nat => PyData.int (k : Int)).length : Int)) ?a (by rw [List.length_map]; omega) (by rw [List.length_map]; omega)
      (fun k ρ => ∃ x y, ρ = [some (.dat (dTab (waysOf f R))), some (.dat (dNs left)), some (.dat (dL ((List.range R).map fun j => f (R - (m + 1)) j))), some (.dat (.int ((List.range k).map fun a => sgnAt a * f (R - (m + 1)) (left.getD a 0) * sumG f m (R - m) (left.eraseIdx a)).sum)), x, y]) ?z ?s ?d
    case a => walk_at "dd"
    case z => exact ⟨_, _, rfl⟩
    case s =>
      rintro k ρ hk ⟨x, y, rfl⟩
      rw [List.length_map] at hk
      have hk' : k < left.length := by omega
      refine ⟨Nat.le_of_ble_eq_true rfl, ?_⟩
      walk_at "nrm"
      have hg := getD_of 0 hk'
      have hgm := hm _ (List.mem_of_getElem? hg)
      have a1 : atI (left.map fun k : Nat => PyData.int (k : Int)) (k : Int) = some (.int ((left.getD k 0 : Nat) : Int)) := at_map (f := fun k : Nat => PyData.int (k : Int)) hg
      have a2 : atI (((List.range R).map fun j => f (R - (m + 1)) j).map PyData.int) ((left.getD k 0 : Nat) : Int) = some (.int (f (R - (m + 1)) (left.getD k 0))) :=
        at_map (by rw [List.getElem?_map, List.getElem?_range hgm]; rfl)
      have hfb := hf (R - (m + 1)) (left.getD k 0)
      have sgb := sgnAt_abs k
      have ele : (left.eraseIdx k).length = m := by rw [List.length_eraseIdx_of_lt hk']; omega
      have sb := sumG_bound hf m (R - m) (left.eraseIdx k)
      have sb2 := bnd_le (n := m) (by omega)
      have sumstep := sum_range_succ (fun a => sgnAt a * f (R - (m + 1)) (left.getD a 0) * sumG f m (R - m) (left.eraseIdx a)) k
      refine' ds_if (dt_test (de_neI (i := f (R - (m + 1)) (left.getD k 0)) (j := 0) ?a ?b)) ?y ?n
      case a => walk_at "dd"
      case b => walk_at "dd"
      case n =>
        intro h0
        have h0' : f (R - (m + 1)) (left.getD k 0) = 0 := by simpa using h0
        refine ds_next ?_
        show ∃ x y : Option Cell, _ = _
        rw [sumstep, h0', Int.mul_zero, Int.zero_mul, Int.add_zero]
        exact ⟨_, _, rfl⟩
      case y =>
        intro _
        refine ds_seq ?_
        refine' ds_asg (c := .dat (.int (sgnAt k))) (de_sub ?h1 (de_mul ?h2 ?h3 ?h4)) (Nat.le_of_ble_eq_true rfl) ?h5
        case h4 => exact mulx64 (by omega) (by omega)
        case h5 =>
          walk_at "nrm"
          refine' ds_asg (c := .dat (.int ((((List.range k).map fun a => sgnAt a * f (R - (m + 1)) (left.getD a 0) * sumG f m (R - m) (left.eraseIdx a)).sum) + sgnAt k * f (R - (m + 1)) (left.getD k 0) * sumG f m (R - m) (left.eraseIdx k)))) (de_add (de_var rfl) (de_mul (de_mul ?j1 ?j2 ?j3) ?j4 ?j5)) (Nat.le_of_ble_eq_true rfl) ?j6
          case j3 => exact mulx64 (by omega) (by omega)
          case j5 =>
            refine mulx_ok (a := 42) (b := 401) ?_ ?_ (by decide)
            · rw [Int.natAbs_mul, sgb, Nat.one_mul]
              exact Nat.lt_of_le_of_lt hfb (by decide)
            · exact Nat.lt_of_le_of_lt (Nat.le_trans sb sb2) (by decide)
          case j4 =>
            have e1 := cutD_lo (left.map fun k : Nat => PyData.int (k : Int)) k (by rw [List.length_map]; omega)
            have e2 := cutD_hi (left.map fun k : Nat => PyData.int (k : Int)) (k + 1) (by rw [List.length_map]; omega)
            have e3 : dNs (left.eraseIdx k) = PyData.list (cutD (left.map fun k : Nat => PyData.int (k : Int)) none (some (k : Int)) ++ cutD (left.map fun k : Nat => PyData.int (k : Int)) (some ((k : Int) + 1)) none) := by
              rw [e1, show ((k : Int) + 1) = ((k + 1 : Nat) : Int) by omega, e2, take_drop_erase, erase_map]
            have hc := call_P_summed (n := n) (ρ := [some (.dat (dTab (waysOf f R))), some (.dat (dNs left)), some (.dat (dL ((List.range R).map fun j => f (R - (m + 1)) j))), some (.dat (.int ((List.range k).map fun a => sgnAt a * f (R - (m + 1)) (left.getD a 0) * sumG f m (R - m) (left.eraseIdx a)).sum)), some (.dat (.int (k : Int))), some (.dat (.int (sgnAt k)))])
              (ta := (tCons (tVar 0) (tCons (tOp (rCatS K) (tSl (rSlL K) (tVar 1) tNoPart (tPart (tVar 4))) (tSl (rSlL K) (tVar 1) (tPart (tOp (rI0 fun i j => .int (i + j)) (tVar 4) (tC (.int 1)))) tNoPart)) tNil))) (f := f) (R := R) (left := left.eraseIdx k)
              ?h (by omega) (by omega) hR (by omega) (fun m' h' => hm m' (List.mem_of_mem_eraseIdx h')) hf
            · rw [ele] at hc
              exact hc
            · rw [e3]
              walk_at "dd"
              have l1 := cutD_len (left.map fun k : Nat => PyData.int (k : Int)) none (some (k : Int))
              have l2 := cutD_len (left.map fun k : Nat => PyData.int (k : Int)) (some ((k : Int) + 1)) none
              rw [List.length_map] at l1 l2
              omega
          case j6 =>
            show ∃ x y : Option Cell, _ = _
            rw [sumstep]
            exact ⟨_, _, rfl⟩
          all_goals walk_at "dd"
        all_goals walk_at "dd"
    case d =>
      rintro ρ ⟨x, y, rfl⟩
      walk_at "re"
      show Cell.dat _ = Cell.dat _
      have e5 : ((left.map fun k : Nat => PyData.int (k : Int)).length : Int).toNat = m + 1 := by rw [List.length_map]; omega
      rw [e5, em, sumG_succ, show R - (m + 1) + 1 = R - m by omega]

/-! ### how many tables -/
def cntF (C H : Nat) : Nat → Nat → Int := fun k m => chooseZ (C + H) ((C : Int) + k - m)
def countZ (R C H : Nat) : Int := sumG (cntF C H) R 0 (List.range R)
def R_P_count (ds : List PyData) (r : Res) : Prop := ∃ R C H : Nat, ds = [dRoom R C H] ∧ RoomOk R C H ∧ r = .ret (.dat (.int (countZ R C H)))
def t_P_count (K : PySem.W.Frag) : TS :=
  (tSeq (tDrop (tCall (spR R_P_need_room) [] E0 (tCons (tVar 0) tNil))) (tSeq (tAsg (tLst tNil) (gName 1)) (tSeq (tFor (iRng1 (tCons (tOp (rIx K) (tVar 0) (tC (.int 0))) tNil)) (gName 2) (tDrop (tBM K "list" rAppend (tVar 1) (tCons (tLc (iRng1 (tCons (tOp (rIx K) (tVar 0) (tC (.int 0))) tNil)) (gName 3) tYes (tCall (spR R_P_choose) [] E0 (tCons (tOp (rI0 fun i j => .int (i + j)) (tOp (rIx K) (tVar 0) (tC (.int 1))) (tOp (rIx K) (tVar 0) (tC (.int 2)))) (tCons (tOp (rI0 fun i j => .int (i - j)) (tOp (rI0 fun i j => .int (i + j)) (tOp (rIx K) (tVar 0) (tC (.int 1))) (tVar 2)) (tVar 3)) tNil))) [3]) tNil)))) (tRet (tCall (spR (R_P_summed 7)) [] E0 (tCons (tVar 1) (tCons (tLstRg (tRg1 (tOp (rIx K) (tVar 0) (tC (.int 0))))) tNil)))))))
-- slots: 0 1 2 3
theorem call_P_need_room {ρ : DEnv} {ta : TA} {R C H : Nat} (h : DA ta ρ [dRoom R C H]) (ok : RoomOk R C H) : DE (tCall (spR R_P_need_room) [] E0 ta) ρ .none := dc_call h ⟨R, C, H, rfl, ok, rfl⟩
theorem rgD_nat (n : Nat) : rgD 0 (n : Int) = (List.range n).map fun k : Nat => PyData.int (k : Int) := by
  unfold rgD
  rw [show ((n : Int) - 0).toNat = n by omega]
  exact List.map_congr_left fun a _ => by rw [Int.zero_add]
theorem map_range_append (f : Nat → PyData) (k : Nat) : (List.range (k + 1)).map f = (List.range k).map f ++ [f k] := by rw [List.range_succ, List.map_append]; rfl
theorem d_P_count {K : PySem.W.Frag} (ds : List PyData) (r : Res) (h : R_P_count ds r) : ∃ c, r = .ret c ∧ DS E0 (t_P_count K) (ini 4 ds) (endR c) := by
  obtain ⟨R, C, H, rfl, ok, rfl⟩ := h
  obtain ⟨r1, r6, c1, c20, h1, h20⟩ := id ok
  refine ⟨_, rfl, ?_⟩
  walk_at "ini"
  refine ds_seq ?_
  refine' ds_drop (call_P_need_room (R := R) (C := C) (H := H) ?a ok) ?b
  case a => walk_at "dd"
  refine ds_seq ?_
  walk_at "ao"
  walk_at "nrm"
  refine ds_seq ?_
  refine' ds_forR (n := (R : Int)) ?g1 (by omega) (by omega) (fun k ρ => ∃ x, ρ = [some (.dat (dRoom R C H)), some (.own ((List.range k).map fun k => dL ((List.range R).map fun m => cntF C H k m))), x, none]) ?g2 ?g3 ?g4
  case g1 => walk_at "dd"
  case g2 => exact ⟨_, rfl⟩
  case g3 =>
    rintro k ρ hk ⟨x, rfl⟩
    refine ⟨Nat.le_of_ble_eq_true rfl, ?_⟩
    walk_at "nrm"
    refine' ds_append (d := dL ((List.range R).map fun m => cntF C H k m)) rfl ?g5 ?g6 ?g7
    case g6 => rw [List.length_map, List.length_range]; omega
    case g7 =>
      walk_at "nrm"
      show ∃ x : Option Cell, _ = _
      rw [map_range_append]
      exact ⟨_, rfl⟩
    case g5 =>
      refine' de_to (dc_frz (dc_lcA (xs := List.range R) (e := fun m => .int (m : Int)) (g := fun m => .int (cntF C H k m)) (di_range1 (n := (R : Int)) ?g8 (by omega) (by omega)) (by rw [List.length_range]; omega) (Nat.le_of_ble_eq_true rfl) fun m _ => ?g9)) ?g14
      case g14 =>
        show PyData.list _ = PyData.list _
        rw [List.map_map]
        rfl
      case g8 => walk_at "dd"
      case g9 =>
        walk_at "nrm"
        refine' call_P_choose (m := C + H) (f := (C : Int) + k - m) ?g10 (by omega)
        rw [Int.natCast_add]
        walk_at "dd"
  case g4 =>
    rintro ρ ⟨x, rfl⟩
    have e1 : (PyData.list ((List.range R).map fun k => dL ((List.range R).map fun m => cntF C H k m))) = dTab (waysOf (cntF C H) R) := by
      show PyData.list _ = PyData.list _
      unfold waysOf
      rw [List.map_map]
      rfl
    refine ds_frz1 (i := 1) rfl ?_
    walk_at "nrm"
    rw [show ((R : Int).toNat) = R by omega, e1]
    refine ds_ret (call_P_summed (f := cntF C H) (R := R) (left := List.range R) ?g11 (by rw [List.length_range]; omega) (Nat.le_refl 7) r6 (by rw [List.length_range]; omega) (fun m hm => List.mem_range.mp hm) fun k m => ?g12) ?g13
    case g12 =>
      have := chooseZ_b (m := C + H) (by omega) ((C : Int) + k - m)
      show (chooseZ (C + H) ((C : Int) + k - m)).natAbs ≤ _
      omega
    case g13 =>
      show Cell.dat _ = Cell.dat _
      rw [List.length_range, Nat.sub_self]
      rfl
    case g11 =>
      have e2 : dNs (List.range R) = .list (rgD 0 (R : Int)) := by rw [rgD_nat]
      rw [e2]
      walk_at "dd"
theorem call_P_count {ρ : DEnv} {ta : TA} {R C H : Nat} (h : DA ta ρ [dRoom R C H]) (ok : RoomOk R C H) : DE (tCall (spR R_P_count) [] E0 ta) ρ (.int (countZ R C H)) := dc_call h ⟨R, C, H, rfl, ok, rfl⟩

/-! ### the law's own sum -/
def pasc (n : Nat) : List Int := (List.range (n + 1)).map fun m => (bin n m : Int)
def R_L_sum : Nat → List PyData → Res → Prop := fun n ds r => ∃ (R C H k : Nat) (left : List Nat), ds = [dL (pasc (C + H)), dRoom R C H, .int k, dNs left] ∧ RoomOk R C H ∧ left.length < n ∧ k + left.length = R ∧ (∀ m ∈ left, m < R) ∧ r = .ret (.dat (.int (sumG (cntF C H) left.length k left)))
def t_L_sum (K : PySem.W.Frag) (n : Nat) : TS :=
  (tSeq (tIfS (tTest (tOp (rEqD K) (tVar 2) (tOp (rIx K) (tVar 1) (tC (.int 0))))) (tRet (tC (.int 1))) tNext) (tSeq (tAsg (tC (.int 0)) (gName 4)) (tSeq (tFor (iRng1 (tCons (tCB (rLenA K) (tCons (tVar 3) tNil)) tNil)) (gName 5) (tSeq (tAsg (tOp (rI0 fun i j => .int (i - j)) (tOp (rI0 fun i j => .int (i + j)) (tOp (rIx K) (tVar 1) (tC (.int 1))) (tVar 2)) (tOp (rIx K) (tVar 3) (tVar 5))) (gName 6)) (tIfS (tTest (tChain (rI0 fun i j => .bl (decide (i ≤ j))) (rI0 fun i j => .bl (decide (i < j))) (tC (.int 0)) (tVar 6) (tCB (rLenA K) (tCons (tVar 0) tNil)))) (tSeq (tAsg (tOp (rCatS K) (tSl (rSlL K) (tVar 3) tNoPart (tPart (tVar 5))) (tSl (rSlL K) (tVar 3) (tPart (tOp (rI0 fun i j => .int (i + j)) (tVar 5) (tC (.int 1)))) tNoPart)) (gName 7)) (tSeq (tAsg (tOp (rI0 fun i j => .int (i - j)) (tC (.int 1)) (tOp (rI CMulX fun i j => .int (i * j)) (tC (.int 2)) (tOp (rI (fun _ j => 0 < j) fun i j => .int (i % j)) (tVar 5) (tC (.int 2))))) (gName 8)) (tAsg (tOp (rI0 fun i j => .int (i + j)) (tVar 4) (tOp (rI CMulX fun i j => .int (i * j)) (tOp (rI CMulX fun i j => .int (i * j)) (tVar 8) (tOp (rIx K) (tVar 0) (tVar 6))) (tCall (spR (R_L_sum n)) [] E0 (tCons (tVar 0) (tCons (tVar 1) (tCons (tOp (rI0 fun i j => .int (i + j)) (tVar 2) (tC (.int 1))) (tCons (tVar 7) tNil))))))) (gName 4)))) tNext))) (tRet (tVar 4)))))
-- slots: 0 1 2 3 4 5 6 7 8
theorem call_L_sum {n : Nat} {ρ : DEnv} {ta : TA} {R C H k : Nat} {left : List Nat} (h : DA ta ρ [dL (pasc (C + H)), dRoom R C H, .int k, dNs left]) (ok : RoomOk R C H) (h1 : left.length < n) (h2 : k + left.length = R) (h3 : ∀ m ∈ left, m < R) :
    DE (tCall (spR (R_L_sum n)) [] E0 ta) ρ (.int (sumG (cntF C H) left.length k left)) := dc_call h ⟨R, C, H, k, left, rfl, ok, h1, h2, h3, rfl⟩
theorem pasc_len (n : Nat) : ((pasc n).map PyData.int).length = n + 1 := by unfold pasc; rw [List.length_map, List.length_map, List.length_range]
theorem pasc_at {n m : Nat} (h : m < n + 1) : (pasc n)[m]? = some (bin n m : Int) := by unfold pasc; rw [List.getElem?_map, List.getElem?_range h]; rfl
theorem d_L_sum {K : PySem.W.Frag} (n : Nat) (ds : List PyData) (r : Res) (h : R_L_sum (n + 1) ds r) : ∃ c, r = .ret c ∧ DS E0 (t_L_sum K n) (ini 9 ds) (endR c) := by
  obtain ⟨R, C, H, k, left, rfl, ok, hn, hk, hm, rfl⟩ := h
  obtain ⟨r1, r6, c1, c20, h1, h20⟩ := id ok
  refine ⟨_, rfl, ?_⟩
  walk_at "ini"
  refine ds_seq ?_
  refine' ds_if (dt_test (de_eqI (i := (k : Int)) (j := (R : Int)) ?a ?b)) ?y ?n
  case a => walk_at "dd"
  case b => walk_at "dd"
  case y =>
    intro hb
    have hb' := of_decide_eq_true hb
    have e0 : left.length = 0 := by omega
    walk_at "re"
    show Cell.dat _ = Cell.dat _
    rw [e0]
    rfl
  case n =>
    intro hb
    have hb' := of_decide_eq_false hb
    obtain ⟨m, em⟩ : ∃ m, left.length = m + 1 := ⟨left.length - 1, by omega⟩
    refine ds_next (ds_seq ?_)
    walk_at "as"
    walk_at "nrm"
    refine ds_seq ?_
    refine' ds_forR (n := ((left.map fun k : Nat => PyData.int (k : Int)).length : Int)) ?g1 (by rw [List.length_map]; omega) (by rw [List.length_map]; omega)
      (fun j ρ => ∃ x y z w, ρ = [some (.dat (dL (pasc (C + H)))), some (.dat (dRoom R C H)), some (.dat (.int (k : Int))), some (.dat (dNs left)), some (.dat (.int ((List.range j).map fun a => sgnAt a * cntF C H k (left.getD a 0) * sumG (cntF C H) m (k + 1) (left.eraseIdx a)).sum)), x, y, z, w]) ?g2 ?g3 ?g4
    case g1 => walk_at "dd"
    case g2 => exact ⟨_, _, _, _, rfl⟩
    case g3 =>
      rintro j ρ hj ⟨x, y, z, w, rfl⟩
      rw [List.length_map] at hj
      have hj' : j < left.length := by omega
      refine ⟨Nat.le_of_ble_eq_true rfl, ?_⟩
      walk_at "nrm"
      have hg := getD_of 0 hj'
      have hgm := hm _ (List.mem_of_getElem? hg)
      have a1 : atI (left.map fun k : Nat => PyData.int (k : Int)) (j : Int) = some (.int ((left.getD j 0 : Nat) : Int)) := at_map (f := fun k : Nat => PyData.int (k : Int)) hg
      have sumstep := sum_range_succ (fun a => sgnAt a * cntF C H k (left.getD a 0) * sumG (cntF C H) m (k + 1) (left.eraseIdx a)) j
      have cb : ∀ k m, (cntF C H k m).natAbs ≤ 1099511627776 := fun k m => by
        have := chooseZ_b (m := C + H) (by omega) ((C : Int) + k - m)
        show (chooseZ (C + H) ((C : Int) + k - m)).natAbs ≤ _
        omega
      have hfb := cb k (left.getD j 0)
      have sgb := sgnAt_abs j
      have ele : (left.eraseIdx j).length = m := by rw [List.length_eraseIdx_of_lt hj']; omega
      have sb := sumG_bound cb m (k + 1) (left.eraseIdx j)
      have sb2 := bnd_le (n := m) (by omega)
      refine ds_seq ?_
      walk_at "as"
      walk_at "nrm"
      walk_at "if"
      · intro h0
        rw [pasc_len] at h0
        have h0' : 0 ≤ (C : Int) + k - (left.getD j 0 : Nat) ∧ (C : Int) + k - (left.getD j 0 : Nat) < ((C + H + 1 : Nat) : Int) := by simpa using h0
        have ef : cntF C H k (left.getD j 0) = (bin (C + H) ((C : Int) + k - (left.getD j 0 : Nat)).toNat : Int) := by
          show chooseZ _ _ = _
          unfold chooseZ
          rw [if_neg (by omega)]
        have a2 : atI ((pasc (C + H)).map PyData.int) ((C : Int) + k - (left.getD j 0 : Nat)) = some (.int (cntF C H k (left.getD j 0))) := by
          rw [ef]
          exact at_mapI (k := ((C : Int) + k - (left.getD j 0 : Nat)).toNat) (by omega) (pasc_at (by omega))
        have e1 := cutD_lo (left.map fun k : Nat => PyData.int (k : Int)) j (by rw [List.length_map]; omega)
        have e2 := cutD_hi (left.map fun k : Nat => PyData.int (k : Int)) (j + 1) (by rw [List.length_map]; omega)
        have e3 : PyData.list (cutD (left.map fun k : Nat => PyData.int (k : Int)) none (some (j : Int)) ++ cutD (left.map fun k : Nat => PyData.int (k : Int)) (some ((j : Int) + 1)) none) = dNs (left.eraseIdx j) := by
          rw [e1, show ((j : Int) + 1) = ((j + 1 : Nat) : Int) by omega, e2, take_drop_erase, erase_map]
        refine ds_seq ?_
        refine' ds_asg (c := .dat (dNs (left.eraseIdx j))) (de_to ?h1 e3) (Nat.le_of_ble_eq_true rfl) ?h2
        case h1 =>
          walk_at "dd"
          have l1 := cutD_len (left.map fun k : Nat => PyData.int (k : Int)) none (some (j : Int))
          have l2 := cutD_len (left.map fun k : Nat => PyData.int (k : Int)) (some ((j : Int) + 1)) none
          rw [List.length_map] at l1 l2
          omega
        walk_at "nrm"
        refine ds_seq ?_
        refine' ds_asg (c := .dat (.int (sgnAt j))) (de_sub ?h3 (de_mul ?h4 ?h5 ?h6)) (Nat.le_of_ble_eq_true rfl) ?h7
        case h6 => exact mulx64 (by omega) (by omega)
        case h7 =>
          walk_at "nrm"
          refine' ds_asg (c := .dat (.int ((((List.range j).map fun a => sgnAt a * cntF C H k (left.getD a 0) * sumG (cntF C H) m (k + 1) (left.eraseIdx a)).sum) + sgnAt j * cntF C H k (left.getD j 0) * sumG (cntF C H) m (k + 1) (left.eraseIdx j)))) (de_add (de_var rfl) (de_mul (de_mul ?j1 ?j2 ?j3) ?j4 ?j5)) (Nat.le_of_ble_eq_true rfl) ?j6
          case j3 => exact mulx64 (by omega) (by omega)
          case j5 =>
            refine mulx_ok (a := 42) (b := 401) ?_ ?_ (by decide)
            · rw [Int.natAbs_mul, sgb, Nat.one_mul]
              exact Nat.lt_of_le_of_lt hfb (by decide)
            · exact Nat.lt_of_le_of_lt (Nat.le_trans sb sb2) (by decide)
          case j4 =>
            have hc := call_L_sum (n := n) (ρ := [some (.dat (dL (pasc (C + H)))), some (.dat (dRoom R C H)), some (.dat (.int (k : Int))), some (.dat (dNs left)), some (.dat (.int ((List.range j).map fun a => sgnAt a * cntF C H k (left.getD a 0) * sumG (cntF C H) m (k + 1) (left.eraseIdx a)).sum)), some (.dat (.int (j : Int))), some (.dat (.int ((C : Int) + k - (left.getD j 0 : Nat)))), some (.dat (dNs (left.eraseIdx j))), some (.dat (.int (sgnAt j)))])
              (ta := (tCons (tVar 0) (tCons (tVar 1) (tCons (tOp (rI0 fun i j => .int (i + j)) (tVar 2) (tC (.int 1))) (tCons (tVar 7) tNil))))) (R := R) (C := C) (H := H) (k := k + 1) (left := left.eraseIdx j)
              ?k1 ok (by omega) (by omega) (fun m' h' => hm m' (List.mem_of_mem_eraseIdx h'))
            · rw [ele] at hc
              exact hc
            · rw [show ((k + 1 : Nat) : Int) = (k : Int) + 1 by omega]
              walk_at "dd"
          case j6 =>
            show ∃ x y z w : Option Cell, _ = _
            rw [sumstep]
            exact ⟨_, _, _, _, rfl⟩
          all_goals walk_at "dd"
        all_goals walk_at "dd"
      · intro h0
        rw [pasc_len] at h0
        refine ds_next ?_
        show ∃ x y z w : Option Cell, _ = _
        have ez : cntF C H k (left.getD j 0) = 0 := by
          show chooseZ _ _ = _
          unfold chooseZ
          split
          · rfl
          · have h0' : ¬ ((C : Int) + k - (left.getD j 0 : Nat) < ((C + H + 1 : Nat) : Int)) := by
              intro hlt
              have hge : (0 : Int) ≤ (C : Int) + k - (left.getD j 0 : Nat) := by omega
              rw [decide_eq_true hge, decide_eq_true hlt] at h0
              cases h0
            rw [bin_out _ _ (by omega)]
            rfl
        rw [sumstep, ez, Int.mul_zero, Int.zero_mul, Int.add_zero]
        exact ⟨_, _, _, _, rfl⟩
    case g4 =>
      rintro ρ ⟨x, y, z, w, rfl⟩
      walk_at "re"
      show Cell.dat _ = Cell.dat _
      have e5 : ((left.map fun k : Nat => PyData.int (k : Int)).length : Int).toNat = m + 1 := by rw [List.length_map]; omega
      rw [e5, em, sumG_succ]

/-! ### the law k11 -/
def t_law_k11 (K : PySem.W.Frag) : TS :=
  (tSeq (tAsg (tCall (spR R_L_room) [] E0 (tCons (tCall (spR R_L_of) [] E0 (tCons (tVar 0) (tCons (tC (.int 0)) tNil))) tNil)) (gName 1)) (tSeq (tAsg (tLst (tCons (tC (.int 1)) tNil)) (gName 2)) (tSeq (tFor (iRng1 (tCons (tOp (rI0 fun i j => .int (i + j)) (tOp (rIx K) (tVar 1) (tC (.int 1))) (tOp (rIx K) (tVar 1) (tC (.int 2)))) tNil)) (gName 3) (tAsg (tOp (rCatS K) (tOp (rCatS K) (tLst (tCons (tC (.int 1)) tNil)) (tLc (iRng1 (tCons (tVar 3) tNil)) (gName 4) tYes (tOp (rI0 fun i j => .int (i + j)) (tOp (rIx K) (tVar 2) (tVar 4)) (tOp (rIx K) (tVar 2) (tOp (rI0 fun i j => .int (i + j)) (tVar 4) (tC (.int 1))))) [4])) (tLst (tCons (tC (.int 1)) tNil))) (gName 2))) (tSeq (tAsg (tCall (spR R_P_count) [] E0 (tCons (tVar 1) tNil)) (gName 5)) (tRet (tAndV (tCall (spR R_L_is_number) [] E0 (tCons (tVar 5) tNil)) (tOp (rEqD K) (tVar 5) (tCall (spR (R_L_sum 7)) [] E0 (tCons (tVar 2) (tCons (tVar 1) (tCons (tC (.int 0)) (tCons (tLstRg (tRg1 (tOp (rIx K) (tVar 1) (tC (.int 0))))) tNil))))))))))))
-- slots: 0 1 2 3 4 5
theorem call_L_of {ρ : DEnv} {ta : TA} {ns : List Int} {k : Nat} (h : DA ta ρ [dL ns, .int k]) (hl : ns.length ≤ 1000) (hk : k ≤ 100000) : DE (tCall (spR R_L_of) [] E0 ta) ρ (.int (ns.getD k 0)) := dc_call h ⟨ns, k, rfl, hl, hk, rfl⟩
theorem call_L_room {ρ : DEnv} {ta : TA} {c : Int} (h : DA ta ρ [.int c]) : DE (tCall (spR R_L_room) [] E0 ta) ρ (dRoom (roomD c).1 (roomD c).2.1 (roomD c).2.2) := dc_call h ⟨c, rfl, rfl⟩
theorem call_L_is_number {ρ : DEnv} {ta : TA} {i : Int} (h : DA ta ρ [.int i]) : DE (tCall (spR R_L_is_number) [] E0 ta) ρ (.bool true) := dc_call h ⟨_, rfl, (fun _ z => by cases z), rfl⟩
theorem pasc_succ (k : Nat) : pasc (k + 1) = [1] ++ ((List.range k).map fun m => (bin k m : Int) + (bin k (m + 1) : Int)) ++ [1] := by
  have h1 : bin (k + 1) (k + 1) = 1 := by
    have : ∀ n, bin n n = 1 := fun n => by
      induction n with
      | zero => rfl
      | succ n ih => rw [bin_succ, ih, bin_out n (n + 1) (by omega)]
    exact this _
  unfold pasc
  rw [List.range_succ_eq_map, List.map_cons, List.map_map, List.range_succ, List.map_append]
  simp only [List.map_cons, List.map_nil, bin_zero, Function.comp, h1, List.cons_append, List.nil_append]
  congr 2
theorem d_law {K : PySem.W.Frag} (ds : List PyData) (r : Res) (h : R_law ds r) : ∃ c, r = .ret c ∧ DS E0 (t_law_k11 K) (ini 6 ds) (endR c) := by
  obtain ⟨ns, rfl, hn, rfl⟩ := h
  refine ⟨_, rfl, ?_⟩
  walk_at "ini"
  refine ds_seq ?_
  refine' ds_asg (call_L_room (c := ns.getD 0 0) (da_cons (call_L_of (k := 0) ?g1 (by omega) (by omega)) da_nil)) (Nat.le_of_ble_eq_true rfl) ?g2
  case g1 => exact da_cons (de_var rfl) (da_cons de_int da_nil)
  walk_at "nrm"
  obtain ⟨r1, r6, c1, c20, h1, h20⟩ := roomD_ok (ns.getD 0 0)
  generalize (roomD (ns.getD 0 0)).1 = R at *
  generalize (roomD (ns.getD 0 0)).2.1 = C at *
  generalize (roomD (ns.getD 0 0)).2.2 = H at *
  have ok : RoomOk R C H := ⟨r1, r6, c1, c20, h1, h20⟩
  refine ds_seq ?_
  refine' ds_asg (c := .dat (dL (pasc 0))) (dc_frz (dc_lst ?g3)) (Nat.le_of_ble_eq_true rfl) ?g4
  case g3 => exact da_cons de_int da_nil
  walk_at "nrm"
  refine ds_seq ?_
  refine' ds_forR (n := ((C : Int) + H)) ?g5 (by omega) (by omega) (fun k ρ => ∃ x, ρ = [some (.dat (dL ns)), some (.dat (dRoom R C H)), some (.dat (dL (pasc k))), x, none, none]) ?g6 ?g7 ?g8
  case g5 => walk_at "dd"
  case g6 => exact ⟨_, rfl⟩
  case g7 =>
    rintro k ρ hk ⟨x, rfl⟩
    refine ⟨Nat.le_of_ble_eq_true rfl, ?_⟩
    walk_at "nrm"
    refine' ds_asg (c := .dat (dL (pasc (k + 1)))) (de_to (dc_frz (dc_catS (dc_frz (dc_catS (dc_frz (dc_lst (da_cons de_int da_nil)))
      (dc_frz (dc_lcA (xs := List.range k) (e := fun m => .int (m : Int)) (g := fun m => .int ((bin k m : Int) + (bin k (m + 1) : Int))) (di_range1 (n := (k : Int)) ?h8 (by omega) (by omega)) (by rw [List.length_range]; omega) (Nat.le_of_ble_eq_true rfl) fun m hm => ?h9)) ?h10)) (dc_frz (dc_lst (da_cons de_int da_nil))) ?h11)) ?h12) (Nat.le_of_ble_eq_true rfl) ?h13
    case h8 => walk_at "dd"
    case h9 =>
      walk_at "nrm"
      have hm' := List.mem_range.mp hm
      have a1 : atI ((pasc k).map PyData.int) (m : Int) = some (.int (bin k m : Int)) := at_map (pasc_at (by omega))
      have a2 : atI ((pasc k).map PyData.int) ((m : Int) + 1) = some (.int (bin k (m + 1) : Int)) := at_mapI (k := m + 1) (by omega) (pasc_at (by omega))
      walk_at "dd"
    case h10 => simp; omega
    case h11 => simp; omega
    case h12 =>
      rw [pasc_succ]
      show PyData.list _ = PyData.list _
      rw [List.map_append, List.map_append, List.map_map]
      rfl
    case h13 => exact ⟨_, rfl⟩
  case g8 =>
    rintro ρ ⟨x, rfl⟩
    rw [show ((C : Int) + H).toNat = C + H by omega]
    refine ds_seq ?_
    refine' ds_asg (call_P_count (R := R) (C := C) (H := H) ?k1 ok) (Nat.le_of_ble_eq_true rfl) ?k2
    case k1 => walk_at "dd"
    walk_at "nrm"
    have e2 : dNs (List.range R) = .list (rgD 0 (R : Int)) := by rw [rgD_nat]
    refine' ds_ret (de_to (de_and (call_L_is_number ?k3) fun _ => de_eqI (i := countZ R C H) (j := sumG (cntF C H) (List.range R).length 0 (List.range R)) ?k4 (call_L_sum (R := R) ?k5 ok (by rw [List.length_range]; omega) (by rw [List.length_range]; omega) fun m hm => List.mem_range.mp hm)) ?k6) rfl
    case k3 => walk_at "dd"
    case k4 => walk_at "dd"
    case k5 =>
      rw [e2]
      refine da_cons (de_var rfl) (da_cons (de_var rfl) (da_cons de_int (da_cons ?_ da_nil)))
      walk_at "dd"
    case k6 =>
      rw [List.length_range]
      unfold countZ
      rw [decide_eq_true rfl]
      rfl

def topS (i : Nat) : Stmt := PySem.Challenge.pw_boxheap_k11_the_signed_sum.main.body.getD i (.Pass ⟨0, 0, 0, 0⟩)
abbrev s_L_of : Stmt := topS 14
theorem sc_L_of : FnScope (["_law_script", "_law_k"] : List Str) ["_law_script", "_law_k"] (defScope s_L_of) := ⟨rfl, rfl, rfl, by decide +kernel, rfl, by decide +kernel, by decide +kernel⟩
abbrev s_L_room : Stmt := topS 16
theorem sc_L_room : FnScope (["_law_cell"] : List Str) ["_law_cell"] (defScope s_L_room) := ⟨rfl, rfl, rfl, by decide +kernel, rfl, by decide +kernel, by decide +kernel⟩
abbrev s_P_is_whole : Stmt := topS 7
theorem sc_P_is_whole : FnScope (["thing", "low", "high"] : List Str) ["thing", "low", "high"] (defScope s_P_is_whole) := ⟨rfl, rfl, rfl, by decide +kernel, rfl, by decide +kernel, by decide +kernel⟩
abbrev s_P_need_room : Stmt := topS 8
theorem sc_P_need_room : FnScope (["room"] : List Str) ["room"] (defScope s_P_need_room) := ⟨rfl, rfl, rfl, by decide +kernel, rfl, by decide +kernel, by decide +kernel⟩
abbrev s_P_choose : Stmt := topS 10
theorem sc_P_choose : FnScope (["many", "few", "found", "k"] : List Str) ["many", "few"] (defScope s_P_choose) := ⟨rfl, rfl, rfl, by decide +kernel, rfl, by decide +kernel, by decide +kernel⟩
abbrev s_P_summed : Stmt := topS 11
theorem sc_P_summed : FnScope (["ways", "left", "row", "total", "at", "turn"] : List Str) ["ways", "left"] (defScope s_P_summed) := ⟨rfl, rfl, rfl, by decide +kernel, rfl, by decide +kernel, by decide +kernel⟩
abbrev s_P_count : Stmt := topS 12
theorem sc_P_count : FnScope (["room", "ways", "k", "m"] : List Str) ["room"] (defScope s_P_count) := ⟨rfl, rfl, rfl, by decide +kernel, rfl, by decide +kernel, by decide +kernel⟩
abbrev s_L_is_number : Stmt := topS 15
theorem sc_L_is_number : FnScope (["_law_found"] : List Str) ["_law_found"] (defScope s_L_is_number) := ⟨rfl, rfl, rfl, by decide +kernel, rfl, by decide +kernel, by decide +kernel⟩
abbrev s_L_sum : Stmt := topS 17
theorem sc_L_sum : FnScope (["_law_row", "_law_room_here", "_law_k", "_law_left", "_law_total", "_law_at", "_law_few", "_law_rest", "_law_sign_of"] : List Str) ["_law_row", "_law_room_here", "_law_k", "_law_left"] (defScope s_L_sum) := ⟨rfl, rfl, rfl, by decide +kernel, rfl, by decide +kernel, by decide +kernel⟩
abbrev s_law_k11 : Stmt := topS 18
theorem sc_law_k11 : FnScope (["_law_script", "_law_room_here", "_law_row", "_law_k", "_law_m", "_law_found"] : List Str) ["_law_script"] (defScope s_law_k11) := ⟨rfl, rfl, rfl, by decide +kernel, rfl, by decide +kernel, by decide +kernel⟩
section
variable {P : Program} {w : World} {K : PySem.W.Frag} {mg : Str → Option Value} {base : Heap}
theorem cal_mk {f : Addr} {fd : FuncData} {x : Str} {k : Nat} {ps : List Str} {R : List PyData → Res → Prop} {CX : CXT} (F : FnOk P w K mg base CX k f fd ps (spR R)) (m : mg x = some (.ref f)) (kp : PySem.W.keepIn K (.ref f) = true) (b : Binds K fd ps []) : Cal P w K mg base CX x k ps R := ⟨f, fd, F, m, kp, b⟩
theorem cal_never {f : Addr} {fd : FuncData} {x : Str} {ps : List Str} {R : List PyData → Res → Prop} {CX : CXT} (h : ∀ ds r, ¬ R ds r) (m : mg x = some (.ref f)) (kp : PySem.W.keepIn K (.ref f) = true) (b : Binds K fd ps []) : Cal P w K mg base CX x 0 ps R :=
  ⟨f, fd, ⟨fun vs H Q E ⟨_, ds, r, _, _, q, _⟩ => absurd q (h ds r), fun A outer s H args us vs Q E _ _ _ _ ⟨_, ds, r, _, _, q, _⟩ => absurd q (h ds r)⟩, m, kp, b⟩
theorem ok_L_of {f : Addr} {fd : FuncData} (F : Fun K "_law_of" "_law_of" s_L_of f fd)  : FnOk P w K mg base CX0 1 f fd ["_law_script", "_law_k"] (spR R_L_of) :=
  fn_data F sc_L_of (by intro ds r h; repeat (first | (obtain ⟨rfl, _⟩ := h; rfl) | obtain ⟨_, h⟩ := h)) (t := t_L_of K) (fun cdv A outer s H E hr => by
    have nd := sc_L_of.nd
    exact (pss_one (ps_ret (pe_ix ix_seq (pe_op op_catS (pe_slice sl_list (pv 0) (po_some (pv 1)) (po_some (pe_op op_add (pv 1) pe_int))) (pe_lst (pa_cons pe_int pa_nil))) pe_int (fun _ _ => rfl))))) d_L_of
theorem ok_L_room {f : Addr} {fd : FuncData} (F : Fun K "_law_room" "_law_room" s_L_room f fd)  : FnOk P w K mg base CX0 1 f fd ["_law_cell"] (spR R_L_room) :=
  fn_data F sc_L_room (by intro ds r h; repeat (first | (obtain ⟨rfl, _⟩ := h; rfl) | obtain ⟨_, h⟩ := h)) (t := t_L_room K) (fun cdv A outer s H E hr => by
    have nd := sc_L_room.nd
    exact (pss_cons (ps_if (pt_cmpR (op_eqD hr.units) (pe_op op_mod (pe_op op_fdiv (pv 0) pe_int) pe_int) pe_int (nomark _)) (pss_one (ps_ret (pe_tup (pa_cons (pe_op op_add pe_int (pe_op op_mod (pv 0) pe_int)) (pa_cons (pe_op op_add pe_int (pe_op op_mod (pe_op op_fdiv (pv 0) pe_int) pe_int)) (pa_cons (pe_op op_add pe_int (pe_op op_mod (pe_op op_fdiv (pv 0) pe_int) pe_int)) pa_nil)))))) pss_nil) (pss_one (ps_ret (pe_tup (pa_cons (pe_op op_add pe_int (pe_op op_mod (pv 0) pe_int)) (pa_cons (pe_op op_add pe_int (pe_op op_mod (pe_op op_fdiv (pv 0) pe_int) pe_int)) (pa_cons (pe_op op_add pe_int (pe_op op_mod (pe_op op_fdiv (pv 0) pe_int) pe_int)) pa_nil)))))))) d_L_room
theorem ok_P_is_whole {f : Addr} {fd : FuncData} (F : Fun K "is_whole" "is_whole" s_P_is_whole f fd) (zb : Blt mg) : FnOk P w K mg base CX0 1 f fd ["thing", "low", "high"] (spR R_P_is_whole) :=
  fn_data F sc_P_is_whole (by intro ds r h; repeat (first | (obtain ⟨rfl, _⟩ := h; rfl) | obtain ⟨_, h⟩ := h)) (t := t_P_is_whole K) (fun cdv A outer s H E hr => by
    have nd := sc_P_is_whole.nd
    exact (pss_one (ps_ret (pe_and (pe_callB (call_isiB (n := "int")) (by rfl) zb.isinstance (by decide +kernel) (pa_cons (pv 0) (pa_cons (pe_bltn (by rfl) zb.int (by decide +kernel) rfl) pa_nil))) (pe_and (pe_not (pe_callB (call_isiB (n := "bool")) (by rfl) zb.isinstance (by decide +kernel) (pa_cons (pv 0) (pa_cons (pe_bltn (by rfl) zb.bool (by decide +kernel) rfl) pa_nil)))) (pe_one (pe_chain op_le op_le (pv 1) (pv 0) (pv 2)))))))) d_P_is_whole
theorem ok_P_need_room {f : Addr} {fd : FuncData} (F : Fun K "need_room" "need_room" s_P_need_room f fd) (zb : Blt mg) (g_MOST_COLUMNS : ∃ t, mg "MOST_COLUMNS" = some (.int 20 t)) (g_MOST_HEIGHT : ∃ t, mg "MOST_HEIGHT" = some (.int 20 t)) (g_MOST_ROWS : ∃ t, mg "MOST_ROWS" = some (.int 6 t)) (C_P_is_whole : Cal P w K mg base CX0 "is_whole" 1 ["thing", "low", "high"] R_P_is_whole) : FnOk P w K mg base CX0 2 f fd ["room"] (spR R_P_need_room) :=
  fn_data F sc_P_need_room (by intro ds r h; repeat (first | (obtain ⟨rfl, _⟩ := h; rfl) | obtain ⟨_, h⟩ := h)) (t := t_P_need_room K) (fun cdv A outer s H E hr => by
    have nd := sc_P_need_room.nd
    exact (pss_cons (ps_if (PW.pt (pw_or (pt_cmpR (op_neD hr.units) (pe_callB call_lenA (by rfl) zb.len (by decide +kernel) (pa_cons (pv 0) pa_nil)) pe_int (nomark _)) (pw_or1 (pt_not (pt_val (pe_callC C_P_is_whole hr (by rfl) (pa_cons (pe_ix ix_seq (pv 0) pe_int (fun _ _ => rfl)) (pa_cons pe_int (pa_cons (pe_const (by rfl) g_MOST_ROWS) pa_nil))))))))) (pss_one ps_never) pss_nil) (pss_one (ps_if (PW.pt (pw_or (pt_not (pt_val (pe_callC C_P_is_whole hr (by rfl) (pa_cons (pe_ix ix_seq (pv 0) pe_int (fun _ _ => rfl)) (pa_cons pe_int (pa_cons (pe_const (by rfl) g_MOST_COLUMNS) pa_nil)))))) (pw_or1 (pt_not (pt_val (pe_callC C_P_is_whole hr (by rfl) (pa_cons (pe_ix ix_seq (pv 0) pe_int (fun _ _ => rfl)) (pa_cons pe_int (pa_cons (pe_const (by rfl) g_MOST_HEIGHT) pa_nil))))))))) (pss_one ps_never) pss_nil)))) d_P_need_room
theorem ok_P_choose {f : Addr} {fd : FuncData} (F : Fun K "choose" "choose" s_P_choose f fd) (zb : Blt mg) : FnOk P w K mg base CX0 1 f fd ["many", "few"] (spR R_P_choose) :=
  fn_data F sc_P_choose (by intro ds r h; repeat (first | (obtain ⟨rfl, _⟩ := h; rfl) | obtain ⟨_, h⟩ := h)) (t := t_P_choose K) (fun cdv A outer s H E hr => by
    have nd := sc_P_choose.nd
    exact (pss_cons (ps_if (PW.pt (pw_or (pt_cmpR op_lt (pv 1) pe_int (nomark _)) (pw_or1 (pt_cmpR op_gt (pv 1) (pv 0) (nomark _))))) (pss_one (ps_ret pe_int)) pss_nil) (pss_cons (ps_set (i := 2) nd rfl (by first | exact Or.inl rfl | exact Or.inr rfl) pe_int) (pss_cons (ps_for PassesOwn.never rfl (pi_range1 (by rfl) zb.range (pa_cons (pv 1) pa_nil)) (pg_name (i := 3) nd rfl (by first | exact Or.inl rfl | exact Or.inr rfl)) (pss_one (ps_set (i := 2) nd rfl (by first | exact Or.inl rfl | exact Or.inr rfl) (pe_op op_fdiv (pe_op op_mulX (pv 2) (pe_op op_sub (pv 0) (pv 3))) (pe_op op_add (pv 3) pe_int))))) (pss_one (ps_ret (pv 2))))))) d_P_choose
theorem ok_P_summed {f : Addr} {fd : FuncData} (F : Fun K "summed" "summed" s_P_summed f fd) (m : mg "summed" = some (.ref f)) (b : Binds K fd ["ways", "left"] []) (zb : Blt mg) : ∀ n : Nat, Cal P w K mg base CX0 "summed" n ["ways", "left"] (R_P_summed n)
  | 0 => cal_never (fun ds r h => by repeat (first | (obtain ⟨_, h0, _⟩ := h; exact absurd h0 (Nat.not_lt_zero _)) | obtain ⟨_, h⟩ := h)) m F.kp b
  | n + 1 => cal_mk (fn_data F sc_P_summed (by intro ds r h; repeat (first | (obtain ⟨rfl, _⟩ := h; rfl) | obtain ⟨_, h⟩ := h)) (t := t_P_summed K n) (fun cdv A outer s H E hr => by
    have nd := sc_P_summed.nd
    have C_P_summed := ok_P_summed F m b zb n
    exact (pss_cons (ps_if (pt_cmpR (op_eqD hr.units) (pe_callB call_lenA (by rfl) zb.len (by decide +kernel) (pa_cons (pv 1) pa_nil)) pe_int (nomark _)) (pss_one (ps_ret pe_int)) pss_nil) (pss_cons (ps_set (i := 2) nd rfl (by first | exact Or.inl rfl | exact Or.inr rfl) (pe_ix ix_seq (pv 0) (pe_op op_sub (pe_callB call_lenA (by rfl) zb.len (by decide +kernel) (pa_cons (pv 0) pa_nil)) (pe_callB call_lenA (by rfl) zb.len (by decide +kernel) (pa_cons (pv 1) pa_nil))) (fun _ _ => rfl))) (pss_cons (ps_set (i := 3) nd rfl (by first | exact Or.inl rfl | exact Or.inr rfl) pe_int) (pss_cons (ps_for PassesOwn.never rfl (pi_range1 (by rfl) zb.range (pa_cons (pe_callB call_lenA (by rfl) zb.len (by decide +kernel) (pa_cons (pv 1) pa_nil)) pa_nil)) (pg_name (i := 4) nd rfl (by first | exact Or.inl rfl | exact Or.inr rfl)) (pss_one (ps_if (pt_cmpR (op_neD hr.units) (pe_ix ix_seq (pv 2) (pe_ix ix_seq (pv 1) (pv 4) (fun _ _ => rfl)) (fun _ _ => rfl)) pe_int (nomark _)) (pss_cons (ps_set (i := 5) nd rfl (by first | exact Or.inl rfl | exact Or.inr rfl) (pe_op op_sub pe_int (pe_op op_mulX pe_int (pe_op op_mod (pv 4) pe_int)))) (pss_one (ps_set (i := 3) nd rfl (by first | exact Or.inl rfl | exact Or.inr rfl) (pe_op op_add (pv 3) (pe_op op_mulX (pe_op op_mulX (pv 5) (pe_ix ix_seq (pv 2) (pe_ix ix_seq (pv 1) (pv 4) (fun _ _ => rfl)) (fun _ _ => rfl))) (pe_callC (hjk := Nat.le_refl _) C_P_summed hr (by rfl) (pa_cons (pv 0) (pa_cons (pe_op op_catS (pe_slice sl_list (pv 1) po_none (po_some (pv 4))) (pe_slice sl_list (pv 1) (po_some (pe_op op_add (pv 4) pe_int)) po_none)) pa_nil)))))))) pss_nil))) (pss_one (ps_ret (pv 3)))))))) (d_P_summed n)) m F.kp b
theorem ok_P_count {f : Addr} {fd : FuncData} (F : Fun K "count" "count" s_P_count f fd) (zb : Blt mg) (C_P_need_room : Cal P w K mg base CX0 "need_room" 2 ["room"] R_P_need_room) (C_P_choose : Cal P w K mg base CX0 "choose" 1 ["many", "few"] R_P_choose) (C_P_summed : Cal P w K mg base CX0 "summed" 7 ["ways", "left"] (R_P_summed 7)) : FnOk P w K mg base CX0 8 f fd ["room"] (spR R_P_count) :=
  fn_data F sc_P_count (by intro ds r h; repeat (first | (obtain ⟨rfl, _⟩ := h; rfl) | obtain ⟨_, h⟩ := h)) (t := t_P_count K) (fun cdv A outer s H E hr => by
    have nd := sc_P_count.nd
    exact (pss_cons (ps_expr (pe_callC C_P_need_room hr (by rfl) (pa_cons (pv 0) pa_nil))) (pss_cons (ps_set (i := 1) nd rfl (by first | exact Or.inl rfl | exact Or.inr rfl) (pe_lst pa_nil)) (pss_cons (ps_for PassesOwn.never rfl (pi_range1 (by rfl) zb.range (pa_cons (pe_ix ix_seq (pv 0) pe_int (fun _ _ => rfl)) pa_nil)) (pg_name (i := 2) nd rfl (by first | exact Or.inl rfl | exact Or.inr rfl)) (pss_one (ps_expr (pe_bm PySem.F.plainAttrs_list PySem.F.slot_list_append PySem.F.type_list_append mt_append (pv 1) (pa_cons (pe_lc (own := [("m", 3)]) (g := gName 3) rfl nd (pi_range1 (by rfl) zb.range (pa_cons (pe_ix ix_seq (pv 0) pe_int (fun _ _ => rfl)) pa_nil)) (blkOk_by (N := ["room", "ways", "k", "m"]) (sc := defScope s_P_count) (by decide +kernel)) (fun _ _ _ _ _ => pg_name (i := 3) nd rfl (Or.inl rfl)) (fun _ _ _ _ _ => pts_nil) (fun _ _ _ _ _ => (pe_callC C_P_choose hr (by rfl) (pa_cons (pe_op op_add (pe_ix ix_seq (pv 0) pe_int (fun _ _ => rfl)) (pe_ix ix_seq (pv 0) pe_int (fun _ _ => rfl))) (pa_cons (pe_op op_sub (pe_op op_add (pe_ix ix_seq (pv 0) pe_int (fun _ _ => rfl)) (pv 2)) (pv 3)) pa_nil))))) pa_nil))))) (pss_one (ps_ret (pe_callC C_P_summed hr (by rfl) (pa_cons (pv 1) (pa_cons (pe_listRg rfl (by rfl) zb.list (prg_1 (by rfl) zb.range (pe_ix ix_seq (pv 0) pe_int (fun _ _ => rfl)))) pa_nil))))))))) d_P_count
theorem ok_L_is_number {f : Addr} {fd : FuncData} (F : Fun K "_law_is_number" "_law_is_number" s_L_is_number f fd) (zb : Blt mg) : FnOk P w K mg base CX0 1 f fd ["_law_found"] (spR R_L_is_number) :=
  fn_data F sc_L_is_number (by intro ds r h; repeat (first | (obtain ⟨rfl, _⟩ := h; rfl) | obtain ⟨_, h⟩ := h)) (t := t_L_is_number K) (fun cdv A outer s H E hr => by
    have nd := sc_L_is_number.nd
    exact (pss_one (ps_ret (pe_and (pe_not (pe_callB (call_isiB (n := "bool")) (by rfl) zb.isinstance (by decide +kernel) (pa_cons (pv 0) (pa_cons (pe_bltn (by rfl) zb.bool (by decide +kernel) rfl) pa_nil)))) (pe_one (pe_callB (call_isiB (n := "int")) (by rfl) zb.isinstance (by decide +kernel) (pa_cons (pv 0) (pa_cons (pe_bltn (by rfl) zb.int (by decide +kernel) rfl) pa_nil)))))))) d_L_is_number
theorem ok_L_sum {f : Addr} {fd : FuncData} (F : Fun K "_law_sum" "_law_sum" s_L_sum f fd) (m : mg "_law_sum" = some (.ref f)) (b : Binds K fd ["_law_row", "_law_room_here", "_law_k", "_law_left"] []) (zb : Blt mg) : ∀ n : Nat, Cal P w K mg base CX0 "_law_sum" n ["_law_row", "_law_room_here", "_law_k", "_law_left"] (R_L_sum n)
  | 0 => cal_never (fun ds r h => by repeat (first | (obtain ⟨_, h0, _⟩ := h; exact absurd h0 (Nat.not_lt_zero _)) | obtain ⟨_, h⟩ := h)) m F.kp b
  | n + 1 => cal_mk (fn_data F sc_L_sum (by intro ds r h; repeat (first | (obtain ⟨rfl, _⟩ := h; rfl) | obtain ⟨_, h⟩ := h)) (t := t_L_sum K n) (fun cdv A outer s H E hr => by
    have nd := sc_L_sum.nd
    have C_L_sum := ok_L_sum F m b zb n
    exact (pss_cons (ps_if (pt_cmpR (op_eqD hr.units) (pv 2) (pe_ix ix_seq (pv 1) pe_int (fun _ _ => rfl)) (nomark _)) (pss_one (ps_ret pe_int)) pss_nil) (pss_cons (ps_set (i := 4) nd rfl (by first | exact Or.inl rfl | exact Or.inr rfl) pe_int) (pss_cons (ps_for PassesOwn.never rfl (pi_range1 (by rfl) zb.range (pa_cons (pe_callB call_lenA (by rfl) zb.len (by decide +kernel) (pa_cons (pv 3) pa_nil)) pa_nil)) (pg_name (i := 5) nd rfl (by first | exact Or.inl rfl | exact Or.inr rfl)) (pss_cons (ps_set (i := 6) nd rfl (by first | exact Or.inl rfl | exact Or.inr rfl) (pe_op op_sub (pe_op op_add (pe_ix ix_seq (pv 1) pe_int (fun _ _ => rfl)) (pv 2)) (pe_ix ix_seq (pv 3) (pv 5) (fun _ _ => rfl)))) (pss_one (ps_if (pt_chain op_le op_lt pe_int (pv 6) (pe_callB call_lenA (by rfl) zb.len (by decide +kernel) (pa_cons (pv 0) pa_nil))) (pss_cons (ps_set (i := 7) nd rfl (by first | exact Or.inl rfl | exact Or.inr rfl) (pe_op op_catS (pe_slice sl_list (pv 3) po_none (po_some (pv 5))) (pe_slice sl_list (pv 3) (po_some (pe_op op_add (pv 5) pe_int)) po_none))) (pss_cons (ps_set (i := 8) nd rfl (by first | exact Or.inl rfl | exact Or.inr rfl) (pe_op op_sub pe_int (pe_op op_mulX pe_int (pe_op op_mod (pv 5) pe_int)))) (pss_one (ps_set (i := 4) nd rfl (by first | exact Or.inl rfl | exact Or.inr rfl) (pe_op op_add (pv 4) (pe_op op_mulX (pe_op op_mulX (pv 8) (pe_ix ix_seq (pv 0) (pv 6) (fun _ _ => rfl))) (pe_callC (hjk := Nat.le_refl _) C_L_sum hr (by rfl) (pa_cons (pv 0) (pa_cons (pv 1) (pa_cons (pe_op op_add (pv 2) pe_int) (pa_cons (pv 7) pa_nil))))))))))) pss_nil)))) (pss_one (ps_ret (pv 4))))))) (d_L_sum n)) m F.kp b
theorem ok_law_k11 {f : Addr} {fd : FuncData} (F : Fun K "law" "law" s_law_k11 f fd) (zb : Blt mg) (C_L_of : Cal P w K mg base CX0 "_law_of" 1 ["_law_script", "_law_k"] R_L_of) (C_L_room : Cal P w K mg base CX0 "_law_room" 1 ["_law_cell"] R_L_room) (C_P_count : Cal P w K mg base CX0 "count" 8 ["room"] R_P_count) (C_L_is_number : Cal P w K mg base CX0 "_law_is_number" 1 ["_law_found"] R_L_is_number) (C_L_sum : Cal P w K mg base CX0 "_law_sum" 7 ["_law_row", "_law_room_here", "_law_k", "_law_left"] (R_L_sum 7)) : FnOk P w K mg base CX0 9 f fd ["_law_script"] (spR R_law) :=
  fn_data F sc_law_k11 (by intro ds r h; repeat (first | (obtain ⟨rfl, _⟩ := h; rfl) | obtain ⟨_, h⟩ := h)) (t := t_law_k11 K) (fun cdv A outer s H E hr => by
    have nd := sc_law_k11.nd
    exact (pss_cons (ps_set (i := 1) nd rfl (by first | exact Or.inl rfl | exact Or.inr rfl) (pe_callC C_L_room hr (by rfl) (pa_cons (pe_callC C_L_of hr (by rfl) (pa_cons (pv 0) (pa_cons pe_int pa_nil))) pa_nil))) (pss_cons (ps_set (i := 2) nd rfl (by first | exact Or.inl rfl | exact Or.inr rfl) (pe_lst (pa_cons pe_int pa_nil))) (pss_cons (ps_for PassesOwn.never rfl (pi_range1 (by rfl) zb.range (pa_cons (pe_op op_add (pe_ix ix_seq (pv 1) pe_int (fun _ _ => rfl)) (pe_ix ix_seq (pv 1) pe_int (fun _ _ => rfl))) pa_nil)) (pg_name (i := 3) nd rfl (by first | exact Or.inl rfl | exact Or.inr rfl)) (pss_one (ps_set (i := 2) nd rfl (by first | exact Or.inl rfl | exact Or.inr rfl) (pe_op op_catS (pe_op op_catS (pe_lst (pa_cons pe_int pa_nil)) (pe_lc (own := [("_law_m", 4)]) (g := gName 4) rfl nd (pi_range1 (by rfl) zb.range (pa_cons (pv 3) pa_nil)) (blkOk_by (N := ["_law_script", "_law_room_here", "_law_row", "_law_k", "_law_m", "_law_found"]) (sc := defScope s_law_k11) (by decide +kernel)) (fun _ _ _ _ _ => pg_name (i := 4) nd rfl (Or.inl rfl)) (fun _ _ _ _ _ => pts_nil) (fun _ _ _ _ _ => (pe_op op_add (pe_ix ix_seq (pv 2) (pv 4) (fun _ _ => rfl)) (pe_ix ix_seq (pv 2) (pe_op op_add (pv 4) pe_int) (fun _ _ => rfl)))))) (pe_lst (pa_cons pe_int pa_nil)))))) (pss_cons (ps_set (i := 5) nd rfl (by first | exact Or.inl rfl | exact Or.inr rfl) (pe_callC C_P_count hr (by rfl) (pa_cons (pv 1) pa_nil))) (pss_one (ps_ret (pe_and (pe_callC C_L_is_number hr (by rfl) (pa_cons (pv 5) pa_nil)) (pe_one (pe_cmpR (op_eqD hr.units) (pv 5) (pe_callC C_L_sum hr (by rfl) (pa_cons (pv 2) (pa_cons (pv 1) (pa_cons pe_int (pa_cons (pe_listRg rfl (by rfl) zb.list (prg_1 (by rfl) zb.range (pe_ix ix_seq (pv 1) pe_int (fun _ _ => rfl)))) pa_nil))))) (nomark _))))))))))) d_law
end
theorem all_mk {l : PySem.W.OpenLaw} {w : World} {K : PySem.W.Frag} {h : Heap} {mg : Str → Option Value} {fa f0 f1 f2 f3 f4 f5 f6 f7 f8 f9 : Addr} (X : K.In h) (G : h.Ns mainGlobals mg) (hfa : mg "law" = some (.ref fa))
    {od0 an0 od1 an1 od2 an2 od3 an3 od4 an4 od5 an5 od6 an6 od7 an7 od8 an8 od9 an9 : Option Addr} {sl0 sl1 sl2 sl3 sl4 sl5 sl6 sl7 sl8 sl9 : Array (Option Value)} {oc0 kV0 dc0 pm0 cd0 ct0 oc1 kV1 dc1 pm1 cd1 ct1 oc2 kV2 dc2 pm2 cd2 ct2 oc3 kV3 dc3 pm3 cd3 ct3 oc4 kV4 dc4 pm4 cd4 ct4 oc5 kV5 dc5 pm5 cd5 ct5 oc6 kV6 dc6 pm6 cd6 ct6 oc7 kV7 dc7 pm7 cd7 ct7 oc8 kV8 dc8 pm8 cd8 ct8 oc9 kV9 dc9 pm9 cd9 ct9 : Value}
    (a0 : PySem.W.nsIn K mainGlobals "_law_of" = some (some (.ref f0))) (l0 : K.lookup f0 = some ⟨oc0, od0, .func (PySem.W.fnOf "_law_of" "_law_of" (defArgs s_L_of) (defBody s_L_of) (defScope s_L_of) .none kV0 dc0 pm0 an0 cd0 ct0), sl0⟩) (c0 : PySem.W.codeIn K cd0 "_law_of" = true) (k0 : PySem.W.keepIn K (.ref f0) = true)
    (a1 : PySem.W.nsIn K mainGlobals "_law_room" = some (some (.ref f1))) (l1 : K.lookup f1 = some ⟨oc1, od1, .func (PySem.W.fnOf "_law_room" "_law_room" (defArgs s_L_room) (defBody s_L_room) (defScope s_L_room) .none kV1 dc1 pm1 an1 cd1 ct1), sl1⟩) (c1 : PySem.W.codeIn K cd1 "_law_room" = true) (k1 : PySem.W.keepIn K (.ref f1) = true)
    (a2 : PySem.W.nsIn K mainGlobals "is_whole" = some (some (.ref f2))) (l2 : K.lookup f2 = some ⟨oc2, od2, .func (PySem.W.fnOf "is_whole" "is_whole" (defArgs s_P_is_whole) (defBody s_P_is_whole) (defScope s_P_is_whole) .none kV2 dc2 pm2 an2 cd2 ct2), sl2⟩) (c2 : PySem.W.codeIn K cd2 "is_whole" = true) (k2 : PySem.W.keepIn K (.ref f2) = true)
    (a3 : PySem.W.nsIn K mainGlobals "need_room" = some (some (.ref f3))) (l3 : K.lookup f3 = some ⟨oc3, od3, .func (PySem.W.fnOf "need_room" "need_room" (defArgs s_P_need_room) (defBody s_P_need_room) (defScope s_P_need_room) .none kV3 dc3 pm3 an3 cd3 ct3), sl3⟩) (c3 : PySem.W.codeIn K cd3 "need_room" = true) (k3 : PySem.W.keepIn K (.ref f3) = true)
    (a4 : PySem.W.nsIn K mainGlobals "choose" = some (some (.ref f4))) (l4 : K.lookup f4 = some ⟨oc4, od4, .func (PySem.W.fnOf "choose" "choose" (defArgs s_P_choose) (defBody s_P_choose) (defScope s_P_choose) .none kV4 dc4 pm4 an4 cd4 ct4), sl4⟩) (c4 : PySem.W.codeIn K cd4 "choose" = true) (k4 : PySem.W.keepIn K (.ref f4) = true)
    (a5 : PySem.W.nsIn K mainGlobals "summed" = some (some (.ref f5))) (l5 : K.lookup f5 = some ⟨oc5, od5, .func (PySem.W.fnOf "summed" "summed" (defArgs s_P_summed) (defBody s_P_summed) (defScope s_P_summed) .none kV5 dc5 pm5 an5 cd5 ct5), sl5⟩) (c5 : PySem.W.codeIn K cd5 "summed" = true) (k5 : PySem.W.keepIn K (.ref f5) = true)
    (a6 : PySem.W.nsIn K mainGlobals "count" = some (some (.ref f6))) (l6 : K.lookup f6 = some ⟨oc6, od6, .func (PySem.W.fnOf "count" "count" (defArgs s_P_count) (defBody s_P_count) (defScope s_P_count) .none kV6 dc6 pm6 an6 cd6 ct6), sl6⟩) (c6 : PySem.W.codeIn K cd6 "count" = true) (k6 : PySem.W.keepIn K (.ref f6) = true)
    (a7 : PySem.W.nsIn K mainGlobals "_law_is_number" = some (some (.ref f7))) (l7 : K.lookup f7 = some ⟨oc7, od7, .func (PySem.W.fnOf "_law_is_number" "_law_is_number" (defArgs s_L_is_number) (defBody s_L_is_number) (defScope s_L_is_number) .none kV7 dc7 pm7 an7 cd7 ct7), sl7⟩) (c7 : PySem.W.codeIn K cd7 "_law_is_number" = true) (k7 : PySem.W.keepIn K (.ref f7) = true)
    (a8 : PySem.W.nsIn K mainGlobals "_law_sum" = some (some (.ref f8))) (l8 : K.lookup f8 = some ⟨oc8, od8, .func (PySem.W.fnOf "_law_sum" "_law_sum" (defArgs s_L_sum) (defBody s_L_sum) (defScope s_L_sum) .none kV8 dc8 pm8 an8 cd8 ct8), sl8⟩) (c8 : PySem.W.codeIn K cd8 "_law_sum" = true) (k8 : PySem.W.keepIn K (.ref f8) = true)
    (a9 : PySem.W.nsIn K mainGlobals "law" = some (some (.ref f9))) (l9 : K.lookup f9 = some ⟨oc9, od9, .func (PySem.W.fnOf "law" "law" (defArgs s_law_k11) (defBody s_law_k11) (defScope s_law_k11) .none kV9 dc9 pm9 an9 cd9 ct9), sl9⟩) (c9 : PySem.W.codeIn K cd9 "law" = true) (k9 : PySem.W.keepIn K (.ref f9) = true)
    (z_len : PySem.W.nsIn K mainGlobals "len" = some none)
    (z_range : PySem.W.nsIn K mainGlobals "range" = some none)
    (z_min : PySem.W.nsIn K mainGlobals "min" = some none)
    (z_max : PySem.W.nsIn K mainGlobals "max" = some none)
    (z_isinstance : PySem.W.nsIn K mainGlobals "isinstance" = some none)
    (z_list : PySem.W.nsIn K mainGlobals "list" = some none)
    (z_int : PySem.W.nsIn K mainGlobals "int" = some none)
    (z_bool : PySem.W.nsIn K mainGlobals "bool" = some none)
    (z_tuple : PySem.W.nsIn K mainGlobals "tuple" = some none)
    (z_str : PySem.W.nsIn K mainGlobals "str" = some none)
    (z_sum : PySem.W.nsIn K mainGlobals "sum" = some none)
    (z_sorted : PySem.W.nsIn K mainGlobals "sorted" = some none)
    (z_set : PySem.W.nsIn K mainGlobals "set" = some none)
    (z_enumerate : PySem.W.nsIn K mainGlobals "enumerate" = some none)
    (z_reversed : PySem.W.nsIn K mainGlobals "reversed" = some none)
    (z_all : PySem.W.nsIn K mainGlobals "all" = some none)
    {tk_MOST_COLUMNS tk_MOST_HEIGHT tk_MOST_ROWS : Tok}
    (e_MOST_COLUMNS : PySem.W.nsIn K mainGlobals "MOST_COLUMNS" = some (some (.int 20 tk_MOST_COLUMNS)))
    (e_MOST_HEIGHT : PySem.W.nsIn K mainGlobals "MOST_HEIGHT" = some (some (.int 20 tk_MOST_HEIGHT)))
    (e_MOST_ROWS : PySem.W.nsIn K mainGlobals "MOST_ROWS" = some (some (.int 6 tk_MOST_ROWS)))
    : ∃ fd : FuncData, (∀ (s : Shared) (v : Value), BindsTo s fd ⟨[v], []⟩ [("_law_script", v)]) ∧ ∀ base : Heap, K.In base → base.Ns mainGlobals mg → FnOk l.prog w K mg base CX0 9 fa fd ["_law_script"] (spR R_law) := by
  have e := hfa.symm.trans (PySem.W.mg_of X G a9)
  cases e
  have zb : Blt mg := ⟨PySem.W.mg_none_of X G z_len, PySem.W.mg_none_of X G z_range, PySem.W.mg_none_of X G z_min, PySem.W.mg_none_of X G z_max, PySem.W.mg_none_of X G z_isinstance, PySem.W.mg_none_of X G z_list, PySem.W.mg_none_of X G z_int, PySem.W.mg_none_of X G z_bool, PySem.W.mg_none_of X G z_tuple, PySem.W.mg_none_of X G z_str, PySem.W.mg_none_of X G z_sum, PySem.W.mg_none_of X G z_sorted, PySem.W.mg_none_of X G z_set, PySem.W.mg_none_of X G z_enumerate, PySem.W.mg_none_of X G z_reversed, PySem.W.mg_none_of X G z_all⟩
  have g_MOST_COLUMNS : ∃ t, mg "MOST_COLUMNS" = some (.int 20 t) := ⟨_, PySem.W.mg_of X G e_MOST_COLUMNS⟩
  have g_MOST_HEIGHT : ∃ t, mg "MOST_HEIGHT" = some (.int 20 t) := ⟨_, PySem.W.mg_of X G e_MOST_HEIGHT⟩
  have g_MOST_ROWS : ∃ t, mg "MOST_ROWS" = some (.int 6 t) := ⟨_, PySem.W.mg_of X G e_MOST_ROWS⟩
  have F0 := fun_mk (st := s_L_of) l0 c0 k0
  have b0 := F0.binds (ps := ["_law_script", "_law_k"]) fun _ _ _ _ _ _ us hl => match us, hl with | [_, _], _ => rfl
  have F1 := fun_mk (st := s_L_room) l1 c1 k1
  have b1 := F1.binds (ps := ["_law_cell"]) fun _ _ _ _ _ _ us hl => match us, hl with | [_], _ => rfl
  have F2 := fun_mk (st := s_P_is_whole) l2 c2 k2
  have b2 := F2.binds (ps := ["thing", "low", "high"]) fun _ _ _ _ _ _ us hl => match us, hl with | [_, _, _], _ => rfl
  have F3 := fun_mk (st := s_P_need_room) l3 c3 k3
  have b3 := F3.binds (ps := ["room"]) fun _ _ _ _ _ _ us hl => match us, hl with | [_], _ => rfl
  have F4 := fun_mk (st := s_P_choose) l4 c4 k4
  have b4 := F4.binds (ps := ["many", "few"]) fun _ _ _ _ _ _ us hl => match us, hl with | [_, _], _ => rfl
  have F5 := fun_mk (st := s_P_summed) l5 c5 k5
  have b5 := F5.binds (ps := ["ways", "left"]) fun _ _ _ _ _ _ us hl => match us, hl with | [_, _], _ => rfl
  have F6 := fun_mk (st := s_P_count) l6 c6 k6
  have b6 := F6.binds (ps := ["room"]) fun _ _ _ _ _ _ us hl => match us, hl with | [_], _ => rfl
  have F7 := fun_mk (st := s_L_is_number) l7 c7 k7
  have b7 := F7.binds (ps := ["_law_found"]) fun _ _ _ _ _ _ us hl => match us, hl with | [_], _ => rfl
  have F8 := fun_mk (st := s_L_sum) l8 c8 k8
  have b8 := F8.binds (ps := ["_law_row", "_law_room_here", "_law_k", "_law_left"]) fun _ _ _ _ _ _ us hl => match us, hl with | [_, _, _, _], _ => rfl
  have F9 := fun_mk (st := s_law_k11) l9 c9 k9
  refine ⟨PySem.W.fnOf "law" "law" (defArgs s_law_k11) (defBody s_law_k11) (defScope s_law_k11) .none kV9 dc9 pm9 an9 cd9 ct9, fun s v => .of_eq rfl, fun base _ _ => ?_⟩
  have C_L_of : Cal l.prog w K mg base CX0 "_law_of" 1 ["_law_script", "_law_k"] R_L_of := cal_mk (ok_L_of F0 ) (PySem.W.mg_of X G a0) k0 b0
  have C_L_room : Cal l.prog w K mg base CX0 "_law_room" 1 ["_law_cell"] R_L_room := cal_mk (ok_L_room F1 ) (PySem.W.mg_of X G a1) k1 b1
  have C_P_is_whole : Cal l.prog w K mg base CX0 "is_whole" 1 ["thing", "low", "high"] R_P_is_whole := cal_mk (ok_P_is_whole F2 zb) (PySem.W.mg_of X G a2) k2 b2
  have C_P_need_room : Cal l.prog w K mg base CX0 "need_room" 2 ["room"] R_P_need_room := cal_mk (ok_P_need_room F3 zb g_MOST_COLUMNS g_MOST_HEIGHT g_MOST_ROWS C_P_is_whole) (PySem.W.mg_of X G a3) k3 b3
  have C_P_choose : Cal l.prog w K mg base CX0 "choose" 1 ["many", "few"] R_P_choose := cal_mk (ok_P_choose F4 zb) (PySem.W.mg_of X G a4) k4 b4
  have C_P_summed : Cal l.prog w K mg base CX0 "summed" 7 ["ways", "left"] (R_P_summed 7) := ok_P_summed F5 (PySem.W.mg_of X G a5) b5 zb 7
  have C_P_count : Cal l.prog w K mg base CX0 "count" 8 ["room"] R_P_count := cal_mk (ok_P_count F6 zb C_P_need_room C_P_choose C_P_summed) (PySem.W.mg_of X G a6) k6 b6
  have C_L_is_number : Cal l.prog w K mg base CX0 "_law_is_number" 1 ["_law_found"] R_L_is_number := cal_mk (ok_L_is_number F7 zb) (PySem.W.mg_of X G a7) k7 b7
  have C_L_sum : Cal l.prog w K mg base CX0 "_law_sum" 7 ["_law_row", "_law_room_here", "_law_k", "_law_left"] (R_L_sum 7) := ok_L_sum F8 (PySem.W.mg_of X G a8) b8 zb 7
  exact ok_law_k11 F9 zb C_L_of C_L_room C_P_count C_L_is_number C_L_sum
end DL
open PySem PySem.W PyProof.Rows
set_option maxRecDepth 100000 in
set_option maxHeartbeats 0 in
theorem PySem.Challenge.cw_boxheap_k11_the_signed_sum_holds : PySem.Challenge.rw_boxheap_k11_the_signed_sum.Holds := by
  w_on; o_law; k_head; (case hw => w_witness2)
  k_fill
  refine' L2.walk_of (l := PySem.Challenge.rw_boxheap_k11_the_signed_sum) (n := 63) (k := 9) (x := "_law_script") (CX := fun _ => L2.CX0) (sp := fun w => DL.spR DL.R_law) rfl (by decide) rfl ⟨rfl, by decide, by decide⟩ (fun w h Y => PySem.W.kIn_of Y) ?F (fun w H a ns hl _ hS => DL.law_pre (by exact Eq.refl true) hS hl) (fun _ _ _ _ _ h => h)
  case F =>
    intro w mg fa h KX G hmg
    refine' DL.all_mk KX G hmg ?a0 ?l0 ?c0 ?k0 ?a1 ?l1 ?c1 ?k1 ?a2 ?l2 ?c2 ?k2 ?a3 ?l3 ?c3 ?k3 ?a4 ?l4 ?c4 ?k4 ?a5 ?l5 ?c5 ?k5 ?a6 ?l6 ?c6 ?k6 ?a7 ?l7 ?c7 ?k7 ?a8 ?l8 ?c8 ?k8 ?a9 ?l9 ?c9 ?k9 ?z_len ?z_range ?z_min ?z_max ?z_isinstance ?z_list ?z_int ?z_bool ?z_tuple ?z_str ?z_sum ?z_sorted ?z_set ?z_enumerate ?z_reversed ?z_all ?e_MOST_COLUMNS ?e_MOST_HEIGHT ?e_MOST_ROWS
    (case a0 => k_is)
    (case l0 => k_is)
    (case c0 => k_is)
    (case k0 => k_is)
    (case a1 => k_is)
    (case l1 => k_is)
    (case c1 => k_is)
    (case k1 => k_is)
    (case a2 => k_is)
    (case l2 => k_is)
    (case c2 => k_is)
    (case k2 => k_is)
    (case a3 => k_is)
    (case l3 => k_is)
    (case c3 => k_is)
    (case k3 => k_is)
    (case a4 => k_is)
    (case l4 => k_is)
    (case c4 => k_is)
    (case k4 => k_is)
    (case a5 => k_is)
    (case l5 => k_is)
    (case c5 => k_is)
    (case k5 => k_is)
    (case a6 => k_is)
    (case l6 => k_is)
    (case c6 => k_is)
    (case k6 => k_is)
    (case a7 => k_is)
    (case l7 => k_is)
    (case c7 => k_is)
    (case k7 => k_is)
    (case a8 => k_is)
    (case l8 => k_is)
    (case c8 => k_is)
    (case k8 => k_is)
    (case a9 => k_is)
    (case l9 => k_is)
    (case c9 => k_is)
    (case k9 => k_is)
    (case z_len => k_is)
    (case z_range => k_is)
    (case z_min => k_is)
    (case z_max => k_is)
    (case z_isinstance => k_is)
    (case z_list => k_is)
    (case z_int => k_is)
    (case z_bool => k_is)
    (case z_tuple => k_is)
    (case z_str => k_is)
    (case z_sum => k_is)
    (case z_sorted => k_is)
    (case z_set => k_is)
    (case z_enumerate => k_is)
    (case z_reversed => k_is)
    (case z_all => k_is)
    (case e_MOST_COLUMNS => k_is)
    (case e_MOST_HEIGHT => k_is)
    (case e_MOST_ROWS => k_is)
#print axioms PySem.Challenge.cw_boxheap_k11_the_signed_sum_holds
