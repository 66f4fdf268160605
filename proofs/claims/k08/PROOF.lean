import PyProof.Rows.All
import Wide.All
import OpenK.AllK
import Wide.FinOn
import KE.KStateDown
import Lean
import HandS.Base
import HandS.Call
import HandS.List
import HandS.Ends
import HandS.Comp
import HandS.Deep
import HandS.Dict
import HandS.Iter
import HandS.Text
import HandS.More
import HandS.Exc
import HandS.TryOnly
import HandS.TryMany
import HandS.ExcOwn
import HandS.ExcIs
import HandS.IsInst
import HandS.Evl
import HandS.Words
import HandS.WordsList
import HandS.WordsExc
import HandS.Defaults
import HandS.Head0
import HandS.Head1
import HandS.Head2
import HandS.HeadEnd
import HandS.HeadHook1
import HandS.HeadHook2
import HandS.HeadHook3
import HandS.HeadHook4
import HandS.Style
import HandS.SortInts
import PySem.Challenge.RW_rentroll_k08_balance_and_growth
set_option Elab.async false
set_option linter.all false
set_option maxRecDepth 100000
set_option maxHeartbeats 4000000
/-! RKit, part A: a small machine of values and stores, and how the layer's heaps stand for it. -/
namespace RK
open PySem PySem.Spec PyProof.Rows L2

/-- a value of the machine: plain data, an object of the store, the caught exception -/
inductive DV where
  | d (x : PyData)
  | loc (l : Nat)
  | exc (c : Str)
inductive AO where
  | lst (xs : List DV)
  | tup (xs : List DV)
  | dct (kvs : List (Key × DV))
  | ins (c : Str) (fs : List (Str × DV))
abbrev Wd := List AO
abbrev En := List (Option DV)
inductive Rs (α : Type) where
  | ok (a : α) (w : Wd)
  | ex (c : Str) (w : Wd)
  | bad
def Rs.bind {α β : Type} (r : Rs α) (f : α → Wd → Rs β) : Rs β :=
  match r with
  | .ok a w => f a w
  | .ex c w => .ex c w
  | .bad => .bad
inductive Ct where
  | nx (e : En)
  | rt (d : DV)
  | bk (e : En)
  | ct (e : En)
inductive Rt where
  | ok (c : Ct) (w : Wd)
  | ex (c : Str) (e : En) (w : Wd)
  | bad
abbrev XM := En → Wd → Rs DV
abbrev AM := En → Wd → Rs (List DV)
abbrev SM := En → Wd → Rt

abbrev Ex := Evl.Ex
mutual
theorem dp_mono {K : PySem.W.Frag} {H H' : Hp} (e : Ex H H') : ∀ (d : PyData) (v : V), Dp K H v d → Dp K H' v d
  | .none, _, h => by cases h; exact .non
  | .bool b, _, h => by cases h; exact .bl b
  | .int i, _, h => by cases h; exact .int i
  | .str x, _, h => by cases h; exact .str x
  | .list ds, _, h => by
    cases h with
    | lst hs ha => exact .lst (Evl.ex_l e hs) (dp_monos e ds _ ha)
  | .tuple ds, _, h => by
    cases h with
    | tup hs ha => exact .tup (Evl.ex_t e hs) (dp_monos e ds _ ha)
  | .dict _, _, h => by cases h
theorem dp_monos {K : PySem.W.Frag} {H H' : Hp} (e : Ex H H') : ∀ (ds : List PyData) (vs : List V), DpAll K H vs ds → DpAll K H' vs ds
  | [], _, h => by cases h; exact .nil
  | d :: ds, _, h => by
    cases h with
    | cons h1 h2 => exact .cons (dp_mono e d _ h1) (dp_monos e ds _ h2)
end

section
variable {K : PySem.W.Frag} {α : Addr × Str}
/-- a value of the layer stands for a value of the machine -/
def RD (K : PySem.W.Frag) (ι : List Addr) (G : Hp) (v : V) : DV → Prop
  | .d x => Dp K G v x
  | .loc l => ∃ a, ι[l]? = some a ∧ v = .ref a
  | .exc _ => False
abbrev RDs (K : PySem.W.Frag) (ι : List Addr) (G : Hp) : List V → List DV → Prop := Paired (RD K ι G)
def RKv {κ : Type} (K : PySem.W.Frag) (ι : List Addr) (G : Hp) : List (κ × V) → List (κ × DV) → Prop := Paired fun p q => p.1 = q.1 ∧ RD K ι G p.2 q.2
/-- an object of the heap stands for an object of the store -/
def OR (K : PySem.W.Frag) (ι : List Addr) (G : Hp) (h : Option HO) : AO → Prop
  | .lst xs => ∃ vs, h = some (.lst vs) ∧ RDs K ι G vs xs
  | .tup xs => ∃ vs, h = some (.tup vs) ∧ RDs K ι G vs xs
  | .dct kvs => ∃ ks, h = some (.dK ks) ∧ RKv K ι G ks kvs
  | .ins c fs => ∃ dx gs, h = some (.ins (He.ga K c) dx gs) ∧ RKv K ι G gs fs
structure WS (K : PySem.W.Frag) (ι : List Addr) (G H : Hp) (w : Wd) : Prop where
  sub : Ex G H
  nd : ι.Nodup
  len : ι.length = w.length
  out : ∀ a ∈ ι, G a = none
  ob : ∀ (l : Nat) (a : Addr) (o : AO), ι[l]? = some a → w[l]? = some o → OR K ι G (H a) o
/-- a slot: its value, or the caught exception (which stands at α) -/
def SlotR (K : PySem.W.Frag) (α : Addr × Str) (ι : List Addr) (G : Hp) (s : Option V) : Option DV → Prop
  | none => True
  | some (.exc c) => s = some (.ref α.1) ∧ c = α.2
  | some x => ∃ v, s = some v ∧ RD K ι G v x
def EnvR (K : PySem.W.Frag) (α : Addr × Str) (ι : List Addr) (G : Hp) : L2.St → En → Prop := Paired (SlotR K α ι G)
structure Evo (ι : List Addr) (G H : Hp) (ι' : List Addr) (G' H' : Hp) : Prop where
  pre : ∃ new, ι' = ι ++ new ∧ ∀ a ∈ new, H a = none
  g : Ex G G'
  gn : ∀ a, H a ≠ none → G' a = G a
  h : ∀ a o, a ∉ ι → H a = some o → H' a = some o
  dom : ∀ a, H a ≠ none → H' a ≠ none

variable {ι ι' ι'' : List Addr} {G G' G'' H H' H'' : Hp} {w w' : Wd} {v : V} {x : DV}
theorem Evo.refl : Evo ι G H ι G H := ⟨⟨[], by simp, fun a h => by cases h⟩, Evl.Ex.refl _, fun _ _ => rfl, fun _ _ _ e => e, fun _ h => h⟩
theorem Evo.trans (a : Evo ι G H ι' G' H') (b : Evo ι' G' H' ι'' G'' H'') : Evo ι G H ι'' G'' H'' := by
  obtain ⟨n1, e1, f1⟩ := a.pre
  obtain ⟨n2, e2, f2⟩ := b.pre
  refine ⟨⟨n1 ++ n2, by rw [e2, e1, List.append_assoc], fun c hc => ?_⟩, a.g.trans b.g, fun c hc => (b.gn c (a.dom c hc)).trans (a.gn c hc), fun c o hc e => ?_, fun c hc => b.dom c (a.dom c hc)⟩
  · rcases List.mem_append.mp hc with h | h
    · exact f1 c h
    · cases q : H c with
      | none => rfl
      | some o => exact absurd (f2 c h) (a.dom c (by rw [q]; simp))
  · refine b.h c o (fun hm => ?_) (a.h c o hc e)
    rw [e1] at hm
    rcases List.mem_append.mp hm with h | h
    · exact hc h
    · rw [f1 c h] at e; cases e
theorem RD.mono (e : Evo ι G H ι' G' H') (r : RD K ι G v x) : RD K ι' G' v x := by
  cases x with
  | d x => exact dp_mono e.g _ _ r
  | loc l =>
    obtain ⟨a, h1, h2⟩ := r
    obtain ⟨n, e1, _⟩ := e.pre
    refine ⟨a, ?_, h2⟩
    rw [e1, List.getElem?_append_left (List.getElem?_eq_some_iff.mp h1).1]
    exact h1
  | exc c => exact r.elim
theorem RDs.mono (e : Evo ι G H ι' G' H') : ∀ {vs : List V} {xs : List DV}, RDs K ι G vs xs → RDs K ι' G' vs xs
  | _, _, .nil => .nil
  | _, _, .cons r t => .cons (r.mono e) (RDs.mono e t)
theorem RKv.mono {κ : Type} (e : Evo ι G H ι' G' H') : ∀ {vs : List (κ × V)} {xs : List (κ × DV)}, RKv K ι G vs xs → RKv K ι' G' vs xs
  | _, _, .nil => .nil
  | _, _, .cons r t => .cons ⟨r.1, r.2.mono e⟩ (RKv.mono e t)
theorem SlotR.mono {σ : Option V} {d : Option DV} (e : Evo ι G H ι' G' H') (r : SlotR K α ι G σ d) : SlotR K α ι' G' σ d := by
  cases d with
  | none => trivial
  | some x =>
    cases x with
    | exc c => exact r
    | d y => obtain ⟨v, h1, h2⟩ := r; exact ⟨v, h1, h2.mono e⟩
    | loc y => obtain ⟨v, h1, h2⟩ := r; exact ⟨v, h1, h2.mono e⟩
theorem EnvR.mono (e : Evo ι G H ι' G' H') : ∀ {σ : L2.St} {n : En}, EnvR K α ι G σ n → EnvR K α ι' G' σ n
  | _, _, .nil => .nil
  | _, _, .cons r t => .cons (r.mono e) (EnvR.mono e t)
theorem OR.mono (e : Evo ι G H ι' G' H') {h : Option HO} {o : AO} (r : OR K ι G h o) : OR K ι' G' h o := by
  cases o with
  | lst xs => obtain ⟨vs, h1, h2⟩ := r; exact ⟨vs, h1, h2.mono e⟩
  | tup xs => obtain ⟨vs, h1, h2⟩ := r; exact ⟨vs, h1, h2.mono e⟩
  | dct kvs => obtain ⟨vs, h1, h2⟩ := r; exact ⟨vs, h1, h2.mono e⟩
  | ins c fs => obtain ⟨dx, vs, h1, h2⟩ := r; exact ⟨dx, vs, h1, h2.mono e⟩
theorem OR.some {h : Option HO} {o : AO} (r : OR K ι G h o) : h ≠ none := by
  cases o with
  | lst xs => obtain ⟨vs, h1, h2⟩ := r; rw [h1]; simp
  | tup xs => obtain ⟨vs, h1, h2⟩ := r; rw [h1]; simp
  | dct kvs => obtain ⟨vs, h1, h2⟩ := r; rw [h1]; simp
  | ins c fs => obtain ⟨dx, vs, h1, h2⟩ := r; rw [h1]; simp
theorem EnvR.at_ : ∀ {σ : L2.St} {n : En} {i : Nat} {d : Option DV}, EnvR K α ι G σ n → n[i]? = some d → ∃ s, σ[i]? = some s ∧ SlotR K α ι G s d
  | _, _, 0, d, .cons r t, h => by
    simp only [List.getElem?_cons_zero, Option.some.injEq] at h
    subst h
    exact ⟨_, rfl, r⟩
  | _, _, i + 1, d, .cons r t, h => by
    obtain ⟨v, h1, h2⟩ := EnvR.at_ (i := i) t (by simpa using h)
    exact ⟨v, by simpa using h1, h2⟩
theorem SlotR.val {s : Option V} {d : DV} (r : SlotR K α ι G s (some d)) (h : ∀ c, d ≠ .exc c) : ∃ v, s = some v ∧ RD K ι G v d := by
  cases d with
  | exc c => exact absurd rfl (h c)
  | d y => exact r
  | loc y => exact r
theorem SlotR.of {v : V} {d : DV} (r : RD K ι G v d) : SlotR K α ι G (some v) (some d) := by
  cases d with
  | exc c => exact r.elim
  | d y => exact ⟨v, rfl, r⟩
  | loc y => exact ⟨v, rfl, r⟩
theorem EnvR.set {s : Option V} {d : Option DV} (r : SlotR K α ι G s d) : ∀ {σ : L2.St} {n : En} (i : Nat), EnvR K α ι G σ n → EnvR K α ι G (σ.set i s) (n.set i d)
  | _, _, _, .nil => .nil
  | _, _, 0, .cons q t => .cons r t
  | _, _, i + 1, .cons q t => .cons q (EnvR.set r i t)
/-- the caught exceptions forgotten -/
def clr1 : Option DV → Option DV
  | some (.exc _) => none
  | d => d
def clr (n : En) : En := n.map clr1
theorem EnvR.clr {β : Addr × Str} : ∀ {σ : L2.St} {n : En}, EnvR K α ι G σ n → EnvR K β ι G σ (clr n)
  | _, _, .nil => .nil
  | _, _, .cons (b := b) r t => .cons (by
    cases b with
    | none => trivial
    | some x => cases x with
      | exc c => trivial
      | d y => exact r
      | loc y => exact r) (EnvR.clr t)
/-- the store's objects stand somewhere -/
theorem WS.at_ (s : WS K ι G H w) {l : Nat} {o : AO} (h : w[l]? = some o) : ∃ a, ι[l]? = some a ∧ OR K ι G (H a) o := by
  have hl : l < ι.length := by rw [s.len]; exact (List.getElem?_eq_some_iff.mp h).1
  refine ⟨ι[l], by simp [hl], s.ob l _ o (by simp [hl]) h⟩
theorem WS.dom (s : WS K ι G H w) {a : Addr} (h : a ∈ ι) : H a ≠ none := by
  obtain ⟨l, hl, e⟩ := List.mem_iff_getElem.mp h
  have hw : l < w.length := by rw [← s.len]; exact hl
  exact (s.ob l a w[l] (by rw [← e]; simp [hl]) (by simp [hw])).some
/-- new data laid at p -/
theorem Evo.newD {p : Addr} {o : HO} (s : Ex G H) (hp : H p = none) : Evo ι G H ι (upd G p o) (upd H p o) := by
  have gp : G p = none := Evl.fresh_back s hp
  refine ⟨⟨[], by simp, fun a h => by cases h⟩, Evl.Ex.new gp, fun a ha => upd_ne (fun e => ha (by rw [e]; exact hp)), fun a u _ e => ?_, fun a ha => ?_⟩
  · rw [upd_ne (ne_of_none e hp)]; exact e
  · rw [upd_ne (fun e => ha (by rw [e]; exact hp))]; exact ha
theorem WS.newD {p : Addr} {o : HO} (s : WS K ι G H w) (hp : H p = none) : WS K ι (upd G p o) (upd H p o) w := by
  have E : Evo ι G H ι (upd G p o) (upd H p o) := Evo.newD s.sub hp
  refine ⟨fun a u e => ?_, s.nd, s.len, fun a ha => ?_, fun l a o' h1 h2 => ?_⟩
  · by_cases h : a = p
    · subst h; rw [upd_same] at e ⊢; exact e
    · rw [upd_ne h] at e ⊢; exact s.sub a u e
  · have : a ≠ p := fun e => s.dom ha (by rw [e]; exact hp)
    rw [upd_ne this]; exact s.out a ha
  · have : a ≠ p := fun e => s.dom (List.mem_of_getElem? h1) (by rw [e]; exact hp)
    rw [upd_ne this]
    exact (s.ob l a o' h1 h2).mono E
/-- a new object of the store laid at p -/
theorem Evo.newL {p : Addr} {o : HO} (hp : H p = none) : Evo ι G H (ι ++ [p]) G (upd H p o) := by
  refine ⟨⟨[p], rfl, fun a h => ?_⟩, Evl.Ex.refl _, fun a ha => rfl, fun a u _ e => ?_, fun a ha => ?_⟩
  · have : a = p := by simpa using h
    rw [this]; exact hp
  · rw [upd_ne (ne_of_none e hp)]; exact e
  · rw [upd_ne (fun e => ha (by rw [e]; exact hp))]; exact ha
theorem WS.newL {p : Addr} {o : HO} {ao : AO} (s : WS K ι G H w) (hp : H p = none) (ho : OR K (ι ++ [p]) G (some o) ao) : WS K (ι ++ [p]) G (upd H p o) (w ++ [ao]) := by
  have E : Evo ι G H (ι ++ [p]) G (upd H p o) := Evo.newL hp
  have np : p ∉ ι := fun h => s.dom h hp
  refine ⟨fun a u e => ?_, ?_, by simp [s.len], fun a ha => ?_, fun l a o' h1 h2 => ?_⟩
  · have := s.sub a u e
    rw [upd_ne (ne_of_none this hp)]; exact this
  · refine List.nodup_append.mpr ⟨s.nd, by simp, fun a ha b hb => ?_⟩
    have : b = p := by simpa using hb
    rw [this]; rintro rfl; exact np ha
  · rcases List.mem_append.mp ha with h | h
    · exact s.out a h
    · have : a = p := by simpa using h
      rw [this]; exact Evl.fresh_back s.sub hp
  · by_cases hl : l < ι.length
    · rw [List.getElem?_append_left hl] at h1
      rw [List.getElem?_append_left (by rw [← s.len]; exact hl)] at h2
      have : a ≠ p := fun e => np (by rw [← e]; exact List.mem_of_getElem? h1)
      rw [upd_ne this]
      exact (s.ob l a o' h1 h2).mono E
    · have hl' : l = ι.length := by
        have := (List.getElem?_eq_some_iff.mp h1).1
        simp at this; omega
      subst hl'
      have e1 : a = p := by simpa using h1.symm
      have e2 : o' = ao := by
        rw [s.len] at h2
        simpa using h2.symm
      rw [e1, e2, upd_same]; exact ho
/-- an object of the store is changed -/
theorem Evo.write {l : Nat} {a : Addr} {o : HO} (h : ι[l]? = some a) : Evo ι G H ι G (upd H a o) := by
  refine ⟨⟨[], by simp, fun a h => by cases h⟩, Evl.Ex.refl _, fun a ha => rfl, fun b u hb e => ?_, fun b hb => ?_⟩
  · have : b ≠ a := fun z => hb (by rw [z]; exact List.mem_of_getElem? h)
    rw [upd_ne this]; exact e
  · by_cases z : b = a
    · rw [z, upd_same]; simp
    · rw [upd_ne z]; exact hb
theorem WS.write {l : Nat} {a : Addr} {o : HO} {ao : AO} (s : WS K ι G H w) (h : ι[l]? = some a) (ho : OR K ι G (some o) ao) : WS K ι G (upd H a o) (w.set l ao) := by
  refine ⟨fun b u e => ?_, s.nd, by simp [s.len], s.out, fun j b o' h1 h2 => ?_⟩
  · have hb : b ≠ a := fun z => by
      have := s.out a (List.mem_of_getElem? h)
      rw [z, this] at e; cases e
    rw [upd_ne hb]; exact s.sub b u e
  · by_cases hj : j = l
    · subst hj
      rw [h] at h1; cases h1
      have hl : j < w.length := by rw [← s.len]; exact (List.getElem?_eq_some_iff.mp h).1
      rw [List.getElem?_set_self hl] at h2
      cases h2
      rw [upd_same]; exact ho
    · have hb : b ≠ a := fun z => hj (by
        subst z
        exact L2.nd_ix s.nd h1 h)
      rw [upd_ne hb]
      rw [List.getElem?_set_ne (Ne.symm hj)] at h2
      exact s.ob j b o' h1 h2

/-! ### plain data out of the store -/
def mapO (f : DV → Option PyData) : List DV → Option (List PyData)
  | [] => some []
  | x :: xs => match f x with
    | none => none
    | some y => (mapO f xs).map (y :: ·)
def toD : Nat → Wd → DV → Option PyData
  | 0, _, x => match x with
    | .d y => some y
    | _ => none
  | n + 1, w, x => match x with
    | .d y => some y
    | .exc _ => none
    | .loc l => match w[l]? with
      | some (.lst xs) => (mapO (toD n w) xs).map .list
      | some (.tup xs) => (mapO (toD n w) xs).map .tuple
      | _ => none
abbrev toDs (n : Nat) (w : Wd) : List DV → Option (List PyData) := mapO (toD n w)
end
end RK

set_option Elab.async false
set_option linter.all false
set_option maxRecDepth 100000
set_option maxHeartbeats 4000000
/-! RKit, part B: the machine's readings and the rules of expressions. -/
namespace RK
open PySem PySem.Spec PyProof.Rows L2

section
variable {K : PySem.W.Frag} {α : Addr × Str}
theorem dp_toD {ι : List Addr} {G G1 H : Hp} {w : Wd} (s : WS K ι G H w) (hG : Ex G G1) (hι : ∀ a ∈ ι, ∀ o, H a = some o → G1 a = some o) :
    ∀ (n : Nat) (x : DV) (v : V) (d : PyData), RD K ι G v x → toD n w x = some d → Dp K G1 v d := by
  intro n
  induction n with
  | zero =>
    intro x v d r e
    cases x with
    | d y => simp only [toD, Option.some.injEq] at e; subst e; exact dp_mono hG _ _ r
    | loc l => simp only [toD] at e; cases e
    | exc c => exact r.elim
  | succ n ih =>
    have all : ∀ (xs : List DV) (vs : List V) (ds : List PyData), RDs K ι G vs xs → mapO (toD n w) xs = some ds → DpAll K G1 vs ds := by
      intro xs
      induction xs with
      | nil => intro vs ds r e; cases r; simp only [mapO, Option.some.injEq] at e; subst e; exact .nil
      | cons x xs ihx =>
        intro vs ds r e
        cases r with
        | cons r1 r2 =>
          simp only [mapO] at e
          cases q : toD n w x with
          | none => rw [q] at e; cases e
          | some y =>
            rw [q] at e
            simp only at e
            cases q2 : mapO (toD n w) xs with
            | none => rw [q2] at e; cases e
            | some ys =>
              rw [q2] at e
              simp only [Option.map_some, Option.some.injEq] at e
              subst e
              exact .cons (ih x _ y r1 q) (ihx _ ys r2 q2)
    intro x v d r e
    cases x with
    | d y => simp only [toD, Option.some.injEq] at e; subst e; exact dp_mono hG _ _ r
    | exc c => simp only [toD] at e; cases e
    | loc l =>
      obtain ⟨a, h1, rfl⟩ := r
      simp only [toD] at e
      cases q : w[l]? with
      | none => rw [q] at e; cases e
      | some o =>
        rw [q] at e
        have ob := s.ob l a o h1 q
        have ha := List.mem_of_getElem? h1
        cases o with
        | lst xs =>
          simp only at e
          cases q2 : mapO (toD n w) xs with
          | none => rw [q2] at e; cases e
          | some ys =>
            rw [q2] at e
            simp only [Option.map_some, Option.some.injEq] at e
            subst e
            obtain ⟨vs, e1, e2⟩ := ob
            exact .lst (Evl.sq_of (hι a ha _ e1)) (all xs vs ys e2 q2)
        | tup xs =>
          simp only at e
          cases q2 : mapO (toD n w) xs with
          | none => rw [q2] at e; cases e
          | some ys =>
            rw [q2] at e
            simp only [Option.map_some, Option.some.injEq] at e
            subst e
            obtain ⟨vs, e1, e2⟩ := ob
            exact .tup (Evl.st_of (hι a ha _ e1)) (all xs vs ys e2 q2)
        | dct kvs => cases e
        | ins c fs => cases e
/-- .. into the whole heap -/
theorem dp_toDH {ι : List Addr} {G H : Hp} {w : Wd} (s : WS K ι G H w) {n : Nat} {x : DV} {v : V} {d : PyData} (r : RD K ι G v x) (e : toD n w x = some d) : Dp K H v d :=
  dp_toD s s.sub (fun _ _ _ h => h) n x v d r e

/-! ### what is wanted behind -/
def PostE (K : PySem.W.Frag) (Wx : WX) (ι : List Addr) (G H : Hp) (σ : L2.St) (r : Rs DV) (Q : VK) : Prop :=
  match r with
  | .ok d w' => ∀ v ι' G' H', Evo ι G H ι' G' H' → WS K ι' G' H' w' → RD K ι' G' v d → Q v H'
  | .ex c w' => ∀ ι' G' H', Evo ι G H ι' G' H' → WS K ι' G' H' w' → Wx (.ref (He.ga K c)) none σ H'
  | .bad => False
def PostA (K : PySem.W.Frag) (Wx : WX) (ι : List Addr) (G H : Hp) (σ : L2.St) (r : Rs (List DV)) (Q : List V → Hp → Prop) : Prop :=
  match r with
  | .ok d w' => ∀ v ι' G' H', Evo ι G H ι' G' H' → WS K ι' G' H' w' → RDs K ι' G' v d → Q v H'
  | .ex c w' => ∀ ι' G' H', Evo ι G H ι' G' H' → WS K ι' G' H' w' → Wx (.ref (He.ga K c)) none σ H'
  | .bad => False
def cE (K : PySem.W.Frag) (α : Addr × Str) (Wx : WX) (x : XM) : TE := fun σ H Q => ∃ ι G w env, WS K ι G H w ∧ EnvR K α ι G σ env ∧ PostE K Wx ι G H σ (x env w) Q
def cA (K : PySem.W.Frag) (α : Addr × Str) (Wx : WX) (x : AM) : TA := fun σ H Q => ∃ ι G w env, WS K ι G H w ∧ EnvR K α ι G σ env ∧ PostA K Wx ι G H σ (x env w) Q
def cT (K : PySem.W.Frag) (α : Addr × Str) (Wx : WX) (x : XM) : TT := fun σ H Q => cE K α Wx x σ H fun v H1 => ∃ c, v = .bl c ∧ Q c H1
variable {Wx : WX} {ι ι' : List Addr} {G G' H H' : Hp} {w w' : Wd} {σ : L2.St} {Q Q' : VK}
theorem PostE.mono {r : Rs DV} (e : Evo ι G H ι' G' H') (p : PostE K Wx ι G H σ r Q) : PostE K Wx ι' G' H' σ r Q := by
  cases r with
  | ok d w => exact fun v i2 G2 H2 e2 s r => p v i2 G2 H2 (e.trans e2) s r
  | ex c w => exact fun i2 G2 H2 e2 s => p i2 G2 H2 (e.trans e2) s
  | bad => exact p
theorem PostA.mono {r : Rs (List DV)} {Q : List V → Hp → Prop} (e : Evo ι G H ι' G' H') (p : PostA K Wx ι G H σ r Q) : PostA K Wx ι' G' H' σ r Q := by
  cases r with
  | ok d w => exact fun v i2 G2 H2 e2 s r => p v i2 G2 H2 (e.trans e2) s r
  | ex c w => exact fun i2 G2 H2 e2 s => p i2 G2 H2 (e.trans e2) s
  | bad => exact p
theorem PostE.imp {r : Rs DV} (p : PostE K Wx ι G H σ r Q) (k : ∀ v H', Q v H' → Q' v H') : PostE K Wx ι G H σ r Q' := by
  cases r with
  | ok d w => exact fun v i2 G2 H2 e2 s r => k _ _ (p v i2 G2 H2 e2 s r)
  | ex c w => exact p
  | bad => exact p
theorem PostE.bind {r : Rs DV} {f : DV → Wd → Rs DV} (p : PostE K Wx ι G H σ (r.bind f) Q)
    (k : ∀ d w' v ι' G' H', r = .ok d w' → Evo ι G H ι' G' H' → WS K ι' G' H' w' → RD K ι' G' v d → PostE K Wx ι' G' H' σ (f d w') Q → Q' v H') : PostE K Wx ι G H σ r Q' := by
  cases r with
  | ok d w => exact fun v i2 G2 H2 e2 s r => k d w v i2 G2 H2 rfl e2 s r (PostE.mono e2 p)
  | ex c w => exact p
  | bad => exact p
theorem PostE.bindA {r : Rs DV} {f : DV → Wd → Rs (List DV)} {Q : List V → Hp → Prop} (p : PostA K Wx ι G H σ (r.bind f) Q)
    (k : ∀ d w' v ι' G' H', r = .ok d w' → Evo ι G H ι' G' H' → WS K ι' G' H' w' → RD K ι' G' v d → PostA K Wx ι' G' H' σ (f d w') Q → Q' v H') : PostE K Wx ι G H σ r Q' := by
  cases r with
  | ok d w => exact fun v i2 G2 H2 e2 s r => k d w v i2 G2 H2 rfl e2 s r (PostA.mono e2 p)
  | ex c w => exact p
  | bad => exact p
theorem PostA.bind {r : Rs (List DV)} {f : List DV → Wd → Rs DV} {Q' : List V → Hp → Prop} (p : PostE K Wx ι G H σ (r.bind f) Q)
    (k : ∀ d w' v ι' G' H', r = .ok d w' → Evo ι G H ι' G' H' → WS K ι' G' H' w' → RDs K ι' G' v d → PostE K Wx ι' G' H' σ (f d w') Q → Q' v H') : PostA K Wx ι G H σ r Q' := by
  cases r with
  | ok d w => exact fun v i2 G2 H2 e2 s r => k d w v i2 G2 H2 rfl e2 s r (PostE.mono e2 p)
  | ex c w => exact p
  | bad => exact p
theorem PostA.bindA {r : Rs (List DV)} {f : List DV → Wd → Rs (List DV)} {Q Q' : List V → Hp → Prop} (p : PostA K Wx ι G H σ (r.bind f) Q)
    (k : ∀ d w' v ι' G' H', r = .ok d w' → Evo ι G H ι' G' H' → WS K ι' G' H' w' → RDs K ι' G' v d → PostA K Wx ι' G' H' σ (f d w') Q → Q' v H') : PostA K Wx ι G H σ r Q' := by
  cases r with
  | ok d w => exact fun v i2 G2 H2 e2 s r => k d w v i2 G2 H2 rfl e2 s r (PostA.mono e2 p)
  | ex c w => exact p
  | bad => exact p
end

/-! ### judgements weakened -/
section
variable {X : Cx}
theorem pe_imp {e : Expr} {t t' : TE} (h : PE X e t) (i : ∀ σ H Q, t' σ H Q → t σ H Q) : PE X e t' := ⟨fun pins s σ H Q I q => h.run pins s σ H Q I (i σ H Q q)⟩
theorem pt_imp {e : Expr} {t t' : TT} (h : PT X e t) (i : ∀ σ H Q, t' σ H Q → t σ H Q) : PT X e t' := ⟨fun pins s σ H Q I q => h.run pins s σ H Q I (i σ H Q q)⟩
theorem pw_imp {e : Expr} {t t' : TT} (h : PW X e t) (i : ∀ σ H Q, t' σ H Q → t σ H Q) : PW X e t' := ⟨fun wh pins s σ H Q I q => h.run wh pins s σ H Q I (i σ H Q q)⟩
theorem pa_imp {e : List Expr} {t t' : TA} (h : PA X e t) (i : ∀ σ H Q, t' σ H Q → t σ H Q) : PA X e t' := ⟨fun po pins s σ H Q I q => h.run po pins s σ H Q I (i σ H Q q)⟩
theorem ps_imp {e : Stmt} {t t' : TS} (h : PS X e t) (i : ∀ D σ H, t' D σ H → t D σ H) : PS X e t' := ⟨fun pins s σ H D I q => h.run pins s σ H D I (i D σ H q)⟩
theorem pss_imp {e : List Stmt} {t t' : TS} (h : PSs X e t) (i : ∀ D σ H, t' D σ H → t D σ H) : PSs X e t' := ⟨fun pins s σ H D I q => h.run pins s σ H D I (i D σ H q)⟩
end

/-! ### the machine's expressions -/
def xVar (i : Nat) : XM := fun e w => match e[i]? with
  | some (some (.d x)) => .ok (.d x) w
  | some (some (.loc l)) => .ok (.loc l) w
  | _ => .bad
def xLit (d : PyData) : XM := fun _ w => .ok (.d d) w
def xBin (op : DV → DV → Wd → Rs DV) (a b : XM) : XM := fun e w => (a e w).bind fun x w1 => (b e w1).bind fun y w2 => op x y w2
def xAnd (a b : XM) : XM := fun e w => (a e w).bind fun x w1 => match x with
  | .d (.bool p) => if p = true then b e w1 else .ok (.d (.bool false)) w1
  | _ => .bad
def xOr (a b : XM) : XM := fun e w => (a e w).bind fun x w1 => match x with
  | .d (.bool p) => if p = true then .ok (.d (.bool true)) w1 else b e w1
  | _ => .bad
def xNot (a : XM) : XM := fun e w => (a e w).bind fun x w1 => match x with
  | .d (.bool b) => .ok (.d (.bool (!b))) w1
  | _ => .bad
def xChain (op op' : DV → DV → Wd → Rs DV) (a b c : XM) : XM := fun e w => (a e w).bind fun x w1 => (b e w1).bind fun y w2 => (op x y w2).bind fun z w3 => match z with
  | .d (.bool p) => if p = true then (c e w3).bind fun u w4 => op' y u w4 else .ok (.d (.bool false)) w3
  | _ => .bad
def xNil : AM := fun _ w => .ok [] w
def xCons (a : XM) (r : AM) : AM := fun e w => (a e w).bind fun x w1 => (r e w1).bind fun xs w2 => .ok (x :: xs) w2
def allD : List DV → Option (List PyData)
  | [] => some []
  | .d x :: r => (allD r).map (x :: ·)
  | _ :: _ => none
/-- a new tuple, a new list of plain data -/
def xTup (a : AM) : XM := fun e w => (a e w).bind fun xs w1 => match allD xs with
  | some ds => if ds.length ≤ 100000 then .ok (.d (.tuple ds)) w1 else .bad
  | none => .bad
def xLst (a : AM) : XM := fun e w => (a e w).bind fun xs w1 => match allD xs with
  | some ds => if ds.length ≤ 100000 then .ok (.d (.list ds)) w1 else .bad
  | none => .bad
/-- a new list, a new tuple, an object of the store -/
def xLstS (a : AM) : XM := fun e w => (a e w).bind fun xs w1 => if xs.length ≤ 100000 then .ok (.loc w1.length) (w1 ++ [.lst xs]) else .bad
def xTupS (a : AM) : XM := fun e w => (a e w).bind fun xs w1 => if xs.length ≤ 100000 then .ok (.loc w1.length) (w1 ++ [.tup xs]) else .bad

/-! ### operators by values -/
def oI (C : Int → Int → Bool) (g : Int → Int → PyData) : DV → DV → Wd → Rs DV
  | .d (.int i), .d (.int j), w => if C i j = true then .ok (.d (g i j)) w else .bad
  | _, _, _ => .bad
abbrev yes2 : Int → Int → Bool := fun _ _ => true
abbrev oAdd := oI yes2 fun i j => .int (i + j)
abbrev oSub := oI yes2 fun i j => .int (i - j)
abbrev oMul := oI (fun i j => (decide (-(2 ^ 64) < i) && decide (i < 2 ^ 64)) || (decide (-(2 ^ 64) < j) && decide (j < 2 ^ 64))) fun i j => .int (i * j)
abbrev oDiv := oI (fun _ j => decide (0 < j) && decide (j < 1073741824)) fun i j => .int (i / j)
abbrev oMod := oI (fun _ j => decide (0 < j)) fun i j => .int (i % j)
abbrev oPow := oI (fun i j => decide (0 ≤ j) && (decide (j ≤ 1000000) && decide (i.natAbs < 2 ^ 64))) fun i j => .int (i ^ j.toNat)
abbrev oLt := oI yes2 fun i j => .bool (decide (i < j))
abbrev oLe := oI yes2 fun i j => .bool (decide (i ≤ j))
abbrev oGt := oI yes2 fun i j => .bool (decide (j < i))
abbrev oGe := oI yes2 fun i j => .bool (decide (j ≤ i))
def oEq : DV → DV → Wd → Rs DV := fun x y w => match toD 6 w x, toD 6 w y with
  | some a, some b => if (SeqAt.shaped a && SeqAt.shaped b) = true then .ok (.d (.bool (PyData.eqv a b))) w else .bad
  | _, _ => .bad
def oNe : DV → DV → Wd → Rs DV := fun x y w => match toD 6 w x, toD 6 w y with
  | some a, some b => if (SeqAt.shaped a && SeqAt.shaped b) = true then .ok (.d (.bool (!PyData.eqv a b))) w else .bad
  | _, _ => .bad
def isNon : DV → Bool
  | .d .none => true
  | _ => false
def oIsN : DV → DV → Wd → Rs DV := fun x y w => match y with
  | .d .none => .ok (.d (.bool (isNon x))) w
  | _ => .bad
def oNotN : DV → DV → Wd → Rs DV := fun x y w => match y with
  | .d .none => .ok (.d (.bool (!isNon x))) w
  | _ => .bad
def oIn : DV → DV → Wd → Rs DV := fun x y w => match toD 6 w x, toD 6 w y with
  | some d, some (.list ds) => if (SeqAt.shaped d && SeqAt.shaped (.list ds)) = true then .ok (.d (.bool (ds.any fun z => PyData.eqv z d))) w else .bad
  | _, _ => .bad
def oNotIn : DV → DV → Wd → Rs DV := fun x y w => match toD 6 w x, toD 6 w y with
  | some d, some (.list ds) => if (SeqAt.shaped d && SeqAt.shaped (.list ds)) = true then .ok (.d (.bool (!ds.any fun z => PyData.eqv z d))) w else .bad
  | _, _ => .bad
/-- one sign in a text -/
def signIn (x z : Str) : Option Bool := match x.cps.toList with
  | [c] => some (decide (c ∈ z.cps.toList))
  | _ => none
def oInS : DV → DV → Wd → Rs DV
  | .d (.str x), .d (.str z), w => match signIn x z with
    | some b => .ok (.d (.bool b)) w
    | none => .bad
  | _, _, _ => .bad
def oNotInS : DV → DV → Wd → Rs DV
  | .d (.str x), .d (.str z), w => match signIn x z with
    | some b => .ok (.d (.bool (!b))) w
    | none => .bad
  | _, _, _ => .bad
def oAddS : DV → DV → Wd → Rs DV
  | .d (.str x), .d (.str z), w => if x.length + z.length ≤ 100000 then .ok (.d (.str (x ++ z))) w else .bad
  | _, _, _ => .bad
/-- an item -/
def oIxL : DV → DV → Wd → Rs DV
  | .d (.list ds), .d (.int i), w => match atI ds i with
    | some d => .ok (.d d) w
    | none => .bad
  | .loc l, .d (.int i), w => match w[l]? with
    | some (.lst xs) => match atI xs i with
      | some d => .ok d w
      | none => .bad
    | _ => .bad
  | _, _, _ => .bad
def oIxT : DV → DV → Wd → Rs DV
  | .d (.tuple ds), .d (.int i), w => match atI ds i with
    | some d => .ok (.d d) w
    | none => .bad
  | .loc l, .d (.int i), w => match w[l]? with
    | some (.tup xs) => match atI xs i with
      | some d => .ok d w
      | none => .bad
    | _ => .bad
  | _, _, _ => .bad
def oIxS : DV → DV → Wd → Rs DV
  | .d (.str z), .d (.int i), w => if z.length ≤ 100000 then (match atI z.cps.toList i with
      | some c => .ok (.d (.str ⟨#[c]⟩)) w
      | none => .bad) else .bad
  | _, _, _ => .bad

/-! ### the rules -/
section
variable {X : Cx} {α : Addr × Str} {Wx : WX} {a b c e : Expr} {es : List Expr} {xa xb xc : XM} {xs : AM} {pos : Pos}
theorem x_var (i : Nat) {n : Str} (h : PE X (.Name n pos) (tVar i)) : PE X (.Name n pos) (cE X.K α Wx (xVar i)) := pe_imp h fun σ H Q ⟨ι, G, w, env, s, ev, p⟩ => by
  unfold xVar at p
  cases q : env[i]? with
  | none => rw [q] at p; exact p.elim
  | some o =>
    rw [q] at p
    obtain ⟨sl, h1, h2⟩ := ev.at_ q
    cases o with
    | none => exact p.elim
    | some d =>
      cases d with
      | exc c => exact p.elim
      | d y =>
        obtain ⟨v, rfl, h3⟩ := h2
        exact ⟨v, h1, p v ι G H .refl s h3⟩
      | loc y =>
        obtain ⟨v, rfl, h3⟩ := h2
        exact ⟨v, h1, p v ι G H .refl s h3⟩
theorem x_lit {v : V} {d : PyData} (h : PE X e (tC v)) (hd : ∀ G, Dp X.K G v d) : PE X e (cE X.K α Wx (xLit d)) := pe_imp h fun σ H Q ⟨ι, G, w, env, s, ev, p⟩ => p v ι G H .refl s (hd G)
theorem x_int {i : Int} {j : Nat} : PE X (.Constant (.int i) j pos) (cE X.K α Wx (xLit (.int i))) := x_lit pe_int fun _ => .int i
theorem x_bl {i : Bool} {j : Nat} : PE X (.Constant (.bool i) j pos) (cE X.K α Wx (xLit (.bool i))) := x_lit pe_bl fun _ => .bl i
theorem x_str {i : Str} {j : Nat} : PE X (.Constant (.str i) j pos) (cE X.K α Wx (xLit (.str i))) := x_lit pe_str fun _ => .str i
theorem x_non {j : Nat} : PE X (.Constant .none j pos) (cE X.K α Wx (xLit .none)) := x_lit pe_non fun _ => .non

def BinOk (K : PySem.W.Frag) (Wx : WX) (op : DV → DV → Wd → Rs DV) (r : R2) : Prop :=
  ∀ ι G H w σ x y dx dy Q, WS K ι G H w → RD K ι G x dx → RD K ι G y dy → PostE K Wx ι G H σ (op dx dy w) Q → r x y H Q
theorem bin_step {K : PySem.W.Frag} {op : DV → DV → Wd → Rs DV} {r : R2} (hr : BinOk K Wx op r) {σ : L2.St} {H : Hp} {Q : VK} (h : cE K α Wx (xBin op xa xb) σ H Q) : tOp r (cE K α Wx xa) (cE K α Wx xb) σ H Q := by
  obtain ⟨ι, G, w, env, s, ev, p⟩ := h
  refine ⟨ι, G, w, env, s, ev, PostE.bind p fun d1 w1 v1 ι1 G1 H1 _ e1 s1 r1 p1 => ⟨ι1, G1, w1, env, s1, ev.mono e1, PostE.bind p1 fun d2 w2 v2 ι2 G2 H2 _ e2 s2 r2 p2 => ?_⟩⟩
  exact hr ι2 G2 H2 w2 σ v1 v2 d1 d2 Q s2 (r1.mono e2) r2 p2
theorem x_bin {o : Operator} {op : DV → DV → Wd → Rs DV} {r : R2} (hr : BinOk X.K Wx op r) (ho : OpR X (binaryOp o) r) (ha : PE X a (cE X.K α Wx xa)) (hb : PE X b (cE X.K α Wx xb)) :
    PE X (.BinOp a o b pos) (cE X.K α Wx (xBin op xa xb)) := pe_imp (pe_op ho ha hb) fun _ _ _ h => bin_step hr h
theorem x_cmp {o : CmpOp} {op : DV → DV → Wd → Rs DV} {r : R2} (hr : BinOk X.K Wx op r) (ho : OpR X (compareOp o) r) (ha : PE X a (cE X.K α Wx xa)) (hb : PE X b (cE X.K α Wx xb)) (hm : behindInMarks o b = false) :
    PE X (.Compare a [o] [b] pos) (cE X.K α Wx (xBin op xa xb)) := pe_imp (pe_cmpR ho ha hb hm) fun _ _ _ h => bin_step hr h
theorem x_ix {op : DV → DV → Wd → Rs DV} {r : R2} (hr : BinOk X.K Wx op r) (ho : IxR X r) (ha : PE X a (cE X.K α Wx xa)) (hb : PE X b (cE X.K α Wx xb)) (hs : PlainIx b) :
    PE X (.Subscript a b pos) (cE X.K α Wx (xBin op xa xb)) := pe_imp (pe_ix ho ha hb hs) fun _ _ _ h => bin_step hr h
/-- tests -/
theorem t_cmp {o : CmpOp} {op : DV → DV → Wd → Rs DV} {r : R2} (hr : BinOk X.K Wx op r) (ho : OpR X (compareOp o) r) (ha : PE X a (cE X.K α Wx xa)) (hb : PE X b (cE X.K α Wx xb)) (hm : behindInMarks o b = false) :
    PT X (.Compare a [o] [b] pos) (cT X.K α Wx (xBin op xa xb)) := pt_imp (pt_cmpR ho ha hb hm) fun _ _ _ h => bin_step hr h
theorem t_val (h : PE X e (cE X.K α Wx xa)) (he : ∀ whole, isTrue e X.env whole = (do let v ← whole; standAt e.pos; holding [v] (truthy v)) := by intro _; rfl) : PT X e (cT X.K α Wx xa) := pt_val h he
theorem chain_step {K : PySem.W.Frag} {op op' : DV → DV → Wd → Rs DV} {r r' : R2} (hr : BinOk K Wx op r) (hr' : BinOk K Wx op' r') {σ : L2.St} {H : Hp} {Q : VK} (h : cE K α Wx (xChain op op' xa xb xc) σ H Q) :
    tChain r r' (cE K α Wx xa) (cE K α Wx xb) (cE K α Wx xc) σ H Q := by
  obtain ⟨ι, G, w, env, s, ev, p⟩ := h
  refine ⟨ι, G, w, env, s, ev, PostE.bind p fun d1 w1 v1 ι1 G1 H1 _ e1 s1 r1 p1 => ⟨ι1, G1, w1, env, s1, ev.mono e1, PostE.bind p1 fun d2 w2 v2 ι2 G2 H2 _ e2 s2 r2 p2 => ?_⟩⟩
  refine hr ι2 G2 H2 w2 σ v1 v2 d1 d2 _ s2 (r1.mono e2) r2 (PostE.bind p2 fun d3 w3 v3 ι3 G3 H3 _ e3 s3 r3 p3 => ?_)
  cases d3 with
  | loc l => exact p3.elim
  | exc c => exact p3.elim
  | d z =>
    cases z with
    | bool k =>
      cases r3
      cases k with
      | true =>
        refine ⟨true, rfl, ?_⟩
        rw [if_pos rfl]
        exact ⟨ι3, G3, w3, env, s3, ((ev.mono e1).mono e2).mono e3, PostE.bind p3 fun d4 w4 v4 ι4 G4 H4 _ e4 s4 r4 p4 => hr' ι4 G4 H4 w4 σ v2 v4 d2 d4 Q s4 ((r2.mono e3).mono e4) r4 p4⟩
      | false =>
        refine ⟨false, rfl, ?_⟩
        rw [if_neg Bool.false_ne_true]
        exact p3 _ ι3 G3 H3 .refl s3 (.bl false)
    | _ => exact p3.elim
theorem x_chain {o o' : CmpOp} {op op' : DV → DV → Wd → Rs DV} {r r' : R2} (hr : BinOk X.K Wx op r) (ho : OpR X (compareOp o) r) (hr' : BinOk X.K Wx op' r') (ho' : OpR X (compareOp o') r')
    (ha : PE X a (cE X.K α Wx xa)) (hb : PE X b (cE X.K α Wx xb)) (hc : PE X c (cE X.K α Wx xc)) (hm : lastMarks [o, o'] [b, c] = false := by rfl) : PE X (.Compare a [o, o'] [b, c] pos) (cE X.K α Wx (xChain op op' xa xb xc)) :=
  pe_imp (pe_chain ho ho' ha hb hc hm) fun _ _ _ h => chain_step hr hr' h
theorem t_chain {o o' : CmpOp} {op op' : DV → DV → Wd → Rs DV} {r r' : R2} (hr : BinOk X.K Wx op r) (ho : OpR X (compareOp o) r) (hr' : BinOk X.K Wx op' r') (ho' : OpR X (compareOp o') r')
    (ha : PE X a (cE X.K α Wx xa)) (hb : PE X b (cE X.K α Wx xb)) (hc : PE X c (cE X.K α Wx xc)) (hm : lastMarks [o, o'] [b, c] = false := by rfl) : PT X (.Compare a [o, o'] [b, c] pos) (cT X.K α Wx (xChain op op' xa xb xc)) :=
  pt_imp (pt_chain ho ho' ha hb hc hm) fun _ _ _ h => chain_step hr hr' h

/-! and, or, not -/
theorem and_post {K : PySem.W.Frag} {σ : L2.St} {H : Hp} {Q : VK} (h : cE K α Wx (xAnd xa xb) σ H Q) : tAndV (cE K α Wx xa) (cE K α Wx xb) σ H Q := by
  obtain ⟨ι, G, w, env, s, ev, p⟩ := h
  refine ⟨ι, G, w, env, s, ev, PostE.bind p fun d1 w1 v1 ι1 G1 H1 _ e1 s1 r1 p1 => ?_⟩
  cases d1 with
  | loc l => exact p1.elim
  | exc c => exact p1.elim
  | d z =>
    cases z with
    | bool k =>
      cases r1
      cases k with
      | true =>
        refine ⟨true, rfl, ?_⟩
        rw [if_pos rfl]
        exact ⟨ι1, G1, w1, env, s1, ev.mono e1, p1⟩
      | false =>
        refine ⟨false, rfl, ?_⟩
        rw [if_neg Bool.false_ne_true]
        exact p1 _ ι1 G1 H1 .refl s1 (.bl false)
    | _ => exact p1.elim
theorem or_post {K : PySem.W.Frag} {σ : L2.St} {H : Hp} {Q : VK} (h : cE K α Wx (xOr xa xb) σ H Q) : tOrV (cE K α Wx xa) (cE K α Wx xb) σ H Q := by
  obtain ⟨ι, G, w, env, s, ev, p⟩ := h
  refine ⟨ι, G, w, env, s, ev, PostE.bind p fun d1 w1 v1 ι1 G1 H1 _ e1 s1 r1 p1 => ?_⟩
  cases d1 with
  | loc l => exact p1.elim
  | exc c => exact p1.elim
  | d z =>
    cases z with
    | bool k =>
      cases r1
      cases k with
      | true =>
        refine ⟨true, rfl, ?_⟩
        rw [if_pos rfl]
        exact p1 _ ι1 G1 H1 .refl s1 (.bl true)
      | false =>
        refine ⟨false, rfl, ?_⟩
        rw [if_neg Bool.false_ne_true]
        exact ⟨ι1, G1, w1, env, s1, ev.mono e1, p1⟩
    | _ => exact p1.elim
theorem not_post {K : PySem.W.Frag} {σ : L2.St} {H : Hp} {Q : VK} (h : cE K α Wx (xNot xa) σ H Q) : tNotV (cE K α Wx xa) σ H Q := by
  obtain ⟨ι, G, w, env, s, ev, p⟩ := h
  refine ⟨ι, G, w, env, s, ev, PostE.bind p fun d1 w1 v1 ι1 G1 H1 _ e1 s1 r1 p1 => ?_⟩
  cases d1 with
  | loc l => exact p1.elim
  | exc c => exact p1.elim
  | d z =>
    cases z with
    | bool k =>
      cases r1
      exact ⟨k, rfl, p1 _ ι1 G1 H1 .refl s1 (.bl _)⟩
    | _ => exact p1.elim
variable {op : BoolOp} {rest : List Expr}
theorem x_one (h : PE X a (cE X.K α Wx xa)) : PE X (.BoolOp op [a] pos) (cE X.K α Wx xa) := pe_one h
theorem x_and (ha : PE X a (cE X.K α Wx xa)) (hb : PE X (.BoolOp .And (b :: rest) pos) (cE X.K α Wx xb)) : PE X (.BoolOp .And (a :: b :: rest) pos) (cE X.K α Wx (xAnd xa xb)) := pe_imp (pe_and ha hb) fun _ _ _ h => and_post h
theorem x_or (ha : PE X a (cE X.K α Wx xa)) (hb : PE X (.BoolOp .Or (b :: rest) pos) (cE X.K α Wx xb)) : PE X (.BoolOp .Or (a :: b :: rest) pos) (cE X.K α Wx (xOr xa xb)) := pe_imp (pe_or ha hb) fun _ _ _ h => or_post h
theorem x_not (ha : PE X a (cE X.K α Wx xa)) : PE X (.UnaryOp .Not a pos) (cE X.K α Wx (xNot xa)) := pe_imp (pe_not ha) fun _ _ _ h => not_post h
theorem tAnd_of {K : PySem.W.Frag} {σ : L2.St} {H : Hp} {Q : Bool → Hp → Prop} (h : cT K α Wx (xAnd xa xb) σ H Q) : tAnd (cT K α Wx xa) (cT K α Wx xb) σ H Q := by
  obtain ⟨ι, G, w, env, s, ev, p⟩ := h
  refine ⟨ι, G, w, env, s, ev, PostE.bind p fun d1 w1 v1 ι1 G1 H1 _ e1 s1 r1 p1 => ?_⟩
  cases d1 with
  | loc l => exact p1.elim
  | exc c => exact p1.elim
  | d z =>
    cases z with
    | bool k =>
      cases r1
      refine ⟨k, rfl, ?_⟩
      cases k with
      | true =>
        rw [if_pos rfl]
        exact ⟨ι1, G1, w1, env, s1, ev.mono e1, p1⟩
      | false =>
        rw [if_neg Bool.false_ne_true]
        obtain ⟨c, hc, q⟩ := p1 _ ι1 G1 H1 .refl s1 (.bl false)
        cases hc
        exact q
    | _ => exact p1.elim
theorem tOr_of {K : PySem.W.Frag} {σ : L2.St} {H : Hp} {Q : Bool → Hp → Prop} (h : cT K α Wx (xOr xa xb) σ H Q) : tOr (cT K α Wx xa) (cT K α Wx xb) σ H Q := by
  obtain ⟨ι, G, w, env, s, ev, p⟩ := h
  refine ⟨ι, G, w, env, s, ev, PostE.bind p fun d1 w1 v1 ι1 G1 H1 _ e1 s1 r1 p1 => ?_⟩
  cases d1 with
  | loc l => exact p1.elim
  | exc c => exact p1.elim
  | d z =>
    cases z with
    | bool k =>
      cases r1
      refine ⟨k, rfl, ?_⟩
      cases k with
      | true =>
        rw [if_pos rfl]
        obtain ⟨c, hc, q⟩ := p1 _ ι1 G1 H1 .refl s1 (.bl true)
        cases hc
        exact q
      | false =>
        rw [if_neg Bool.false_ne_true]
        exact ⟨ι1, G1, w1, env, s1, ev.mono e1, p1⟩
    | _ => exact p1.elim
theorem tNot_of {K : PySem.W.Frag} {σ : L2.St} {H : Hp} {Q : Bool → Hp → Prop} (h : cT K α Wx (xNot xa) σ H Q) : tNot (cT K α Wx xa) σ H Q := by
  obtain ⟨ι, G, w, env, s, ev, p⟩ := h
  refine ⟨ι, G, w, env, s, ev, PostE.bind p fun d1 w1 v1 ι1 G1 H1 _ e1 s1 r1 p1 => ?_⟩
  cases d1 with
  | loc l => exact p1.elim
  | exc c => exact p1.elim
  | d z =>
    cases z with
    | bool k =>
      cases r1
      refine ⟨k, rfl, ?_⟩
      obtain ⟨c, hc, q⟩ := p1 _ ι1 G1 H1 .refl s1 (.bl (!k))
      cases hc
      exact q
    | _ => exact p1.elim
theorem w_and1 (h : PT X a (cT X.K α Wx xa)) : PW X (.BoolOp .And [a] pos) (cT X.K α Wx xa) := pw_and1 h
theorem w_or1 (h : PT X a (cT X.K α Wx xa)) : PW X (.BoolOp .Or [a] pos) (cT X.K α Wx xa) := pw_or1 h
theorem w_and (ha : PT X a (cT X.K α Wx xa)) (hb : PW X (.BoolOp .And (b :: rest) pos) (cT X.K α Wx xb)) : PW X (.BoolOp .And (a :: b :: rest) pos) (cT X.K α Wx (xAnd xa xb)) := pw_imp (pw_and ha hb) fun _ _ _ h => tAnd_of h
theorem w_or (ha : PT X a (cT X.K α Wx xa)) (hb : PW X (.BoolOp .Or (b :: rest) pos) (cT X.K α Wx xb)) : PW X (.BoolOp .Or (a :: b :: rest) pos) (cT X.K α Wx (xOr xa xb)) := pw_imp (pw_or ha hb) fun _ _ _ h => tOr_of h
theorem t_not (ha : PT X a (cT X.K α Wx xa)) : PT X (.UnaryOp .Not a pos) (cT X.K α Wx (xNot xa)) := pt_imp (pt_not ha) fun _ _ _ h => tNot_of h

/-! arguments, displays -/
theorem a_nil : PA X [] (cA X.K α Wx xNil) := pa_imp pa_nil fun σ H Q ⟨ι, G, w, env, s, ev, p⟩ => p [] ι G H .refl s .nil
theorem a_cons (ha : PE X a (cE X.K α Wx xa)) (hr : PA X es (cA X.K α Wx xs)) (hs : starEach (a :: es) X.env = (false, eval a X.env) :: starEach es X.env := by rfl) : PA X (a :: es) (cA X.K α Wx (xCons xa xs)) :=
  pa_imp (pa_cons ha hr hs) fun σ H Q ⟨ι, G, w, env, s, ev, p⟩ => ⟨ι, G, w, env, s, ev, PostE.bindA p fun d1 w1 v1 ι1 G1 H1 _ e1 s1 r1 p1 => ⟨ι1, G1, w1, env, s1, ev.mono e1, PostA.bindA p1 fun d2 w2 v2 ι2 G2 H2 _ e2 s2 r2 p2 =>
    p2 (v1 :: v2) ι2 G2 H2 .refl s2 (.cons (r1.mono e2) r2)⟩⟩
end
theorem all_dp {K : PySem.W.Frag} {ι : List Addr} {G : Hp} : ∀ {vs : List V} {xs : List DV} {ds : List PyData}, RDs K ι G vs xs → allD xs = some ds → DpAll K G vs ds
  | _, [], ds, .nil, h => by
    simp only [allD, Option.some.injEq] at h
    subst h
    exact .nil
  | _, .d x :: r, ds, .cons r1 r2, h => by
    simp only [allD] at h
    cases q : allD r with
    | none => rw [q] at h; cases h
    | some ys =>
      rw [q] at h
      simp only [Option.map_some, Option.some.injEq] at h
      subst h
      exact .cons r1 (all_dp r2 q)
  | _, .loc l :: r, ds, _, h => by simp only [allD] at h; cases h
  | _, .exc l :: r, ds, _, h => by simp only [allD] at h; cases h
theorem dps_len {K : PySem.W.Frag} {G : Hp} : ∀ {vs : List V} {ds : List PyData}, DpAll K G vs ds → vs.length = ds.length
  | _, [], h => by cases h; rfl
  | _, d :: ds, h => by
    cases h with
    | cons h1 h2 => simp [dps_len h2]
theorem rds_len {K : PySem.W.Frag} {ι : List Addr} {G : Hp} {vs : List V} {xs : List DV} (r : RDs K ι G vs xs) : vs.length = xs.length := Paired.length r
section
variable {X : Cx} {α : Addr × Str} {Wx : WX} {a b c e : Expr} {es : List Expr} {xa xb xc : XM} {xs : AM} {pos : Pos}
theorem x_tup {x1} (h : PA X es (cA X.K α Wx xs)) : PE X (.Tuple es x1 pos) (cE X.K α Wx (xTup xs)) :=
  pe_imp (pe_tup h) fun σ H Q ⟨ι, G, w, env, s, ev, p⟩ => ⟨ι, G, w, env, s, ev, PostA.bind p fun d1 w1 v1 ι1 G1 H1 _ e1 s1 r1 p1 => by
    cases q : allD d1 with
    | none => rw [q] at p1; exact p1.elim
    | some ds =>
      rw [q] at p1
      simp only at p1
      split at p1
      · rename_i hl
        have hd := all_dp r1 q
        refine ⟨Evl.sz_of (by rw [dps_len hd]; exact hl), fun r hr => ?_⟩
        exact p1 (.ref r) ι1 _ _ (Evo.newD s1.sub hr) (s1.newD hr) (.tup (Evl.st_of upd_same) (dp_monos (Evl.Ex.new (Evl.fresh_back s1.sub hr)) _ _ hd))
      · exact p1.elim⟩
theorem x_lst (h : PA X es (cA X.K α Wx xs)) : PE X (.List es pos) (cE X.K α Wx (xLst xs)) :=
  pe_imp (pe_lst h) fun σ H Q ⟨ι, G, w, env, s, ev, p⟩ => ⟨ι, G, w, env, s, ev, PostA.bind p fun d1 w1 v1 ι1 G1 H1 _ e1 s1 r1 p1 => by
    cases q : allD d1 with
    | none => rw [q] at p1; exact p1.elim
    | some ds =>
      rw [q] at p1
      simp only at p1
      split at p1
      · rename_i hl
        have hd := all_dp r1 q
        refine ⟨Evl.sz_of (by rw [dps_len hd]; exact hl), fun r hr => ?_⟩
        exact p1 (.ref r) ι1 _ _ (Evo.newD s1.sub hr) (s1.newD hr) (.lst (Evl.sq_of upd_same) (dp_monos (Evl.Ex.new (Evl.fresh_back s1.sub hr)) _ _ hd))
      · exact p1.elim⟩
theorem loc_new {K : PySem.W.Frag} {ι : List Addr} {p : Addr} {G H : Hp} {w : Wd} (s : WS K ι G H w) : RD K (ι ++ [p]) G (.ref p) (.loc w.length) := ⟨p, by rw [← s.len]; simp, rfl⟩
theorem x_lstS (h : PA X es (cA X.K α Wx xs)) : PE X (.List es pos) (cE X.K α Wx (xLstS xs)) :=
  pe_imp (pe_lst h) fun σ H Q ⟨ι, G, w, env, s, ev, p⟩ => ⟨ι, G, w, env, s, ev, PostA.bind p fun d1 w1 v1 ι1 G1 H1 _ e1 s1 r1 p1 => by
    split at p1
    · rename_i hl
      refine ⟨Evl.sz_of (by rw [rds_len r1]; exact hl), fun r hr => ?_⟩
      have E : Evo ι1 G1 H1 (ι1 ++ [r]) G1 (upd H1 r (.lst v1)) := Evo.newL hr
      exact p1 (.ref r) _ _ _ E (s1.newL hr ⟨v1, rfl, RDs.mono E r1⟩) (loc_new s1)
    · exact p1.elim⟩
theorem x_tupS {x1} (h : PA X es (cA X.K α Wx xs)) : PE X (.Tuple es x1 pos) (cE X.K α Wx (xTupS xs)) :=
  pe_imp (pe_tup h) fun σ H Q ⟨ι, G, w, env, s, ev, p⟩ => ⟨ι, G, w, env, s, ev, PostA.bind p fun d1 w1 v1 ι1 G1 H1 _ e1 s1 r1 p1 => by
    split at p1
    · rename_i hl
      refine ⟨Evl.sz_of (by rw [rds_len r1]; exact hl), fun r hr => ?_⟩
      have E : Evo ι1 G1 H1 (ι1 ++ [r]) G1 (upd H1 r (.tup v1)) := Evo.newL hr
      exact p1 (.ref r) _ _ _ E (s1.newL hr ⟨v1, rfl, RDs.mono E r1⟩) (loc_new s1)
    · exact p1.elim⟩

/-! operators -/
theorem ok_oI {C : Int → Int → Bool} {P : Int → Int → Prop} {g : Int → Int → PyData} {g' : Int → Int → V} {K : PySem.W.Frag} (hc : ∀ i j, C i j = true → P i j) (hg : ∀ G i j, Dp K G (g' i j) (g i j)) : BinOk K Wx (oI C g) (rI P g') := by
  intro ι G H w σ x y dx dy Q s rx ry p
  unfold oI at p
  split at p
  · split at p
    · rename_i i j hC
      cases rx; cases ry
      exact ⟨i, j, rfl, rfl, hc i j hC, p _ ι G H .refl s (hg G i j)⟩
    · exact p.elim
  · exact p.elim
theorem ok_oI0 {C : Int → Int → Bool} {g : Int → Int → PyData} {g' : Int → Int → V} {K : PySem.W.Frag} (hg : ∀ G i j, Dp K G (g' i j) (g i j)) : BinOk K Wx (oI C g) (rI0 g') := by
  intro ι G H w σ x y dx dy Q s rx ry p
  unfold oI at p
  split at p
  · split at p
    · rename_i i j hC
      cases rx; cases ry
      exact ⟨i, j, rfl, rfl, p _ ι G H .refl s (hg G i j)⟩
    · exact p.elim
  · exact p.elim
end
section
variable {X : Cx} {α : Addr × Str} {Wx : WX} {a b c e : Expr} {es : List Expr} {xa xb xc : XM} {xs : AM} {pos : Pos}
theorem x_add (ha : PE X a (cE X.K α Wx xa)) (hb : PE X b (cE X.K α Wx xb)) : PE X (.BinOp a .Add b pos) (cE X.K α Wx (xBin oAdd xa xb)) := x_bin (ok_oI0 fun _ _ _ => .int _) op_add ha hb
theorem x_sub (ha : PE X a (cE X.K α Wx xa)) (hb : PE X b (cE X.K α Wx xb)) : PE X (.BinOp a .Sub b pos) (cE X.K α Wx (xBin oSub xa xb)) := x_bin (ok_oI0 fun _ _ _ => .int _) op_sub ha hb
theorem x_mul (ha : PE X a (cE X.K α Wx xa)) (hb : PE X b (cE X.K α Wx xb)) : PE X (.BinOp a .Mult b pos) (cE X.K α Wx (xBin oMul xa xb)) := x_bin (ok_oI (fun i j h => by
  simp only [Bool.or_eq_true, Bool.and_eq_true, decide_eq_true_eq] at h
  exact h) fun _ _ _ => .int _) op_mul ha hb
theorem x_div (ha : PE X a (cE X.K α Wx xa)) (hb : PE X b (cE X.K α Wx xb)) : PE X (.BinOp a .FloorDiv b pos) (cE X.K α Wx (xBin oDiv xa xb)) := x_bin (ok_oI (fun i j h => by
  simp only [Bool.and_eq_true, decide_eq_true_eq] at h
  exact h) fun _ _ _ => .int _) op_fdiv ha hb
theorem x_mod (ha : PE X a (cE X.K α Wx xa)) (hb : PE X b (cE X.K α Wx xb)) : PE X (.BinOp a .Mod b pos) (cE X.K α Wx (xBin oMod xa xb)) := x_bin (ok_oI (fun i j h => by
  simp only [decide_eq_true_eq] at h
  exact h) fun _ _ _ => .int _) op_mod ha hb
theorem x_pow (ha : PE X a (cE X.K α Wx xa)) (hb : PE X b (cE X.K α Wx xb)) : PE X (.BinOp a .Pow b pos) (cE X.K α Wx (xBin oPow xa xb)) := x_bin (ok_oI (fun i j h => by
  simp only [Bool.and_eq_true, decide_eq_true_eq] at h
  exact h) fun _ _ _ => .int _) op_pow ha hb
theorem k_lt {K : PySem.W.Frag} : BinOk K Wx oLt (rI0 fun i j => .bl (decide (i < j))) := ok_oI0 fun _ _ _ => .bl _
theorem k_le {K : PySem.W.Frag} : BinOk K Wx oLe (rI0 fun i j => .bl (decide (i ≤ j))) := ok_oI0 fun _ _ _ => .bl _
theorem k_gt {K : PySem.W.Frag} : BinOk K Wx oGt (rI0 fun i j => .bl (decide (j < i))) := ok_oI0 fun _ _ _ => .bl _
theorem k_ge {K : PySem.W.Frag} : BinOk K Wx oGe (rI0 fun i j => .bl (decide (j ≤ i))) := ok_oI0 fun _ _ _ => .bl _
theorem k_eq {K : PySem.W.Frag} : BinOk K Wx oEq (rEqD K) := by
  intro ι G H w σ x y dx dy Q s rx ry p
  unfold oEq at p
  split at p
  · rename_i d1 d2 h1 h2
    split at p
    · rename_i hs
      obtain ⟨s1, s2⟩ := Bool.and_eq_true_iff.mp hs
      exact ⟨_, _, dp_toDH s rx h1, dp_toDH s ry h2, s1, s2, p _ ι G H .refl s (.bl _)⟩
    · exact p.elim
  · exact p.elim
theorem k_ne {K : PySem.W.Frag} : BinOk K Wx oNe (rNeD K) := by
  intro ι G H w σ x y dx dy Q s rx ry p
  unfold oNe at p
  split at p
  · rename_i d1 d2 h1 h2
    split at p
    · rename_i hs
      obtain ⟨s1, s2⟩ := Bool.and_eq_true_iff.mp hs
      exact ⟨_, _, dp_toDH s rx h1, dp_toDH s ry h2, s1, s2, p _ ι G H .refl s (.bl _)⟩
    · exact p.elim
  · exact p.elim
theorem isNon_iff {K : PySem.W.Frag} {ι : List Addr} {G : Hp} {x : V} {d : DV} (r : RD K ι G x d) (he : ∀ c, d ≠ .exc c) : decide (x = .non) = isNon d := by
  cases d with
  | d y =>
    cases y <;> cases r <;> simp [isNon]
  | loc l => obtain ⟨a, _, rfl⟩ := r; simp [isNon]
  | exc c => exact absurd rfl (he c)
theorem isNon_iff' {K : PySem.W.Frag} {ι : List Addr} {G : Hp} {x : V} {d : DV} (r : RD K ι G x d) : decide (x = .non) = isNon d := by
  cases d with
  | exc c => exact r.elim
  | d y => exact isNon_iff r fun c z => nomatch z
  | loc l => exact isNon_iff r fun c z => nomatch z
theorem k_isN {K : PySem.W.Frag} : BinOk K Wx oIsN (fun x y H Q => y = .non ∧ Q (.bl (decide (x = .non))) H) := by
  intro ι G H w σ x y dx dy Q s rx ry p
  unfold oIsN at p
  split at p
  · cases ry
    refine ⟨rfl, ?_⟩
    rw [isNon_iff' rx]
    exact p _ ι G H .refl s (.bl _)
  · exact p.elim
theorem k_notN {K : PySem.W.Frag} : BinOk K Wx oNotN (fun x y H Q => y = .non ∧ Q (.bl (!decide (x = .non))) H) := by
  intro ι G H w σ x y dx dy Q s rx ry p
  unfold oNotN at p
  split at p
  · cases ry
    refine ⟨rfl, ?_⟩
    rw [isNon_iff' rx]
    exact p _ ι G H .refl s (.bl _)
  · exact p.elim
theorem dps_at {K : PySem.W.Frag} {G : Hp} : ∀ {vs : List V} {ds : List PyData} {i : Nat} {d : PyData}, DpAll K G vs ds → ds[i]? = some d → ∃ v, vs[i]? = some v ∧ Dp K G v d
  | _, [], _, _, h, e => by cases e
  | _, d :: ds, 0, _, h, e => by
    cases h with
    | cons h1 h2 =>
      simp only [List.getElem?_cons_zero, Option.some.injEq] at e
      subst e
      exact ⟨_, rfl, h1⟩
  | _, d :: ds, i + 1, _, h, e => by
    cases h with
    | cons h1 h2 =>
      obtain ⟨v, e1, e2⟩ := dps_at (i := i) h2 (by simpa using e)
      exact ⟨v, by simpa using e1, e2⟩
theorem dps_atI {K : PySem.W.Frag} {G : Hp} {vs : List V} {ds : List PyData} {i : Int} {d : PyData} (h : DpAll K G vs ds) (e : atI ds i = some d) : ∃ v, atI vs i = some v ∧ Dp K G v d := by
  unfold atI at e ⊢
  rw [dps_len h]
  cases q : ixN ds.length i with
  | none => rw [q] at e; cases e
  | some j =>
    rw [q] at e
    exact dps_at h e
theorem rds_at {K : PySem.W.Frag} {ι : List Addr} {G : Hp} : ∀ {vs : List V} {ds : List DV} {i : Nat} {d : DV}, RDs K ι G vs ds → ds[i]? = some d → ∃ v, vs[i]? = some v ∧ RD K ι G v d
  | _, _, _, _, .nil, e => by simp at e
  | _, _, 0, _, .cons h1 h2, e => by
    simp only [List.getElem?_cons_zero, Option.some.injEq] at e
    subst e
    exact ⟨_, rfl, h1⟩
  | _, _, i + 1, _, .cons h1 h2, e => by
    obtain ⟨v, e1, e2⟩ := rds_at (i := i) h2 (by simpa using e)
    exact ⟨v, by simpa using e1, e2⟩
theorem rds_atI {K : PySem.W.Frag} {ι : List Addr} {G : Hp} {vs : List V} {ds : List DV} {i : Int} {d : DV} (h : RDs K ι G vs ds) (e : atI ds i = some d) : ∃ v, atI vs i = some v ∧ RD K ι G v d := by
  unfold atI at e ⊢
  rw [rds_len h]
  cases q : ixN ds.length i with
  | none => rw [q] at e; cases e
  | some j =>
    rw [q] at e
    exact rds_at h e
theorem k_ixL {K : PySem.W.Frag} : BinOk K Wx oIxL (rIxL K) := by
  intro ι G H w σ x y dx dy Q s rx ry p
  unfold oIxL at p
  split at p
  · rename_i ds i
    cases ry
    cases q : atI ds i with
    | none => rw [q] at p; exact p.elim
    | some d =>
      rw [q] at p
      cases rx with
      | lst hs ha =>
        obtain ⟨v, h1, h2⟩ := dps_atI ha q
        exact ⟨_, _, i, v, rfl, rfl, Evl.ex_l s.sub hs, h1, p v ι G H .refl s h2⟩
  · rename_i l i
    cases ry
    obtain ⟨a, h1, rfl⟩ := rx
    cases q : w[l]? with
    | none => rw [q] at p; exact p.elim
    | some o =>
      rw [q] at p
      cases o with
      | lst xs =>
        simp only at p
        cases q2 : atI xs i with
        | none => rw [q2] at p; exact p.elim
        | some d =>
          rw [q2] at p
          obtain ⟨vs, e1, e2⟩ := s.ob l a _ h1 q
          obtain ⟨v, f1, f2⟩ := rds_atI e2 q2
          exact ⟨a, vs, i, v, rfl, rfl, Evl.sq_of e1, f1, p v ι G H .refl s f2⟩
      | _ => exact p.elim
  · exact p.elim
theorem k_ixT {K : PySem.W.Frag} : BinOk K Wx oIxT (rIxT K) := by
  intro ι G H w σ x y dx dy Q s rx ry p
  unfold oIxT at p
  split at p
  · rename_i ds i
    cases ry
    cases q : atI ds i with
    | none => rw [q] at p; exact p.elim
    | some d =>
      rw [q] at p
      cases rx with
      | tup hs ha =>
        obtain ⟨v, h1, h2⟩ := dps_atI ha q
        exact ⟨_, _, i, v, rfl, rfl, Evl.ex_t s.sub hs, h1, p v ι G H .refl s h2⟩
  · rename_i l i
    cases ry
    obtain ⟨a, h1, rfl⟩ := rx
    cases q : w[l]? with
    | none => rw [q] at p; exact p.elim
    | some o =>
      rw [q] at p
      cases o with
      | tup xs =>
        simp only at p
        cases q2 : atI xs i with
        | none => rw [q2] at p; exact p.elim
        | some d =>
          rw [q2] at p
          obtain ⟨vs, e1, e2⟩ := s.ob l a _ h1 q
          obtain ⟨v, f1, f2⟩ := rds_atI e2 q2
          exact ⟨a, vs, i, v, rfl, rfl, Evl.st_of e1, f1, p v ι G H .refl s f2⟩
      | _ => exact p.elim
  · exact p.elim
theorem k_ixS {K : PySem.W.Frag} : BinOk K Wx oIxS rIxS := by
  intro ι G H w σ x y dx dy Q s rx ry p
  unfold oIxS at p
  split at p
  · rename_i z i
    cases rx; cases ry
    split at p
    · rename_i hz
      cases q : atI z.cps.toList i with
      | none => rw [q] at p; exact p.elim
      | some c =>
        rw [q] at p
        exact ⟨z, i, c, rfl, rfl, Evl.sz_of hz, q, p _ ι G H .refl s (.str _)⟩
    · exact p.elim
  · exact p.elim
theorem k_addS {K : PySem.W.Frag} : BinOk K Wx oAddS (fun x y H Q => ∃ i j, x = .str i ∧ y = .str j ∧ i.length + j.length ≤ sizeLine ∧ Q (.str (i ++ j)) H) := by
  intro ι G H w σ x y dx dy Q s rx ry p
  unfold oAddS at p
  split at p
  · rename_i x z
    cases rx; cases ry
    split at p
    · rename_i hz
      exact ⟨x, z, rfl, rfl, Evl.sz_of hz, p _ ι G H .refl s (.str _)⟩
    · exact p.elim
  · exact p.elim
end
end RK

set_option Elab.async false
set_option linter.all false
set_option maxRecDepth 100000
set_option maxHeartbeats 4000000
/-! RKit, part C: statements, loops, defs and their calls, exceptions. -/
namespace RK
open PySem PySem.Spec PyProof.Rows L2

section
variable {K : PySem.W.Frag} {α : Addr × Str} {Wx : WX} {ι ι' : List Addr} {G G' H H' : Hp} {w w' : Wd} {σ : L2.St} {D D' : Ends}
def PostS (K : PySem.W.Frag) (α : Addr × Str) (Wx : WX) (ι : List Addr) (G H : Hp) (r : Rt) (D : Ends) : Prop :=
  match r with
  | .ok (.nx e) w' => ∀ σ' ι' G' H', Evo ι G H ι' G' H' → WS K ι' G' H' w' → EnvR K α ι' G' σ' e → D.nx σ' H'
  | .ok (.rt d) w' => ∀ v ι' G' H', Evo ι G H ι' G' H' → WS K ι' G' H' w' → RD K ι' G' v d → D.rt v H'
  | .ok (.bk e) w' => ∀ σ' ι' G' H', Evo ι G H ι' G' H' → WS K ι' G' H' w' → EnvR K α ι' G' σ' e → D.bk σ' H'
  | .ok (.ct e) w' => ∀ σ' ι' G' H', Evo ι G H ι' G' H' → WS K ι' G' H' w' → EnvR K α ι' G' σ' e → D.ct σ' H'
  | .ex c e w' => ∀ σ' ι' G' H', Evo ι G H ι' G' H' → WS K ι' G' H' w' → EnvR K α ι' G' σ' e → Wx (.ref (He.ga K c)) none σ' H'
  | .bad => False
def cS (K : PySem.W.Frag) (α : Addr × Str) (Wx : WX) (s : SM) : TS := fun D σ H => ∃ ι G w env, WS K ι G H w ∧ EnvR K α ι G σ env ∧ PostS K α Wx ι G H (s env w) D
theorem PostS.mono {r : Rt} (e : Evo ι G H ι' G' H') (p : PostS K α Wx ι G H r D) : PostS K α Wx ι' G' H' r D := by
  cases r with
  | ok c w => cases c with
    | nx n => exact fun v i2 G2 H2 e2 s r => p v i2 G2 H2 (e.trans e2) s r
    | rt n => exact fun v i2 G2 H2 e2 s r => p v i2 G2 H2 (e.trans e2) s r
    | bk n => exact fun v i2 G2 H2 e2 s r => p v i2 G2 H2 (e.trans e2) s r
    | ct n => exact fun v i2 G2 H2 e2 s r => p v i2 G2 H2 (e.trans e2) s r
  | ex c n w => exact fun v i2 G2 H2 e2 s r => p v i2 G2 H2 (e.trans e2) s r
  | bad => exact p
/-- an expression's result in a statement -/
def Rs.st {β : Type} (r : Rs β) (e : En) (f : β → Wd → Rt) : Rt :=
  match r with
  | .ok d w => f d w
  | .ex c w => .ex c e w
  | .bad => .bad
theorem PostS.st {r : Rs DV} {f : DV → Wd → Rt} {env : En} {Q : VK} (p : PostS K α Wx ι G H (r.st env f) D) (ev : EnvR K α ι G σ env)
    (k : ∀ d w' v ι' G' H', r = .ok d w' → Evo ι G H ι' G' H' → WS K ι' G' H' w' → RD K ι' G' v d → PostS K α Wx ι' G' H' (f d w') D → Q v H') : PostE K Wx ι G H σ r Q := by
  cases r with
  | ok d w => exact fun v i2 G2 H2 e2 s r => k d w v i2 G2 H2 rfl e2 s r (PostS.mono e2 p)
  | ex c w => exact fun i2 G2 H2 e2 s => p σ i2 G2 H2 e2 s (ev.mono e2)
  | bad => exact p
theorem PostS.stA {r : Rs (List DV)} {f : List DV → Wd → Rt} {env : En} {Q : List V → Hp → Prop} (p : PostS K α Wx ι G H (r.st env f) D) (ev : EnvR K α ι G σ env)
    (k : ∀ d w' v ι' G' H', r = .ok d w' → Evo ι G H ι' G' H' → WS K ι' G' H' w' → RDs K ι' G' v d → PostS K α Wx ι' G' H' (f d w') D → Q v H') : PostA K Wx ι G H σ r Q := by
  cases r with
  | ok d w => exact fun v i2 G2 H2 e2 s r => k d w v i2 G2 H2 rfl e2 s r (PostS.mono e2 p)
  | ex c w => exact fun i2 G2 H2 e2 s => p σ i2 G2 H2 e2 s (ev.mono e2)
  | bad => exact p
end

/-! ### the machine's statements -/
def sSet (i : Nat) (x : XM) : SM := fun e w => (x e w).st e fun d w1 => .ok (.nx (e.set i (some d))) w1
def sRet (x : XM) : SM := fun e w => (x e w).st e fun d w1 => .ok (.rt d) w1
def sExp (x : XM) : SM := fun e w => (x e w).st e fun _ w1 => .ok (.nx e) w1
def sIf (x : XM) (s t : SM) : SM := fun e w => (x e w).st e fun d w1 => match d with
  | .d (.bool p) => if p = true then s e w1 else t e w1
  | _ => .bad
def sNil : SM := fun e w => .ok (.nx e) w
def sCt : SM := fun e w => .ok (.ct e) w
def sBk : SM := fun e w => .ok (.bk e) w
def sSeq (s t : SM) : SM := fun e w => match s e w with
  | .ok (.nx e1) w1 => t e1 w1
  | r => r
def sRaise (c : Str) : SM := fun e w => .ex c e w
def whileF (x : XM) (s : SM) : Nat → En → Wd → Rt
  | 0, _, _ => .bad
  | n + 1, e, w => (x e w).st e fun d w1 => match d with
    | .d (.bool p) => if p = true then (match s e w1 with
      | .ok (.nx e2) w2 => whileF x s n e2 w2
      | .ok (.ct e2) w2 => whileF x s n e2 w2
      | .ok (.bk e2) w2 => .ok (.nx e2) w2
      | .ok (.rt d) w2 => .ok (.rt d) w2
      | .ex c e2 w2 => .ex c e2 w2
      | .bad => .bad) else .ok (.nx e) w1
    | _ => .bad
def sWhile (n : Nat) (x : XM) (s : SM) : SM := whileF x s n
/-- a loop's target -/
abbrev TgM := DV → En → Wd → Option En
def gNm (j : Nat) : TgM := fun d e _ => some (e.set j (some d))
/-- over plain data -/
def forD (g : TgM) (s : SM) : List PyData → En → Wd → Rt
  | [], e, w => .ok (.nx e) w
  | d :: ds, e, w => match g (.d d) e w with
    | none => .bad
    | some e1 => match s e1 w with
      | .ok (.nx e2) w2 => forD g s ds e2 w2
      | .ok (.ct e2) w2 => forD g s ds e2 w2
      | .ok (.bk e2) w2 => .ok (.nx e2) w2
      | .ok (.rt d) w2 => .ok (.rt d) w2
      | .ex c e2 w2 => .ex c e2 w2
      | .bad => .bad
open Classical in
/-- over a list of the store, which the body leaves as it is -/
noncomputable def forL (g : TgM) (s : SM) (l : Nat) (all : List DV) : List DV → En → Wd → Rt
  | [], e, w => if w[l]? = some (.lst all) then .ok (.nx e) w else .bad
  | d :: ds, e, w => if w[l]? = some (.lst all) then (match g d e w with
    | none => .bad
    | some e1 => match s e1 w with
      | .ok (.nx e2) w2 => forL g s l all ds e2 w2
      | .ok (.ct e2) w2 => forL g s l all ds e2 w2
      | .ok (.bk e2) w2 => .ok (.nx e2) w2
      | .ok (.rt d) w2 => .ok (.rt d) w2
      | .ex c e2 w2 => .ex c e2 w2
      | .bad => .bad) else .bad
noncomputable def sFor (g : TgM) (x : XM) (s : SM) : SM := fun e w => (x e w).st e fun d w1 => match d with
  | .d (.list ds) => forD g s ds e w1
  | .loc l => match w1[l]? with
    | some (.lst xs) => forL g s l xs xs e w1
    | _ => .bad
  | _ => .bad
def rngD (lo : Int) (n : Nat) : List PyData := (List.range n).map fun (k : Nat) => .int (lo + (k : Int))
def okR (i : Int) : Bool := decide (-(2 ^ 62) ≤ i) && decide (i < 2 ^ 62)
def sForR1 (j : Nat) (x : XM) (s : SM) : SM := fun e w => (x e w).st e fun d w1 => match d with
  | .d (.int n) => if okR n = true then forD (gNm j) s (rngD 0 n.toNat) e w1 else .bad
  | _ => .bad
def sForR2 (j : Nat) (x y : XM) (s : SM) : SM := fun e w => (x e w).st e fun d w1 => (y e w1).st e fun d2 w2 => match d, d2 with
  | .d (.int lo), .d (.int hi) => if (okR lo && okR hi) = true then forD (gNm j) s (rngD lo (hi - lo).toNat) e w2 else .bad
  | _, _ => .bad

section
variable {X : Cx} {α : Addr × Str} {Wx : WX} {a b c e : Expr} {es : List Expr} {xa xb xc : XM} {xs : AM} {pos : Pos} {s t : SM} {st : Stmt} {ss tt : List Stmt}
theorem s_set {i : Nat} {x : Str} {p' : Pos} (h : ∀ te, PE X e te → PS X (.Assign [.Name x p'] e pos) (tAsg te (gName i))) (he : PE X e (cE X.K α Wx xa)) : PS X (.Assign [.Name x p'] e pos) (cS X.K α Wx (sSet i xa)) :=
  ps_imp (h _ he) fun D σ H ⟨ι, G, w, env, sw, ev, p⟩ => ⟨ι, G, w, env, sw, ev, PostS.st p ev fun d1 w1 v1 ι1 G1 H1 _ e1 s1 r1 p1 => p1 _ ι1 G1 H1 .refl s1 ((ev.mono e1).set (SlotR.of r1) i)⟩
theorem s_ret (he : PE X e (cE X.K α Wx xa)) : PS X (.Return (some e) pos) (cS X.K α Wx (sRet xa)) :=
  ps_imp (ps_ret he) fun D σ H ⟨ι, G, w, env, sw, ev, p⟩ => ⟨ι, G, w, env, sw, ev, PostS.st p ev fun d1 w1 v1 ι1 G1 H1 _ e1 s1 r1 p1 => p1 _ ι1 G1 H1 .refl s1 r1⟩
theorem s_expr (he : PE X e (cE X.K α Wx xa)) (hs : swapsWith e none pos.line X.env = pure false := by rfl) : PS X (.Expr e pos) (cS X.K α Wx (sExp xa)) :=
  ps_imp (ps_expr he hs) fun D σ H ⟨ι, G, w, env, sw, ev, p⟩ => ⟨ι, G, w, env, sw, ev, PostS.st p ev fun d1 w1 v1 ι1 G1 H1 _ e1 s1 r1 p1 => p1 _ ι1 G1 H1 .refl s1 (ev.mono e1)⟩
theorem s_pass : PS X (.Pass pos) (cS X.K α Wx sNil) := ps_imp ps_pass fun D σ H ⟨ι, G, w, env, sw, ev, p⟩ => p σ ι G H .refl sw ev
theorem s_cont : PS X (.Continue pos) (cS X.K α Wx sCt) := ps_imp ps_continue fun D σ H ⟨ι, G, w, env, sw, ev, p⟩ => p σ ι G H .refl sw ev
theorem s_brk : PS X (.Break pos) (cS X.K α Wx sBk) := ps_imp ps_break fun D σ H ⟨ι, G, w, env, sw, ev, p⟩ => p σ ι G H .refl sw ev
theorem ss_nil : PSs X [] (cS X.K α Wx sNil) := pss_imp pss_nil fun D σ H ⟨ι, G, w, env, sw, ev, p⟩ => p σ ι G H .refl sw ev
theorem ss_cons (h : PS X st (cS X.K α Wx s)) (hr : PSs X ss (cS X.K α Wx t)) : PSs X (st :: ss) (cS X.K α Wx (sSeq s t)) :=
  pss_imp (pss_cons h hr) fun D σ H ⟨ι, G, w, env, sw, ev, p⟩ => by
    refine ⟨ι, G, w, env, sw, ev, ?_⟩
    unfold sSeq at p
    cases q : s env w with
    | bad => rw [q] at p; exact p
    | ex c n w1 => rw [q] at p; exact p
    | ok c w1 =>
      cases c with
      | rt d => rw [q] at p; exact p
      | bk d => rw [q] at p; exact p
      | ct d => rw [q] at p; exact p
      | nx n =>
        rw [q] at p
        exact fun σ' ι' G' H' e1 s1 ev1 => ⟨ι', G', w1, n, s1, ev1, PostS.mono e1 p⟩
theorem ss_one (h : PS X st (cS X.K α Wx s)) : PSs X [st] (cS X.K α Wx s) := pss_imp (pss_cons h pss_nil) fun D σ H ⟨ι, G, w, env, sw, ev, p⟩ => ⟨ι, G, w, env, sw, ev, p⟩
theorem s_if (hc : PT X c (cT X.K α Wx xc)) (ha : PSs X ss (cS X.K α Wx s)) (hb : PSs X tt (cS X.K α Wx t)) : PS X (.If c ss tt pos) (cS X.K α Wx (sIf xc s t)) :=
  ps_imp (ps_if hc ha hb) fun D σ H ⟨ι, G, w, env, sw, ev, p⟩ => ⟨ι, G, w, env, sw, ev, PostS.st p ev fun d1 w1 v1 ι1 G1 H1 _ e1 s1 r1 p1 => by
    cases d1 with
    | loc l => exact p1.elim
    | exc l => exact p1.elim
    | d z =>
      cases z with
      | bool k =>
        cases r1
        refine ⟨k, rfl, ?_⟩
        cases k with
        | true =>
          rw [if_pos rfl]
          exact ⟨ι1, G1, w1, env, s1, ev.mono e1, p1⟩
        | false =>
          rw [if_neg Bool.false_ne_true]
          exact ⟨ι1, G1, w1, env, s1, ev.mono e1, p1⟩
      | _ => exact p1.elim⟩
theorem s_raise {n : Str} (h : PS X st (fun _ σ H => Wx (.ref (He.ga X.K n)) none σ H)) : PS X st (cS X.K α Wx (sRaise n)) :=
  ps_imp h fun D σ H ⟨ι, G, w, env, sw, ev, p⟩ => p σ ι G H .refl sw ev

/-! loops -/
theorem s_while {n : Nat} (hp : PassesOwn (model X.prog X.w) X.A X.env X.xe) (hc : PT X c (cT X.K α Wx xc)) (hb : PSs X ss (cS X.K α Wx s)) : PS X (.While c ss [] pos) (cS X.K α Wx (sWhile n xc s)) :=
  ps_imp (ps_while hp hc hb) fun D σ H ⟨ι, G, w, env, sw, ev, p⟩ => by
    refine ⟨fun m σ H => ∃ ι G w env, WS X.K ι G H w ∧ EnvR X.K α ι G σ env ∧ PostS X.K α Wx ι G H (whileF xc s m env w) D, ⟨n, ι, G, w, env, sw, ev, p⟩, ?_⟩
    rintro m σ H ⟨ι, G, w, env, sw, ev, p⟩
    cases m with
    | zero => exact p.elim
    | succ m =>
      refine ⟨ι, G, w, env, sw, ev, PostS.st p ev fun d1 w1 v1 ι1 G1 H1 _ e1 s1 r1 p1 => ?_⟩
      cases d1 with
      | loc l => exact p1.elim
      | exc l => exact p1.elim
      | d z =>
        cases z with
        | bool k =>
          cases r1
          refine ⟨k, rfl, ?_⟩
          cases k with
          | false =>
            rw [if_neg Bool.false_ne_true]
            exact p1 σ ι1 G1 H1 .refl s1 (ev.mono e1)
          | true =>
            rw [if_pos rfl]
            refine ⟨fun σ' H' => ∃ ι G w env, WS X.K ι G H' w ∧ EnvR X.K α ι G σ' env ∧ PostS X.K α Wx ι G H' (whileF xc s m env w) D, fun σ' H' q => ⟨m, Nat.lt_succ_self m, q⟩, ι1, G1, w1, env, s1, ev.mono e1, ?_⟩
            simp only at p1
            cases q : s env w1 with
            | bad => rw [q] at p1; exact p1
            | ex c n w1 => rw [q] at p1; exact p1
            | ok c w2 =>
              cases c with
              | rt d => rw [q] at p1; exact p1
              | bk d => rw [q] at p1; exact p1
              | ct n => rw [q] at p1; exact fun σ' ι' G' H' e1 s1 ev1 => ⟨ι', G', w2, n, s1, ev1, PostS.mono e1 p1⟩
              | nx n => rw [q] at p1; exact fun σ' ι' G' H' e1 s1 ev1 => ⟨ι', G', w2, n, s1, ev1, PostS.mono e1 p1⟩
        | _ => exact p1.elim
/-- a target by the machine -/
def TgOk (K : PySem.W.Frag) (α : Addr × Str) (g : TG) (m : TgM) : Prop := ∀ ι G H w σ env v d e' (Q : L2.St → Hp → Prop), WS K ι G H w → EnvR K α ι G σ env → RD K ι G v d → m d env w = some e' → (∀ σ', EnvR K α ι G σ' e' → Q σ' H) → g v σ H Q
theorem tg_name {K : PySem.W.Frag} (j : Nat) : TgOk K α (gName j) (gNm j) := by
  intro ι G H w σ env v d e' Q sw ev r h k
  cases h
  exact k _ (ev.set (SlotR.of r) j)
/-- one turn's end -/
theorem turn_end {K : PySem.W.Frag} {ι : List Addr} {G H : Hp} {w : Wd} {σ : L2.St} {env : En} {D : Ends} {N : L2.St → Hp → Prop} {F : En → Wd → Rt} {r : Rt}
    (p : PostS K α Wx ι G H (match r with
      | .ok (.nx e2) w2 => F e2 w2
      | .ok (.ct e2) w2 => F e2 w2
      | .ok (.bk e2) w2 => .ok (.nx e2) w2
      | .ok (.rt d) w2 => .ok (.rt d) w2
      | .ex c e2 w2 => .ex c e2 w2
      | .bad => .bad) D)
    (k : ∀ σ' ι' G' H' e2 w2, Evo ι G H ι' G' H' → WS K ι' G' H' w2 → EnvR K α ι' G' σ' e2 → PostS K α Wx ι' G' H' (F e2 w2) D → N σ' H') :
    PostS K α Wx ι G H r { D with nx := N, ct := N, bk := D.nx } := by
  cases r with
  | bad => exact p
  | ex c n w1 => exact p
  | ok c w2 =>
    cases c with
    | rt d => exact p
    | bk d => exact p
    | ct n => exact fun σ' ι' G' H' e1 s1 ev1 => k σ' ι' G' H' n w2 e1 s1 ev1 (PostS.mono e1 p)
    | nx n => exact fun σ' ι' G' H' e1 s1 ev1 => k σ' ι' G' H' n w2 e1 s1 ev1 (PostS.mono e1 p)
/-- what a turn of a loop over data keeps -/
def TurnP (K : PySem.W.Frag) (α : Addr × Str) (Wx : WX) (D : Ends) (ι₀ : List Addr) (G₀ H₀ : Hp) (F : En → Wd → Rt) : L2.St → Hp → Prop := fun σ H =>
  ∃ ι G w env, Evo ι₀ G₀ H₀ ι G H ∧ WS K ι G H w ∧ EnvR K α ι G σ env ∧ PostS K α Wx ι G H (F env w) D
theorem turnD {K : PySem.W.Frag} {g : TG} {m : TgM} (hg : TgOk K α g m) {D : Ends} {ι₀ : List Addr} {G₀ H₀ : Hp} {d : PyData} {ds : List PyData} {x : V} {σ : L2.St} {H : Hp}
    (hx : ∀ ι G H, Evo ι₀ G₀ H₀ ι G H → Dp K G x d) (h : TurnP K α Wx D ι₀ G₀ H₀ (forD m s (d :: ds)) σ H) :
    g x σ H fun σ2 H2 => cS K α Wx s { D with nx := TurnP K α Wx D ι₀ G₀ H₀ (forD m s ds), ct := TurnP K α Wx D ι₀ G₀ H₀ (forD m s ds), bk := D.nx } σ2 H2 := by
  obtain ⟨ι, G, w, env, e0, sw, ev, p⟩ := h
  unfold forD at p
  cases q : m (.d d) env w with
  | none => rw [q] at p; exact p.elim
  | some e1 =>
    rw [q] at p
    refine hg ι G H w σ env x (.d d) e1 _ sw ev (hx ι G H e0) q fun σ2 ev2 => ⟨ι, G, w, e1, sw, ev2, ?_⟩
    exact turn_end (F := forD m s ds) (σ := σ2) (env := e1) (w := w) p fun σ' ι' G' H' e2 w2 E1 S1 EV1 P1 => ⟨ι', G', w2, e2, e0.trans E1, S1, EV1, P1⟩
theorem for_dataL {K : PySem.W.Frag} {g : TG} {m : TgM} (hg : TgOk K α g m) {D : Ends} {ι : List Addr} {G H : Hp} {w : Wd} {σ : L2.St} {env : En} {a : Addr} {vs : List V} {ds : List PyData}
    (sw : WS K ι G H w) (ev : EnvR K α ι G σ env) (hv : SqL K G a vs) (hd : DpAll K G vs ds) (p : PostS K α Wx ι G H (forD m s ds env w) D) :
    ∃ W : Nat → Nat → L2.St → Hp → Prop, (∃ m, W 0 m σ H) ∧ ∀ i m σ H, W i m σ H →
      ((Itl K a).stop i H ∧ D.nx σ H) ∨ ((Itl K a).go i H ∧ ∃ N : L2.St → Hp → Prop, (∀ σ' H', N σ' H' → ∃ m', m' < m ∧ W (i + 1) m' σ' H') ∧ ∀ x H', (Itl K a).yld i H x H' → g x σ H' fun σ2 H2 => cS K α Wx s { D with nx := N, ct := N, bk := D.nx } σ2 H2) := by
  refine for_list (xs := vs) (fun i σ' H' => TurnP K α Wx D ι G H (forD m s (ds.drop i)) σ' H') ⟨ι, G, w, env, .refl, sw, ev, p⟩ (fun i σ' H' _ ⟨ι1, G1, w1, n1, e1, s1, _, _⟩ => Evl.ex_l (e1.g.trans s1.sub) hv) ?_ ?_
  · intro i x σ' H' hx h
    obtain ⟨d, hd1, hd2⟩ : ∃ d, ds[i]? = some d ∧ Dp K G x d := by
      have hi : i < ds.length := by rw [← dps_len hd]; exact (List.getElem?_eq_some_iff.mp hx).1
      obtain ⟨v, e1, e2⟩ := dps_at hd (show ds[i]? = some ds[i] by simp [hi])
      rw [hx] at e1; cases e1
      exact ⟨_, by simp [hi], e2⟩
    have hi : i < ds.length := (List.getElem?_eq_some_iff.mp hd1).1
    have e : ds.drop i = d :: ds.drop (i + 1) := by
      rw [List.drop_eq_getElem_cons hi]
      have := (List.getElem?_eq_some_iff.mp hd1).2
      rw [this]
    have h : TurnP K α Wx D ι G H (forD m s (ds.drop i)) σ' H' := h
    rw [e] at h
    exact turnD hg (fun ι' G' H' E => dp_mono E.g _ _ hd2) h
  · rintro σ' H' ⟨ι1, G1, w1, n1, e1, s1, ev1, p1⟩
    rw [show ds.drop vs.length = [] by rw [dps_len hd]; exact List.drop_length] at p1
    exact p1 σ' ι1 G1 H' .refl s1 ev1
theorem for_rngD {K : PySem.W.Frag} {g : TG} {m : TgM} (hg : TgOk K α g m) {D : Ends} {ι : List Addr} {G H : Hp} {w : Wd} {σ : L2.St} {env : En} {lo : Int} {n : Nat}
    (sw : WS K ι G H w) (ev : EnvR K α ι G σ env) (p : PostS K α Wx ι G H (forD m s (rngD lo n) env w) D) :
    ∃ W : Nat → Nat → L2.St → Hp → Prop, (∃ m, W 0 m σ H) ∧ ∀ i m σ H, W i m σ H →
      ((Itr lo n).stop i H ∧ D.nx σ H) ∨ ((Itr lo n).go i H ∧ ∃ N : L2.St → Hp → Prop, (∀ σ' H', N σ' H' → ∃ m', m' < m ∧ W (i + 1) m' σ' H') ∧ ∀ x H', (Itr lo n).yld i H x H' → g x σ H' fun σ2 H2 => cS K α Wx s { D with nx := N, ct := N, bk := D.nx } σ2 H2) := by
  have hl : (rngD lo n).length = n := by simp [rngD]
  refine for_range (fun i σ' H' => TurnP K α Wx D ι G H (forD m s ((rngD lo n).drop i)) σ' H') ⟨ι, G, w, env, .refl, sw, ev, p⟩ ?_ ?_
  · intro i σ' H' hi h
    have e : (rngD lo n).drop i = .int (lo + i) :: (rngD lo n).drop (i + 1) := by
      rw [List.drop_eq_getElem_cons (by rw [hl]; exact hi)]
      simp [rngD]
    have h : TurnP K α Wx D ι G H (forD m s ((rngD lo n).drop i)) σ' H' := h
    rw [e] at h
    exact turnD hg (fun ι' G' H' E => .int _) h
  · rintro σ' H' ⟨ι1, G1, w1, n1, e1, s1, ev1, p1⟩
    rw [show (rngD lo n).drop n = [] by exact List.drop_of_length_le (by rw [hl]; exact Nat.le_refl n)] at p1
    exact p1 σ' ι1 G1 H' .refl s1 ev1
/-- over a list of the store -/
theorem for_storeL {K : PySem.W.Frag} {g : TG} {m : TgM} (hg : TgOk K α g m) {D : Ends} {ι : List Addr} {G H : Hp} {w : Wd} {σ : L2.St} {env : En} {a : Addr} {l : Nat} {xs : List DV}
    (sw : WS K ι G H w) (ev : EnvR K α ι G σ env) (hl : ι[l]? = some a) (p : PostS K α Wx ι G H (forL m s l xs xs env w) D) :
    ∃ W : Nat → Nat → L2.St → Hp → Prop, (∃ m, W 0 m σ H) ∧ ∀ i m σ H, W i m σ H →
      ((Itl K a).stop i H ∧ D.nx σ H) ∨ ((Itl K a).go i H ∧ ∃ N : L2.St → Hp → Prop, (∀ σ' H', N σ' H' → ∃ m', m' < m ∧ W (i + 1) m' σ' H') ∧ ∀ x H', (Itl K a).yld i H x H' → g x σ H' fun σ2 H2 => cS K α Wx s { D with nx := N, ct := N, bk := D.nx } σ2 H2) := by
  refine ⟨fun i k σ' H' => k = xs.length - i ∧ i ≤ xs.length ∧ TurnP K α Wx D ι G H (forL m s l xs (xs.drop i)) σ' H', ⟨xs.length, by simp, Nat.zero_le _, ι, G, w, env, .refl, sw, ev, p⟩, ?_⟩
  rintro i k σ' H' ⟨rfl, hi, ι1, G1, w1, n1, e1, s1, ev1, p1⟩
  have hl1 : ι1[l]? = some a := by
    obtain ⟨n, e, _⟩ := e1.pre
    rw [e, List.getElem?_append_left (List.getElem?_eq_some_iff.mp hl).1]
    exact hl
  by_cases hlt : i < xs.length
  · right
    have e : xs.drop i = xs[i] :: xs.drop (i + 1) := List.drop_eq_getElem_cons hlt
    rw [e] at p1
    unfold forL at p1
    split at p1
    · rename_i hw
      obtain ⟨vs, f1, f2⟩ := s1.ob l a _ hl1 hw
      obtain ⟨v, f3, f4⟩ := rds_at f2 (show xs[i]? = some xs[i] by simp [hlt])
      refine ⟨⟨vs, v, Evl.sq_of f1, f3⟩, fun σ2 H2 => TurnP K α Wx D ι G H (forL m s l xs (xs.drop (i + 1))) σ2 H2, fun σ2 H2 q => ⟨xs.length - (i + 1), by omega, rfl, hlt, q⟩, fun x H2 y => ?_⟩
      obtain ⟨rfl, y⟩ := y
      have hx := y vs (Evl.sq_of f1)
      rw [hx] at f3; cases f3
      cases q : m xs[i] n1 w1 with
      | none => rw [q] at p1; exact p1.elim
      | some n2 =>
        rw [q] at p1
        refine hg ι1 G1 _ w1 σ' n1 _ _ n2 _ s1 ev1 f4 q fun σ2 ev2 => ⟨ι1, G1, w1, n2, s1, ev2, ?_⟩
        exact turn_end (F := forL m s l xs (xs.drop (i + 1))) (σ := σ2) (env := n2) (w := w1) p1 fun σ' ι' G' H' e2 w2 E1 S1 EV1 P1 => ⟨ι', G', w2, e2, e1.trans E1, S1, EV1, P1⟩
    · exact p1.elim
  · left
    have e : i = xs.length := by omega
    subst e
    rw [List.drop_length] at p1
    unfold forL at p1
    split at p1
    · rename_i hw
      obtain ⟨vs, f1, f2⟩ := s1.ob l a _ hl1 hw
      exact ⟨⟨vs, Evl.sq_of f1, by rw [rds_len f2]; exact Nat.le_refl _⟩, p1 σ' ι1 G1 H' .refl s1 ev1⟩
    · exact p1.elim
theorem s_for {tg : Expr} {g : TG} {m : TgM} (hg : TgOk X.K α g m) (hp : PassesOwn (model X.prog X.w) X.A X.env X.xe) (hc : X.calm = true) (hx : PE X e (cE X.K α Wx xa)) (hgt : PG X tg g) (hb : PSs X ss (cS X.K α Wx s))
    (hs : ∀ x, foldedSetIterable e X.env x = pure x := by intro _; rfl) : PS X (.For tg e ss [] pos) (cS X.K α Wx (sFor m xa s)) :=
  ps_imp (ps_for hp hc (pi_list hx) hgt hb hs) fun D σ H ⟨ι, G, w, env, sw, ev, p⟩ => ⟨ι, G, w, env, sw, ev, PostS.st p ev fun d1 w1 v1 ι1 G1 H1 _ e1 s1 r1 p1 => by
    cases d1 with
    | exc l => exact p1.elim
    | loc l =>
      obtain ⟨a, h1, rfl⟩ := r1
      simp only at p1
      cases q : w1[l]? with
      | none => rw [q] at p1; exact p1.elim
      | some o =>
        rw [q] at p1
        cases o with
        | lst xs =>
          obtain ⟨vs, f1, f2⟩ := s1.ob l a _ h1 q
          exact ⟨a, rfl, ⟨vs, Evl.sq_of f1⟩, for_storeL hg s1 (ev.mono e1) h1 p1⟩
        | _ => exact p1.elim
    | d z =>
      cases z with
      | list ds =>
        cases r1 with
        | lst h1 h2 => exact ⟨_, rfl, ⟨_, Evl.ex_l s1.sub h1⟩, for_dataL hg s1 (ev.mono e1) h1 h2 p1⟩
      | _ => exact p1.elim⟩
theorem okR_iff {i : Int} (h : okR i = true) : -(2 ^ 62) ≤ i ∧ i < 2 ^ 62 := by
  unfold okR at h
  simp only [Bool.and_eq_true, decide_eq_true_eq] at h
  exact h
theorem s_forR1 {n tgp : Pos} {j : Nat} {tg : Str} (hp : PassesOwn (model X.prog X.w) X.A X.env X.xe) (hc : X.calm = true) (hgl : Gl X "range") (hm : X.mg "range" = none) (hx : PE X e (cE X.K α Wx xa)) (hgt : PG X (.Name tg tgp) (gName j)) (hb : PSs X ss (cS X.K α Wx s))
    {cpos : Pos} (hs1 : starEach [e] X.env = (false, eval e X.env) :: starEach [] X.env := by rfl) (hs : ∀ x, foldedSetIterable (.Call (.Name "range" n) [e] [] cpos) X.env x = pure x := by intro _; rfl) : PS X (.For (.Name tg tgp) (.Call (.Name "range" n) [e] [] cpos) ss [] pos) (cS X.K α Wx (sForR1 j xa s)) :=
  ps_imp (ps_for hp hc (pi_range1 hgl hm (pa_cons hx pa_nil hs1) hs1) hgt hb hs) fun D σ H ⟨ι, G, w, env, sw, ev, p⟩ => ⟨ι, G, w, env, sw, ev, PostS.st p ev fun d1 w1 v1 ι1 G1 H1 _ e1 s1 r1 p1 => by
    cases d1 with
    | exc l => exact p1.elim
    | loc l => exact p1.elim
    | d z =>
      cases z with
      | int k =>
        cases r1
        simp only at p1
        split at p1
        · rename_i hk
          obtain ⟨h1, h2⟩ := okR_iff hk
          exact ⟨k, rfl, h1, h2, for_rngD (tg_name j) s1 (ev.mono e1) p1⟩
        · exact p1.elim
      | _ => exact p1.elim⟩
theorem s_forR2 {n tgp : Pos} {j : Nat} {tg : Str} {e2 : Expr} (hp : PassesOwn (model X.prog X.w) X.A X.env X.xe) (hc : X.calm = true) (hgl : Gl X "range") (hm : X.mg "range" = none) (hx : PE X e (cE X.K α Wx xa)) (hy : PE X e2 (cE X.K α Wx xb)) (hgt : PG X (.Name tg tgp) (gName j)) (hb : PSs X ss (cS X.K α Wx s))
    {cpos : Pos} (hs1 : starEach [e, e2] X.env = (false, eval e X.env) :: starEach [e2] X.env := by rfl) (hs2 : starEach [e2] X.env = (false, eval e2 X.env) :: starEach [] X.env := by rfl)
    (hs3 : starEach [e, e2] X.env = [(false, eval e X.env), (false, eval e2 X.env)] := by rfl) (hs : ∀ x, foldedSetIterable (.Call (.Name "range" n) [e, e2] [] cpos) X.env x = pure x := by intro _; rfl) : PS X (.For (.Name tg tgp) (.Call (.Name "range" n) [e, e2] [] cpos) ss [] pos) (cS X.K α Wx (sForR2 j xa xb s)) :=
  ps_imp (ps_for hp hc (pi_range2 hgl hm (pa_cons hx (pa_cons hy pa_nil hs2) hs1) hs3 hs2) hgt hb hs) fun D σ H ⟨ι, G, w, env, sw, ev, p⟩ => ⟨ι, G, w, env, sw, ev, PostS.st p ev fun d1 w1 v1 ι1 G1 H1 _ e1 s1 r1 p1 =>
    ⟨ι1, G1, w1, env, s1, ev.mono e1, PostS.st p1 (ev.mono e1) fun d2 w2 v2 ι2 G2 H2 _ e2 s2 r2 p2 => by
    cases d1 with
    | exc l => exact p2.elim
    | loc l => exact p2.elim
    | d z =>
      cases z with
      | int k =>
        cases d2 with
        | exc l => exact p2.elim
        | loc l => exact p2.elim
        | d z2 =>
          cases z2 with
          | int k2 =>
            cases r1; cases r2
            simp only at p2
            split at p2
            · rename_i hk
              obtain ⟨hk1, hk2⟩ := Bool.and_eq_true_iff.mp hk
              obtain ⟨h1, h2⟩ := okR_iff hk1
              obtain ⟨h3, h4⟩ := okR_iff hk2
              exact ⟨k, k2, rfl, ⟨h1, h2, h3, h4⟩, for_rngD (tg_name j) s2 ((ev.mono e1).mono e2) p2⟩
            · exact p2.elim
          | _ => exact p2.elim
      | _ => exact p2.elim⟩⟩
end

/-! ### defs -/
inductive Rp where
  | ok (d : PyData)
  | ex (c : Str)
  | bad
abbrev FP := List PyData → Rp
abbrev FW := List DV → Wd → Rs DV
/-- a def of plain data: plain data comes out -/
def spP (K : PySem.W.Frag) (n : Nat) (f : FP) : Sp := fun vs H Q E => vs.length = n ∧ ∃ G ds, Ex G H ∧ DpAll K G vs ds ∧ match f ds with
  | .ok d => ∀ v G' H', Evo [] G H [] G' H' → Ex G' H' → Dp K G' v d → Q v H'
  | .ex c => ∀ H', Ex H H' → E (.ref (He.ga K c)) none H'
  | .bad => False
/-- a def over the store -/
def spW (K : PySem.W.Frag) (n : Nat) (f : FW) : Sp := fun vs H Q E => vs.length = n ∧ ∃ ι G w ds, WS K ι G H w ∧ RDs K ι G vs ds ∧ PostE K (fun cls d _ H => E cls d H) ι G H [] (f ds w) Q
def initE (n : Nat) (ds : List DV) : En := ds.map some ++ List.replicate (n - ds.length) none
/-- what a body of plain data tells -/
def finP : Rt → Rp
  | .ok (.rt v) w => match toD 6 w v with
    | some d => .ok d
    | none => .bad
  | .ok (.nx _) _ => .ok .none
  | .ex c _ _ => .ex c
  | _ => .bad
def finW : Rt → Rs DV
  | .ok (.rt v) w => .ok v w
  | .ok (.nx _) w => .ok (.d .none) w
  | .ex c _ w => .ex c w
  | _ => .bad
def runP (n : Nat) (s : SM) : FP := fun ds => finP (s (initE n (ds.map .d)) [])
def runW (n : Nat) (s : SM) : FW := fun ds w => finW (s (initE n ds) w)
theorem env_start {K : PySem.W.Frag} {α : Addr × Str} {ι : List Addr} {G : Hp} {N : List Str} {vs : List V} {ds : List DV} (r : RDs K ι G vs ds) : EnvR K α ι G (L2.start N vs) (initE N.length ds) := by
  unfold L2.start initE
  rw [rds_len r]
  have h1 : ∀ {vs : List V} {ds : List DV} {σ : L2.St} {e : En}, RDs K ι G vs ds → EnvR K α ι G σ e → EnvR K α ι G (vs.map some ++ σ) (ds.map some ++ e) := by
    intro vs ds σ e r q
    induction r with
    | nil => exact q
    | cons r1 r2 ih => exact .cons (SlotR.of r1) ih
  have h2 : ∀ n : Nat, EnvR K α ι G (List.replicate n none) (List.replicate n none) := by
    intro n
    induction n with
    | zero => exact .nil
    | succ n ih => exact .cons trivial ih
  exact h1 r (h2 _)
theorem rds_of_dps {K : PySem.W.Frag} {ι : List Addr} {G : Hp} : ∀ {vs : List V} {ds : List PyData}, DpAll K G vs ds → RDs K ι G vs (ds.map .d)
  | _, [], h => by cases h; exact .nil
  | _, d :: ds, h => by
    cases h with
    | cons h1 h2 => exact .cons h1 (rds_of_dps h2)
theorem ws_nil {K : PySem.W.Frag} {G H : Hp} (e : Ex G H) : WS K [] G H [] := ⟨e, List.nodup_nil, rfl, fun a h => (by cases h), fun l a o h _ => (by simp at h)⟩
/-- the new data of a def of plain data -/
theorem cutG {K : PySem.W.Frag} {ι : List Addr} {G H G1 H1 : Hp} {w : Wd} {v : V} {x : DV} {n : Nat} {d : PyData} (e0 : Ex G H) (e : Evo [] G H ι G1 H1) (s : WS K ι G1 H1 w) (r : RD K ι G1 v x) (h : toD n w x = some d) :
    ∃ G2, Evo [] G H [] G2 H1 ∧ Ex G2 H1 ∧ Dp K G2 v d := by
  have hHH : Ex H H1 := fun a o q => e.h a o (by simp) q
  refine ⟨fun a => match H a with | none => H1 a | some _ => G a, ⟨⟨[], rfl, fun a h => by cases h⟩, fun a o q => ?_, fun a ha => ?_, e.h, e.dom⟩, fun a o q => ?_, ?_⟩
  · have q2 := e0 a o q
    simp only [q2]; exact q
  · cases q : H a with
    | none => exact absurd q ha
    | some o => rfl
  · cases q2 : H a with
    | none => simp only [q2] at q; exact q
    | some u =>
      simp only [q2] at q
      exact hHH a o (e0 a o q)
  · refine dp_toD s (fun a o q => ?_) (fun a ha o q => ?_) n x v d r h
    · cases q2 : H a with
      | none => simp only [q2]; exact s.sub a o q
      | some u =>
        simp only [q2]
        rw [← e.gn a (by rw [q2]; simp)]; exact q
    · obtain ⟨new, e1, e2⟩ := e.pre
      have : H a = none := e2 a (by rw [e1] at ha; simpa using ha)
      simp only [this]; exact q
section
variable {P : Program} {w : World} {K : PySem.W.Frag} {mg : Str → Option Value} {base : Heap} {x qual : Str} {params : Arguments} {body : List Stmt} {scope : Scope} {f : Addr} {fd : FuncData} {N ps : List Str} {k : Nat} {s : SM}
/-- what a body is shown for: its def -/
abbrev wishOf (E : XK) : WX := fun cls d _ H => E cls d H
abbrev BodyOk (P : Program) (w : World) (K : PySem.W.Frag) (mg : Str → Option Value) (base : Heap) (qual : Str) (body : List Stmt) (scope : Scope) (f : Addr) (N : List Str) (k : Nat) (s : SM) : Prop :=
  ∀ (cdv : Value) (A : Around) (outer : List Env) (st : Shared) (H : Hp) (E : XK), Room k (A.deeper (envOfC qual scope st.heap.objs.size f cdv)) →
    PSs (cxOf (L2.CX P w) P w K mg base N qual scope f cdv A outer st H E) body (cS K (0, Str.ofString "") (wishOf E) s)
theorem ok_P (F : FunD K x qual params body scope [] [] f fd) (S : FnScope N ps scope) (hb : BodyOk P w K mg base qual body scope f N k s) : FnOk P w K mg base (L2.CX P w) (k + 1) f fd ps (spP K ps.length (runP N.length s)) := by
  refine F.ok S (fun vs H Q E h => h.1) (fun cdv A outer st H vs Q E hr h => ⟨_, hb cdv A outer st H E hr, ?_⟩)
  obtain ⟨hl, G, ds, e0, hd, p⟩ := h
  refine ⟨[], G, [], initE N.length (ds.map .d), ws_nil e0, env_start (rds_of_dps hd), ?_⟩
  unfold runP finP at p
  cases q : s (initE N.length (ds.map .d)) [] with
  | bad => rw [q] at p; exact p
  | ex c n w1 => rw [q] at p; exact fun σ' ι' G' H' e1 s1 _ => p H' fun a o h => e1.h a o (by simp) h
  | ok c w1 =>
    cases c with
    | bk n => rw [q] at p; exact p.elim
    | ct n => rw [q] at p; exact p.elim
    | nx n =>
      rw [q] at p
      intro σ' ι' G' H' e1 s1 _
      obtain ⟨G2, f1, f2, f3⟩ := cutG (v := .non) (x := .d .none) (n := 6) (d := .none) e0 e1 s1 .non rfl
      exact p .non G2 H' f1 f2 f3
    | rt v =>
      rw [q] at p
      intro u ι' G' H' e1 s1 r1
      simp only at p
      cases q2 : toD 6 w1 v with
      | none => rw [q2] at p; exact p.elim
      | some d =>
        rw [q2] at p
        obtain ⟨G2, f1, f2, f3⟩ := cutG e0 e1 s1 r1 q2
        exact p u G2 H' f1 f2 f3
theorem ok_W (F : FunD K x qual params body scope [] [] f fd) (S : FnScope N ps scope) (hb : BodyOk P w K mg base qual body scope f N k s) : FnOk P w K mg base (L2.CX P w) (k + 1) f fd ps (spW K ps.length (runW N.length s)) := by
  refine F.ok S (fun vs H Q E h => h.1) (fun cdv A outer st H vs Q E hr h => ⟨_, hb cdv A outer st H E hr, ?_⟩)
  obtain ⟨hl, ι, G, w0, ds, sw, hd, p⟩ := h
  refine ⟨ι, G, w0, initE N.length ds, sw, env_start hd, ?_⟩
  unfold runW finW at p
  cases q : s (initE N.length ds) w0 with
  | bad => rw [q] at p; exact p
  | ex c n w1 => rw [q] at p; exact fun σ' ι' G' H' e1 s1 _ => p ι' G' H' e1 s1
  | ok c w1 =>
    cases c with
    | bk n => rw [q] at p; exact p.elim
    | ct n => rw [q] at p; exact p.elim
    | nx n => rw [q] at p; exact fun σ' ι' G' H' e1 s1 _ => p .non ι' G' H' e1 s1 .non
    | rt v => rw [q] at p; exact fun u ι' G' H' e1 s1 r1 => p u ι' G' H' e1 s1 r1
/-- a def of the module, as its callers take it -/
structure Fn (P : Program) (w : World) (K : PySem.W.Frag) (mg : Str → Option Value) (base : Heap) (x : Str) (k : Nat) (sp : Sp) : Prop where
  at_ : mg x = some (.ref (He.ga K x))
  kp : PySem.W.keepIn K (.ref (He.ga K x)) = true
  ok : ∃ (fd : FuncData) (ps : List Str), FnOk P w K mg base (L2.CX P w) k (He.ga K x) fd ps sp ∧ Binds K fd ps []
structure Md (P : Program) (w : World) (K : PySem.W.Frag) (mg : Str → Option Value) (base : Heap) (C m : Str) (k : Nat) (sp : Sp) : Prop where
  meth : Meth K (He.ga K C) m (He.ma K (He.ga K C) m)
  ok : ∃ (fd : FuncData) (ps : List Str), FnOk P w K mg base (L2.CX P w) k (He.ma K (He.ga K C) m) fd ps sp ∧ Binds K fd ps []
end

/-! ### calls -/
def xCallP (f : FP) (xs : AM) : XM := fun e w => (xs e w).bind fun ds w1 => match allD ds with
  | some ps => match f ps with
    | .ok d => .ok (.d d) w1
    | .ex c => .ex c w1
    | .bad => .bad
  | none => .bad
def isSc : PyData → Bool
  | .list _ => false
  | .tuple _ => false
  | .dict _ => false
  | _ => true
/-- the arguments may lie in the store; a scalar comes out -/
def xCallS (f : FP) (xs : AM) : XM := fun e w => (xs e w).bind fun ds w1 => match mapO (toD 6 w1) ds with
  | some ps => match f ps with
    | .ok d => if isSc d = true then .ok (.d d) w1 else .bad
    | .ex c => .ex c w1
    | .bad => .bad
  | none => .bad
def xCallW (f : FW) (xs : AM) : XM := fun e w => (xs e w).bind fun ds w1 => f ds w1
theorem sc_dp {K : PySem.W.Frag} {G G' : Hp} {v : V} {d : PyData} (h : isSc d = true) (q : Dp K G v d) : Dp K G' v d := by
  cases q with
  | non => exact .non
  | bl b => exact .bl b
  | int b => exact .int b
  | str b => exact .str b
  | lst => cases h
  | tup => cases h
theorem toDs_dp {K : PySem.W.Frag} {ι : List Addr} {G H : Hp} {w : Wd} (s : WS K ι G H w) {n : Nat} : ∀ {xs : List DV} {vs : List V} {ds : List PyData}, RDs K ι G vs xs → mapO (toD n w) xs = some ds → DpAll K H vs ds
  | [], _, ds, .nil, e => by simp only [mapO, Option.some.injEq] at e; subst e; exact .nil
  | x :: xs, _, ds, .cons r1 r2, e => by
    simp only [mapO] at e
    cases q : toD n w x with
    | none => rw [q] at e; cases e
    | some y =>
      rw [q] at e
      simp only at e
      cases q2 : mapO (toD n w) xs with
      | none => rw [q2] at e; cases e
      | some ys =>
        rw [q2] at e
        simp only [Option.map_some, Option.some.injEq] at e
        subst e
        exact .cons (dp_toDH s r1 q) (toDs_dp s r2 q2)
theorem evo_ex {ι : List Addr} {G H H' : Hp} (e : Ex H H') : Evo ι G H ι G H' := ⟨⟨[], by simp, fun a h => by cases h⟩, Evl.Ex.refl _, fun _ _ => rfl, fun a o _ q => e a o q, fun a h => by
  cases q : H a with
  | none => exact absurd q h
  | some o => rw [e a o q]; simp⟩
theorem ws_ex {K : PySem.W.Frag} {ι : List Addr} {G H H' : Hp} {w : Wd} (s : WS K ι G H w) (e : Ex H H') : WS K ι G H' w := ⟨s.sub.trans e, s.nd, s.len, s.out, fun l a o h1 h2 => by
  have r := s.ob l a o h1 h2
  cases q : H a with
  | none => exact absurd q r.some
  | some u => rw [q] at r; rw [e a u q]; exact r⟩
/-- a store beside what a def of plain data has made -/
theorem ws_evo {K : PySem.W.Frag} {ι : List Addr} {G H G' H' : Hp} {w : Wd} (s : WS K ι G H w) (e : Evo [] G H [] G' H') (e2 : Ex G' H') : Evo ι G H ι G' H' ∧ WS K ι G' H' w := by
  have hHH : Ex H H' := fun a o q => e.h a o (by simp) q
  have E : Evo ι G H ι G' H' := ⟨⟨[], by simp, fun a h => by cases h⟩, e.g, e.gn, fun a o _ q => hHH a o q, e.dom⟩
  exact ⟨E, e2, s.nd, s.len, fun a ha => (e.gn a (s.dom ha)).trans (s.out a ha), fun l a o h1 h2 => by
    have r := s.ob l a o h1 h2
    cases q : H a with
    | none => exact absurd q r.some
    | some u => rw [q] at r; rw [hHH a u q]; exact r.mono E⟩
section
variable {X : Cx} {α : Addr × Str} {Wx : WX} {a b c e : Expr} {es : List Expr} {xa xb xc : XM} {xs : AM} {pos : Pos} {n : Nat} {f : FP} {fw : FW} {x m : Str} {p : Pos} {k : Nat}
theorem sp_callP {K : PySem.W.Frag} {ι : List Addr} {G H : Hp} {w : Wd} {σ : L2.St} {Q : VK} {ds : List DV} {vs : List V} (hn : vs.length = n) (s : WS K ι G H w) (r : RDs K ι G vs ds)
    (p : PostE K Wx ι G H σ (match allD ds with
      | some ps => match f ps with
        | .ok d => .ok (.d d) w
        | .ex c => .ex c w
        | .bad => .bad
      | none => .bad) Q) : spP K n f vs H Q (WE Wx σ) := by
  cases q : allD ds with
  | none => rw [q] at p; exact p.elim
  | some ps =>
    rw [q] at p
    simp only at p
    refine ⟨hn, G, ps, s.sub, all_dp r q, ?_⟩
    cases q2 : f ps with
    | bad => rw [q2] at p; exact p
    | ex c => rw [q2] at p; exact fun H' e => p ι G H' (evo_ex e) (ws_ex s e)
    | ok d =>
      rw [q2] at p
      exact fun v G' H' e1 e2 h => let ⟨E, S⟩ := ws_evo s e1 e2; p v ι G' H' E S h
theorem sp_callS {K : PySem.W.Frag} {ι : List Addr} {G H : Hp} {w : Wd} {σ : L2.St} {Q : VK} {ds : List DV} {vs : List V} (hn : vs.length = n) (s : WS K ι G H w) (r : RDs K ι G vs ds)
    (p : PostE K Wx ι G H σ (match mapO (toD 6 w) ds with
      | some ps => match f ps with
        | .ok d => if isSc d = true then .ok (.d d) w else .bad
        | .ex c => .ex c w
        | .bad => .bad
      | none => .bad) Q) : spP K n f vs H Q (WE Wx σ) := by
  cases q : mapO (toD 6 w) ds with
  | none => rw [q] at p; exact p.elim
  | some ps =>
    rw [q] at p
    simp only at p
    refine ⟨hn, H, ps, Evl.Ex.refl _, toDs_dp s r q, ?_⟩
    cases q2 : f ps with
    | bad => rw [q2] at p; exact p
    | ex c => rw [q2] at p; exact fun H' e => p ι G H' (evo_ex e) (ws_ex s e)
    | ok d =>
      rw [q2] at p
      simp only at p
      intro v G' H' e1 e2 h
      have hHH : Ex H H' := fun a o q => e1.h a o (by simp) q
      split at p
      · rename_i hs
        exact p v ι G H' (evo_ex hHH) (ws_ex s hHH) (sc_dp hs h)
      · exact p.elim
/-- the call of a def by its name -/
theorem x_call {sp : Sp} (F : Fn X.prog X.w X.K X.mg X.base x k sp) (hr : Room k X.A) (tk : Takes X Wx) (hg : Gl X x) {te : TA} (ha : PA X (e :: es) te) (hdb : (x == ("__debug__" : Str)) = false := by decide)
    (he : starEach (e :: es) X.env = (false, eval e X.env) :: starEach es X.env := by rfl) (hpl : (backTo pos (starEach es X.env)).any (·.1) = false := by rfl) :
    PE X (.Call (.Name x p) (e :: es) [] pos) (tCallS sp (WE Wx) te) := by
  obtain ⟨m, kp, fd, ps, ok, bd⟩ := F
  exact pe_callS ok hr hg m kp bd (fun σ => passAt tk σ) ha hdb he hpl
theorem x_callP (F : Fn X.prog X.w X.K X.mg X.base x k (spP X.K n f)) (hr : Room k X.A) (tk : Takes X Wx) (hg : Gl X x) (ha : PA X (e :: es) (cA X.K α Wx xs)) (hn : (e :: es).length = n) (hdb : (x == ("__debug__" : Str)) = false := by decide)
    (he : starEach (e :: es) X.env = (false, eval e X.env) :: starEach es X.env := by rfl) (hpl : (backTo pos (starEach es X.env)).any (·.1) = false := by rfl) (hx : ∀ env w ds w', xs env w = .ok ds w' → ds.length = (e :: es).length) :
    PE X (.Call (.Name x p) (e :: es) [] pos) (cE X.K α Wx (xCallP f xs)) :=
  pe_imp (x_call F hr tk hg ha hdb he hpl) fun σ H Q ⟨ι, G, w, env, sw, ev, p⟩ => ⟨ι, G, w, env, sw, ev, PostA.bind p fun d1 w1 v1 ι1 G1 H1 q1 e1 s1 r1 p1 => sp_callP (by rw [rds_len r1, hx _ _ _ _ q1, hn]) s1 r1 p1⟩
theorem x_callS (F : Fn X.prog X.w X.K X.mg X.base x k (spP X.K n f)) (hr : Room k X.A) (tk : Takes X Wx) (hg : Gl X x) (ha : PA X (e :: es) (cA X.K α Wx xs)) (hn : (e :: es).length = n) (hdb : (x == ("__debug__" : Str)) = false := by decide)
    (he : starEach (e :: es) X.env = (false, eval e X.env) :: starEach es X.env := by rfl) (hpl : (backTo pos (starEach es X.env)).any (·.1) = false := by rfl) (hx : ∀ env w ds w', xs env w = .ok ds w' → ds.length = (e :: es).length) :
    PE X (.Call (.Name x p) (e :: es) [] pos) (cE X.K α Wx (xCallS f xs)) :=
  pe_imp (x_call F hr tk hg ha hdb he hpl) fun σ H Q ⟨ι, G, w, env, sw, ev, p⟩ => ⟨ι, G, w, env, sw, ev, PostA.bind p fun d1 w1 v1 ι1 G1 H1 q1 e1 s1 r1 p1 => sp_callS (by rw [rds_len r1, hx _ _ _ _ q1, hn]) s1 r1 p1⟩
theorem post_nil {K : PySem.W.Frag} {ι : List Addr} {G H : Hp} {σ : L2.St} {r : Rs DV} {Q : VK} (p : PostE K Wx ι G H σ r Q) : PostE K (wishOf (WE Wx σ)) ι G H [] r Q := by
  cases r with
  | ok d w => exact p
  | ex c w => exact p
  | bad => exact p
theorem x_callW (F : Fn X.prog X.w X.K X.mg X.base x k (spW X.K n fw)) (hr : Room k X.A) (tk : Takes X Wx) (hg : Gl X x) (ha : PA X (e :: es) (cA X.K α Wx xs)) (hn : (e :: es).length = n) (hdb : (x == ("__debug__" : Str)) = false := by decide)
    (he : starEach (e :: es) X.env = (false, eval e X.env) :: starEach es X.env := by rfl) (hpl : (backTo pos (starEach es X.env)).any (·.1) = false := by rfl) (hx : ∀ env w ds w', xs env w = .ok ds w' → ds.length = (e :: es).length) :
    PE X (.Call (.Name x p) (e :: es) [] pos) (cE X.K α Wx (xCallW fw xs)) :=
  pe_imp (x_call F hr tk hg ha hdb he hpl) fun σ H Q ⟨ι, G, w, env, sw, ev, p⟩ => ⟨ι, G, w, env, sw, ev, PostA.bind p fun d1 w1 v1 ι1 G1 H1 q1 e1 s1 r1 p1 => ⟨by rw [rds_len r1, hx _ _ _ _ q1, hn], ι1, G1, w1, d1, s1, r1, post_nil p1⟩⟩
end
/-- how many values come -/
def ArN (n : Nat) (xs : AM) : Prop := ∀ env w ds w', xs env w = .ok ds w' → ds.length = n
theorem ar_nil : ArN 0 xNil := fun env w ds w' h => by cases h; rfl
theorem ar_cons {n : Nat} {x : XM} {xs : AM} (h : ArN n xs) : ArN (n + 1) (xCons x xs) := fun env w ds w' q => by
  unfold xCons at q
  cases q1 : x env w with
  | bad => rw [q1] at q; cases q
  | ex c w1 => rw [q1] at q; cases q
  | ok d w1 =>
    rw [q1] at q
    simp only [Rs.bind] at q
    cases q2 : xs env w1 with
    | bad => rw [q2] at q; cases q
    | ex c w1 => rw [q2] at q; cases q
    | ok d2 w2 =>
      rw [q2] at q
      cases q
      simp [h _ _ _ _ q2]

/-! ### built-ins by values -/
def CallOk (K : PySem.W.Frag) (Wx : WX) (op : List DV → Wd → Rs DV) (r : List V → Hp → VK → Prop) : Prop :=
  ∀ ι G H w σ vs ds Q, WS K ι G H w → RDs K ι G vs ds → PostE K Wx ι G H σ (op ds w) Q → r vs H Q
def xCall (op : List DV → Wd → Rs DV) (xs : AM) : XM := fun e w => (xs e w).bind fun ds w1 => op ds w1
def oLen : List DV → Wd → Rs DV
  | [.d (.str z)], w => if z.length ≤ 100000 then .ok (.d (.int z.length)) w else .bad
  | [.d (.list ds)], w => .ok (.d (.int ds.length)) w
  | [.d (.tuple ds)], w => .ok (.d (.int ds.length)) w
  | [.loc l], w => match w[l]? with
    | some (.lst xs) => .ok (.d (.int xs.length)) w
    | some (.tup xs) => .ok (.d (.int xs.length)) w
    | _ => .bad
  | _, _ => .bad
def oMax2 : List DV → Wd → Rs DV
  | [.d (.int i), .d (.int j)], w => .ok (.d (.int (if j > i then j else i))) w
  | _, _ => .bad
def oMin2 : List DV → Wd → Rs DV
  | [.d (.int i), .d (.int j)], w => .ok (.d (.int (if j < i then j else i))) w
  | _, _ => .bad
def oInt1 : List DV → Wd → Rs DV
  | [.d (.int i)], w => .ok (.d (.int i)) w
  | [.d (.bool k)], w => .ok (.d (.int (if k then 1 else 0))) w
  | _, _ => .bad
/-- list(x), the items plain data -/
def oList : List DV → Wd → Rs DV
  | [.d (.list ds)], w => .ok (.d (.list ds)) w
  | [.d (.tuple ds)], w => .ok (.d (.list ds)) w
  | [.loc l], w => match w[l]? with
    | some (.lst xs) => match allD xs with
      | some ds => .ok (.d (.list ds)) w
      | none => .bad
    | _ => .bad
  | _, _ => .bad
/-- list(x), a new list of the store -/
def oListS : List DV → Wd → Rs DV
  | [.d (.list ds)], w => .ok (.loc w.length) (w ++ [.lst (ds.map .d)])
  | [.d (.tuple ds)], w => .ok (.loc w.length) (w ++ [.lst (ds.map .d)])
  | [.loc l], w => match w[l]? with
    | some (.lst xs) => .ok (.loc w.length) (w ++ [.lst xs])
    | _ => .bad
  | _, _ => .bad
/-- the kinds -/
def kindD : DV → Wd → Option String
  | .d .none, _ => some "NoneType"
  | .d (.bool _), _ => some "bool"
  | .d (.int _), _ => some "int"
  | .d (.str _), _ => some "str"
  | .d (.list _), _ => some "list"
  | .d (.tuple _), _ => some "tuple"
  | .loc l, w => match w[l]? with
    | some (.lst _) => some "list"
    | some (.tup _) => some "tuple"
    | _ => none
  | _, _ => none
def isKind (t c : String) : Bool := decide (t = c) || (decide (t = "bool") && decide (c = "int"))
/-- isinstance(x, c), c a built-in class -/
def oIsi (c : String) : DV → Wd → Rs DV := fun x w => match kindD x w with
  | some t => .ok (.d (.bool (isKind t c))) w
  | none => .bad
def xIsi (c : String) (x : XM) : XM := fun e w => (x e w).bind fun d w1 => oIsi c d w1
section
variable {X : Cx} {α : Addr × Str} {Wx : WX} {a b c e : Expr} {es : List Expr} {xa xb xc : XM} {xs : AM} {pos p : Pos} {x : Str} {id T : String} {r : List V → Hp → VK → Prop} {op : List DV → Wd → Rs DV}
theorem call_step {K : PySem.W.Frag} (hr : CallOk K Wx op r) {σ : L2.St} {H : Hp} {Q : VK} (h : cE K α Wx (xCall op xs) σ H Q) : tCB r (cA K α Wx xs) σ H Q := by
  obtain ⟨ι, G, w, env, sw, ev, p⟩ := h
  exact ⟨ι, G, w, env, sw, ev, PostA.bind p fun d1 w1 v1 ι1 G1 H1 _ e1 s1 r1 p1 => hr ι1 G1 H1 w1 σ v1 d1 Q s1 r1 p1⟩
theorem x_blt (hr : CallOk X.K Wx op r) (hc : CallR X (.builtin id) r) (hg : Gl X x) (hm : X.mg x = none) (hv : bootBuiltins x = some (.builtin id)) (ha : PA X (e :: es) (cA X.K α Wx xs)) (hn : x ≠ "__name__" := by decide) (hdb : (x == ("__debug__" : Str)) = false := by decide)
    (he : starEach (e :: es) X.env = (false, eval e X.env) :: starEach es X.env := by rfl) (hpl : (backTo pos (starEach es X.env)).any (·.1) = false := by rfl) : PE X (.Call (.Name x p) (e :: es) [] pos) (cE X.K α Wx (xCall op xs)) :=
  pe_imp (pe_callB hc hg hm hv ha hn hdb he hpl) fun _ _ _ h => call_step hr h
theorem x_ty (hr : CallOk X.K Wx op r) (hc : CallR X (.type T) r) (hg : Gl X x) (hm : X.mg x = none) (hv : bootBuiltins x = some (.type T)) (ha : PA X (e :: es) (cA X.K α Wx xs)) (hn : x ≠ "__name__" := by decide) (hdb : (x == ("__debug__" : Str)) = false := by decide)
    (he : starEach (e :: es) X.env = (false, eval e X.env) :: starEach es X.env := by rfl) (hpl : (backTo pos (starEach es X.env)).any (·.1) = false := by rfl) : PE X (.Call (.Name x p) (e :: es) [] pos) (cE X.K α Wx (xCall op xs)) :=
  pe_imp (pe_callTy hc hg hm hv ha hn hdb he hpl) fun _ _ _ h => call_step hr h
theorem one_v {K : PySem.W.Frag} {ι : List Addr} {G : Hp} {vs : List V} {d : DV} (r : RDs K ι G vs [d]) : ∃ v, vs = [v] ∧ RD K ι G v d := by
  cases r with
  | cons h t => cases t; exact ⟨_, rfl, h⟩
theorem two_v {K : PySem.W.Frag} {ι : List Addr} {G : Hp} {vs : List V} {d d2 : DV} (r : RDs K ι G vs [d, d2]) : ∃ v v2, vs = [v, v2] ∧ RD K ι G v d ∧ RD K ι G v2 d2 := by
  cases r with
  | cons h t => cases t with
    | cons h2 t => cases t; exact ⟨_, _, rfl, h, h2⟩
theorem k_len {K : PySem.W.Frag} : CallOk K Wx oLen (fun xs H Q => ∃ x n, xs = [x] ∧ LenV K x H n ∧ Q (.int n) H) := by
  intro ι G H w σ vs ds Q s r p
  unfold oLen at p
  split at p
  · rename_i z
    obtain ⟨v, rfl, h⟩ := one_v r
    cases h
    split at p
    · rename_i hz
      exact ⟨_, z.length, rfl, ⟨Evl.sz_of hz, rfl⟩, p _ ι G H .refl s (.int _)⟩
    · exact p.elim
  · rename_i ds
    obtain ⟨v, rfl, h⟩ := one_v r
    cases h with
    | lst h1 h2 => exact ⟨_, ds.length, rfl, .inl ⟨_, Evl.ex_l s.sub h1, (dps_len h2).symm⟩, p _ ι G H .refl s (.int _)⟩
  · rename_i ds
    obtain ⟨v, rfl, h⟩ := one_v r
    cases h with
    | tup h1 h2 => exact ⟨_, ds.length, rfl, .inr ⟨_, Evl.ex_t s.sub h1, (dps_len h2).symm⟩, p _ ι G H .refl s (.int _)⟩
  · rename_i l
    obtain ⟨v, rfl, a, h1, rfl⟩ := one_v r
    cases q : w[l]? with
    | none => rw [q] at p; exact p.elim
    | some o =>
      rw [q] at p
      have ob := s.ob l a _ h1 q
      cases o with
      | lst xs =>
        obtain ⟨vs, f1, f2⟩ := ob
        exact ⟨_, xs.length, rfl, .inl ⟨_, Evl.sq_of f1, (rds_len f2).symm⟩, p _ ι G H .refl s (.int _)⟩
      | tup xs =>
        obtain ⟨vs, f1, f2⟩ := ob
        exact ⟨_, xs.length, rfl, .inr ⟨_, Evl.st_of f1, (rds_len f2).symm⟩, p _ ι G H .refl s (.int _)⟩
      | _ => exact p.elim
  · exact p.elim
theorem k_max2 {K : PySem.W.Frag} : CallOk K Wx oMax2 (fun xs H Q => ∃ i j, xs = [.int i, .int j] ∧ Q (.int (if j > i then j else i)) H) := by
  intro ι G H w σ vs ds Q s r p
  unfold oMax2 at p
  split at p
  · rename_i i j
    obtain ⟨v, v2, rfl, h1, h2⟩ := two_v r
    cases h1; cases h2
    exact ⟨i, j, rfl, p _ ι G H .refl s (.int _)⟩
  · exact p.elim
theorem k_min2 {K : PySem.W.Frag} : CallOk K Wx oMin2 (fun xs H Q => ∃ i j, xs = [.int i, .int j] ∧ Q (.int (if j < i then j else i)) H) := by
  intro ι G H w σ vs ds Q s r p
  unfold oMin2 at p
  split at p
  · rename_i i j
    obtain ⟨v, v2, rfl, h1, h2⟩ := two_v r
    cases h1; cases h2
    exact ⟨i, j, rfl, p _ ι G H .refl s (.int _)⟩
  · exact p.elim
theorem k_int1 {K : PySem.W.Frag} : CallOk K Wx oInt1 (fun xs H Q => (∃ i, xs = [.int i] ∧ Q (.int i) H) ∨ ∃ k, xs = [.bl k] ∧ Q (.int (if k then 1 else 0)) H) := by
  intro ι G H w σ vs ds Q s r p
  unfold oInt1 at p
  split at p
  · rename_i i
    obtain ⟨v, rfl, h⟩ := one_v r
    cases h
    exact .inl ⟨i, rfl, p _ ι G H .refl s (.int _)⟩
  · rename_i i
    obtain ⟨v, rfl, h⟩ := one_v r
    cases h
    exact .inr ⟨i, rfl, p _ ι G H .refl s (.int _)⟩
  · exact p.elim
theorem k_list {K : PySem.W.Frag} : CallOk K Wx oList (fun xs H Q => ∃ p ys, xs = [.ref p] ∧ (SqL K H p ys ∨ SqT K H p ys) ∧ ∀ l, H l = none → Q (.ref l) (upd H l (.lst ys))) := by
  intro ι G H w σ vs ds Q s r p
  unfold oList at p
  split at p
  · rename_i ds
    obtain ⟨v, rfl, h⟩ := one_v r
    cases h with
    | lst h1 h2 => exact ⟨_, _, rfl, .inl (Evl.ex_l s.sub h1), fun q hq => p _ ι _ _ (Evo.newD s.sub hq) (s.newD hq) (.lst (Evl.sq_of upd_same) (dp_monos (Evl.Ex.new (Evl.fresh_back s.sub hq)) _ _ h2))⟩
  · rename_i ds
    obtain ⟨v, rfl, h⟩ := one_v r
    cases h with
    | tup h1 h2 => exact ⟨_, _, rfl, .inr (Evl.ex_t s.sub h1), fun q hq => p _ ι _ _ (Evo.newD s.sub hq) (s.newD hq) (.lst (Evl.sq_of upd_same) (dp_monos (Evl.Ex.new (Evl.fresh_back s.sub hq)) _ _ h2))⟩
  · rename_i l
    obtain ⟨v, rfl, a, h1, rfl⟩ := one_v r
    cases q : w[l]? with
    | none => rw [q] at p; exact p.elim
    | some o =>
      rw [q] at p
      have ob := s.ob l a _ h1 q
      cases o with
      | lst xs =>
        obtain ⟨vs, f1, f2⟩ := ob
        simp only at p
        cases q2 : allD xs with
        | none => rw [q2] at p; exact p.elim
        | some ds =>
          rw [q2] at p
          exact ⟨_, _, rfl, .inl (Evl.sq_of f1), fun q hq => p _ ι _ _ (Evo.newD s.sub hq) (s.newD hq) (.lst (Evl.sq_of upd_same) (dp_monos (Evl.Ex.new (Evl.fresh_back s.sub hq)) _ _ (all_dp f2 q2)))⟩
      | _ => exact p.elim
  · exact p.elim
theorem k_listS {K : PySem.W.Frag} : CallOk K Wx oListS (fun xs H Q => ∃ p ys, xs = [.ref p] ∧ (SqL K H p ys ∨ SqT K H p ys) ∧ ∀ l, H l = none → Q (.ref l) (upd H l (.lst ys))) := by
  intro ι G H w σ vs ds Q s r p
  unfold oListS at p
  split at p
  · rename_i ds
    obtain ⟨v, rfl, h⟩ := one_v r
    cases h with
    | lst h1 h2 => exact ⟨_, _, rfl, .inl (Evl.ex_l s.sub h1), fun q hq => p _ _ _ _ (Evo.newL hq) (s.newL hq ⟨_, rfl, RDs.mono (Evo.newL (o := .lst []) hq) (rds_of_dps h2)⟩) (loc_new s)⟩
  · rename_i ds
    obtain ⟨v, rfl, h⟩ := one_v r
    cases h with
    | tup h1 h2 => exact ⟨_, _, rfl, .inr (Evl.ex_t s.sub h1), fun q hq => p _ _ _ _ (Evo.newL hq) (s.newL hq ⟨_, rfl, RDs.mono (Evo.newL (o := .lst []) hq) (rds_of_dps h2)⟩) (loc_new s)⟩
  · rename_i l
    obtain ⟨v, rfl, a, h1, rfl⟩ := one_v r
    cases q : w[l]? with
    | none => rw [q] at p; exact p.elim
    | some o =>
      rw [q] at p
      have ob := s.ob l a _ h1 q
      cases o with
      | lst xs =>
        obtain ⟨vs, f1, f2⟩ := ob
        exact ⟨_, _, rfl, .inl (Evl.sq_of f1), fun q hq => p _ _ _ _ (Evo.newL hq) (s.newL hq ⟨_, rfl, RDs.mono (Evo.newL (o := .lst []) hq) f2⟩) (loc_new s)⟩
      | _ => exact p.elim
  · exact p.elim
/-- the kind that isinstance is told -/
theorem kind_ty {K : PySem.W.Frag} {ι : List Addr} {G H : Hp} {w : Wd} {v : V} {d : DV} {t : String} (s : WS K ι G H w) (r : RD K ι G v d) (h : kindD d w = some t) : TyX K H v (.type t) := by
  unfold kindD at h
  split at h
  · cases h; cases r; exact .base .non
  · cases h; cases r; exact .base (.bl _)
  · cases h; cases r; exact .base (.int _)
  · cases h; cases r; exact .base (.str _)
  · cases h
    cases r with
    | lst h1 h2 =>
      rcases Evl.ex_l s.sub h1 with (q | ⟨o, q⟩) | ⟨o, its, n, q, c, _⟩
      · exact .base (.lst q)
      · exact .base (.frz q)
      · exact .kList q c
  · cases h
    cases r with
    | tup h1 h2 =>
      rcases Evl.ex_t s.sub h1 with (q | ⟨o, q⟩) | ⟨o, its, n, q, c, _⟩
      · exact .base (.tup q)
      · exact .fTuple q
      · exact .kTuple q c
  · rename_i l
    obtain ⟨a, h1, rfl⟩ := r
    cases q : w[l]? with
    | none => rw [q] at h; cases h
    | some o =>
      rw [q] at h
      have ob := s.ob l a _ h1 q
      cases o with
      | lst xs =>
        cases h
        obtain ⟨vs, f1, f2⟩ := ob
        exact .base (.lst f1)
      | tup xs =>
        cases h
        obtain ⟨vs, f1, f2⟩ := ob
        exact .base (.tup f1)
      | _ => cases h
  · cases h
/-- what the class's own line of the library says of the kinds -/
def KindsOk (K : PySem.W.Frag) (c : String) : Prop := ∀ t ∈ ["NoneType", "bool", "int", "str", "list", "tuple"], PySem.W.kitOne K (.type t) (.type c) = some (isKind t c)
theorem kind_in {d : DV} {w : Wd} {t : String} (h : kindD d w = some t) : t ∈ ["NoneType", "bool", "int", "str", "list", "tuple"] := by
  unfold kindD at h
  split at h
  all_goals first
    | (cases h; simp; done)
    | cases h
    | (split at h <;> first | (cases h; simp; done) | cases h)
theorem x_isi {c : String} {cx : Str} {cp : Pos} (kc : KindsOk X.K c) (hg : Gl X "isinstance") (hm : X.mg "isinstance" = none) (hgc : Gl X cx) (hmc : X.mg cx = none) (hvc : bootBuiltins cx = some (.type c)) (ha : PE X a (cE X.K α Wx xa))
    (hn2 : cx ≠ "__name__" := by decide) (hdb2 : (cx == ("__debug__" : Str)) = false := by decide) (he : starEach [a, .Name cx cp] X.env = (false, eval a X.env) :: starEach [.Name cx cp] X.env := by rfl) (hpl : (backTo pos (starEach [.Name cx cp] X.env)).any (·.1) = false := by rfl)
    (hv : bootBuiltins "isinstance" = some (.builtin "isinstance") := by decide +kernel) (hs1 : starEach [.Name cx cp] X.env = (false, eval (.Name cx cp) X.env) :: starEach [] X.env := by rfl) :
    PE X (.Call (.Name "isinstance" p) [a, .Name cx cp] [] pos) (cE X.K α Wx (xIsi c xa)) :=
  pe_imp (pe_callB call_isi hg hm hv (pa_cons ha (pa_cons (pe_bltn (v := .ty c) hgc hmc hvc rfl hn2 hdb2) pa_nil hs1) he) (by decide) (by decide) he hpl) fun σ H Q ⟨ι, G, w, env, sw, ev, p⟩ =>
    ⟨ι, G, w, env, sw, ev, PostE.bind p fun d1 w1 v1 ι1 G1 H1 _ e1 s1 r1 p1 => by
      unfold oIsi at p1
      cases q : kindD d1 w1 with
      | none => rw [q] at p1; exact p1.elim
      | some t =>
        rw [q] at p1
        exact ⟨v1, .ty c, .type t, .type c, _, rfl, .ty c, kind_ty s1 r1 q, kc t (kind_in q), p1 _ ι1 G1 H1 .refl s1 (.bl _)⟩⟩
end
end RK

set_option Elab.async false
set_option linter.all false
set_option maxRecDepth 100000
set_option maxHeartbeats 4000000
/-! RKit, part D: exceptions, names of the module, objects, methods, lists that change. -/
namespace RK
open PySem PySem.Spec PyProof.Rows L2

/-! ### what the machine tells of errors -/
def isErr (mt : Str → Str → Bool) (errs : List Str) (c h : Str) : Bool := errs.contains c && mt c h
def clrR (f : En → En) : Rt → Rt
  | .ok (.nx e) w => .ok (.nx (f e)) w
  | .ok (.bk e) w => .ok (.bk (f e)) w
  | .ok (.ct e) w => .ok (.ct (f e)) w
  | .ok (.rt d) w => .ok (.rt d) w
  | .ex _ _ _ => .bad
  | .bad => .bad
def handle (mt : Str → Str → Bool) : List (Str × SM) → Str → En → Wd → Rt
  | [], c, e, w => .ex c e w
  | (h, s) :: r, c, e, w => if mt c h = true then clrR clr (s (clr e) w) else handle mt r c e w
def sTry (mt : Str → Str → Bool) (errs : List Str) (sb : SM) (hds : List (Str × SM)) : SM := fun e w => match sb e w with
  | .ex c e1 w1 => if c ∈ errs then handle mt hds c e1 w1 else .bad
  | r => r
def sTryAs (mt : Str → Str → Bool) (errs : List Str) (sb : SM) (h : Str) (i : Nat) (sh : SM) : SM := fun e w => match sb e w with
  | .ex c e1 w1 => if c ∈ errs then (if mt c h = true then clrR (fun e => (clr e).set i none) (sh ((clr e1).set i (some (.exc c))) w1) else .ex c e1 w1) else .bad
  | r => r
/-- isinstance(e, C), e the caught exception at slot i -/
def xIsE (mt : Str → Str → Bool) (i : Nat) (h : Str) : XM := fun e w => match e[i]? with
  | some (some (.exc c)) => .ok (.d (.bool (mt c h))) w
  | _ => .bad
/-- the classes' own facts -/
def MtOk (K : PySem.W.Frag) (mt : Str → Str → Bool) (errs : List Str) (h : Str) : Prop := ∀ c ∈ errs, PySem.W.exmOne K (.ref (He.ga K c)) (.ref (He.ga K h)) = some (mt c h)
abbrev noX : WX := fun _ _ _ _ => False
section
variable {K : PySem.W.Frag} {α β : Addr × Str} {Wx : WX} {ι : List Addr} {G H : Hp} {D D' : Ends}
theorem clr_post {f : En → En} {g : L2.St → L2.St} {r : Rt} (hf : ∀ {ι G σ e}, EnvR K β ι G σ e → EnvR K α ι G (g σ) (f e)) (p : PostS K α Wx ι G H (clrR f r) D) :
    PostS K β noX ι G H r { nx := fun σ H => D.nx (g σ) H, rt := D.rt, bk := fun σ H => D.bk (g σ) H, ct := fun σ H => D.ct (g σ) H } := by
  cases r with
  | bad => exact p
  | ex c e w => exact p.elim
  | ok c w =>
    cases c with
    | nx e => exact fun σ' ι' G' H' e1 s1 ev => p _ ι' G' H' e1 s1 (hf ev)
    | bk e => exact fun σ' ι' G' H' e1 s1 ev => p _ ι' G' H' e1 s1 (hf ev)
    | ct e => exact fun σ' ι' G' H' e1 s1 ev => p _ ι' G' H' e1 s1 (hf ev)
    | rt d => exact p
def hdT (K : PySem.W.Frag) (hds : List (Str × SM)) : List (Value × (Addr → Value → Option Addr → TS)) := hds.map fun h => (.ref (He.ga K h.1), fun a _ _ => cS K (a, h.1) noX h.2)
theorem handle_many {mt : Str → Str → Bool} {errs : List Str} {c : Str} {e : En} {w : Wd} {σ : L2.St} (hc : c ∈ errs) : ∀ {hds : List (Str × SM)}, (∀ h ∈ hds, MtOk K mt errs h.1) → WS K ι G H w → EnvR K α ι G σ e →
    PostS K α Wx ι G H (handle mt hds c e w) D → wMany K Wx D (hdT K hds) (.ref (He.ga K c)) none σ H
  | [], _, sw, ev, p => p σ ι G H .refl sw ev
  | (h, s) :: r, hm, sw, ev, p => by
    refine ⟨mt c h, hm (h, s) (List.mem_cons_self ..) c hc, fun hb a ha => ?_, fun hb => ?_⟩
    · unfold handle at p
      rw [if_pos hb] at p
      exact ⟨ι, G, w, clr e, sw, ev.clr, clr_post (g := id) (fun ev => ev.clr) p⟩
    · unfold handle at p
      rw [if_neg (by rw [hb]; decide)] at p
      exact handle_many hc (fun h hh => hm h (List.mem_cons_of_mem _ hh)) sw ev p
end
section
variable {X : Cx} {α : Addr × Str} {Wx : WX} {body suite : List Stmt} {b₀ : Stmt} {h₀ : ExceptHandler} {hs : List ExceptHandler} {pos pos' np : Pos} {mt : Str → Str → Bool} {errs : List Str} {sb sh : SM} {hds : List (Str × SM)} {x n : Str} {i : Nat}
theorem s_try (h1 : X.stack = X.env :: X.outer) (h2 : X.env.frame = some X.env.locals) (tk : Takes X Wx) (hm : ∀ h ∈ hds, MtOk X.K mt errs h.1)
    (hb : ∀ (W : WX) (pn : List (Addr × Obj)) (xe : Value → Shared → Prop), Takes (X.tr pn xe) W → PassesOwn (model X.prog X.w) X.A X.env xe → PSs (X.tr pn xe) body (cS X.K α W sb))
    (hh : HdsOk X (h₀ :: hs) (hdT X.K hds)) : PS X (.Try body (h₀ :: hs) [] [] pos) (cS X.K α Wx (sTry mt errs sb hds)) :=
  ps_imp (ps_try_many (tb := fun W => cS X.K α W sb) (Wout := Wx) h1 h2 tk hb hh) fun D σ H ⟨ι, G, w, env, sw, ev, p⟩ => by
    refine ⟨ι, G, w, env, sw, ev, ?_⟩
    unfold sTry at p
    cases q : sb env w with
    | bad => rw [q] at p; exact p
    | ok c w1 =>
      rw [q] at p
      cases c <;> exact p
    | ex c e1 w1 =>
      rw [q] at p
      simp only at p
      split at p
      · rename_i hc
        exact fun σ' ι' G' H' E1 S1 EV1 => handle_many hc hm S1 EV1 (PostS.mono E1 p)
      · exact p.elim
theorem s_tryAs (h1 : X.stack = X.env :: X.outer) (h2 : X.env.frame = some X.env.locals) (hN : X.N.Nodup) (hi : X.N[i]? = some n) (hln : X.env.kindOf n = some .local) (hc : Names X x (.ref (He.ga X.K x))) (tk : Takes X Wx) (hm : MtOk X.K mt errs x)
    (hb : ∀ (W : WX) (pn : List (Addr × Obj)) (xe : Value → Shared → Prop), Takes (X.tr pn xe) W → PassesOwn (model X.prog X.w) X.A X.env xe → PSs (X.tr pn xe) body (cS X.K α W sb))
    (hsu : ∀ c ∈ errs, ∀ (a : Addr) (oe : Obj) (pn : List (Addr × Obj)), Zc (.ref (He.ga X.K c)) none oe → (∃ vs, oe.data = .fields vs) → PSs (X.suite a ((a, oe) :: pn)) (b₀ :: suite) (cS X.K (a, c) noX sh)) :
    PS X (.Try body [.ExceptHandler (some (.Name x np)) (some n) (b₀ :: suite) pos'] [] [] pos) (cS X.K α Wx (sTryAs mt errs sb x i sh)) :=
  ps_imp (ps_try_as (tb := fun W => cS X.K α W sb) (Wout := Wx) (ts := fun a cls d D σ H => ∃ c ∈ errs, cls = .ref (He.ga X.K c) ∧ d = none ∧ cS X.K (a, c) noX sh D σ H) h1 h2 hN hi hln hc tk hb
    (fun a oe cls d pn hz hf => ⟨fun pins s σ H D I h => by
      obtain ⟨c, hce, rfl, rfl, h⟩ := h
      exact (hsu c hce a oe pn hz hf).run pins s σ H D I h⟩)) fun D σ H ⟨ι, G, w, env, sw, ev, p⟩ => by
    refine ⟨ι, G, w, env, sw, ev, ?_⟩
    unfold sTryAs at p
    cases q : sb env w with
    | bad => rw [q] at p; exact p
    | ok c w1 =>
      rw [q] at p
      cases c <;> exact p
    | ex c e1 w1 =>
      rw [q] at p
      simp only at p
      split at p
      · rename_i hce
        intro σ' ι' G' H' E1 S1 EV1
        refine ⟨mt c x, hm c hce, fun hb a ha => ?_, fun hb => ?_⟩
        · rw [if_pos hb] at p
          refine ⟨c, hce, rfl, rfl, ι', G', w1, (clr e1).set i (some (.exc c)), S1, EV1.clr.set (show SlotR X.K (a, c) ι' G' (some (.ref a)) (some (.exc c)) from ⟨rfl, rfl⟩) i, ?_⟩
          exact clr_post (g := fun σ => σ.set i none) (fun ev => ev.clr.set (s := none) (d := none) trivial i) (PostS.mono E1 p)
        · rw [if_neg (by rw [hb]; decide)] at p
          exact p σ' ι' G' H' E1 S1 EV1
      · exact p.elim
/-- an own error class of the module -/
structure ExcF (K : PySem.W.Frag) (mg : Str → Option Value) (n : Str) : Prop where
  g : mg n = some (.ref (He.ga K n))
  x : PySem.W.excIn K (He.ga K n) He.veBase "ValueError.__new__" = true
  k : PySem.W.keepIn K (.ref (He.ga K n)) = true
  b : PySem.W.subIn K (.ref (He.ga K n)) (.type "BaseException") = some true
  t : PySem.W.typeIn K (.ref (He.ga K n)) = some (.type "type")
theorem s_raiseC {m : Str} {j : Nat} {p p2 : Pos} (hc : X.calm = true) (tk : Takes X Wx) (F : ExcF X.K X.mg n) (hg : Gl X n) (hdb : (n == ("__debug__" : Str)) = false := by decide) :
    PS X (.Raise (some (.Call (.Name n p) [.Constant (.str m) j p2] [] pos')) none pos) (cS X.K α Wx (sRaise n)) :=
  s_raise (ps_raise hc tk (pmk_own PySem.F.excBase_ValueError F.x F.g F.k (raises_own F.b F.t) hg hdb))
/-- isinstance of the caught exception -/
def IsOk (K : PySem.W.Frag) (mt : Str → Str → Bool) (errs : List Str) (h : Str) (v : Value) : Prop := ∀ c ∈ errs, PySem.W.kitOne K (.ref (He.ga K c)) v = some (mt c h)
theorem x_isE {h : Str} {cv : V} {v : Value} {a : Addr} {c : Str} {oe : Obj} {pn : List (Addr × Obj)} {p : Pos} {e ce : Expr} (hce : c ∈ errs) (C : ExcC X.K (He.ga X.K c)) (hz : Zc (.ref (He.ga X.K c)) none oe) (hf : ∃ vs, oe.data = .fields vs)
    (hv : ∀ u, RelV cv u → u = v) (io : IsOk X.K mt errs h v) (hg : Gl (X.suite a ((a, oe) :: pn)) "isinstance") (hm : X.mg "isinstance" = none) (hvar : PE (X.suite a ((a, oe) :: pn)) e (tVar i)) (hcl : PE (X.suite a ((a, oe) :: pn)) ce (tC cv))
    (he : starEach [e, ce] (X.suite a ((a, oe) :: pn)).env = (false, eval e (X.suite a ((a, oe) :: pn)).env) :: starEach [ce] (X.suite a ((a, oe) :: pn)).env := by rfl) (hpl : (backTo pos (starEach [ce] (X.suite a ((a, oe) :: pn)).env)).any (·.1) = false := by rfl)
    (hb : bootBuiltins "isinstance" = some (.builtin "isinstance") := by decide +kernel) (hs1 : starEach [ce] (X.suite a ((a, oe) :: pn)).env = (false, eval ce (X.suite a ((a, oe) :: pn)).env) :: starEach [] (X.suite a ((a, oe) :: pn)).env := by rfl) :
    PE (X.suite a ((a, oe) :: pn)) (.Call (.Name "isinstance" p) [e, ce] [] pos) (cE X.K (a, c) Wx (xIsE mt i h)) :=
  pe_imp (pe_callB (call_isE C hz hf) hg hm hb (pa_cons hvar (pa_cons hcl pa_nil hs1) he) (by decide) (by decide) he hpl) fun σ H Q ⟨ι, G, w, env, sw, ev, q⟩ => by
    unfold xIsE at q
    cases q1 : env[i]? with
    | none => rw [q1] at q; exact q.elim
    | some o =>
      rw [q1] at q
      obtain ⟨sl, f1, f2⟩ := ev.at_ q1
      cases o with
      | none => exact q.elim
      | some d =>
        cases d with
        | d y => exact q.elim
        | loc y => exact q.elim
        | exc c' =>
          obtain ⟨rfl, rfl⟩ := f2
          exact ⟨.ref a, f1, cv, v, _, rfl, hv, io _ hce, q _ ι G H .refl sw (.bl _)⟩
end

/-! ### names of the module -/
section
variable {X : Cx} {α : Addr × Str} {Wx : WX} {x : Str} {pos : Pos}
theorem x_gint {i : Int} (hg : Gl X x) (hm : ∃ t, X.mg x = some (.int i t)) (hd : (x == ("__debug__" : Str)) = false := by decide) : PE X (.Name x pos) (cE X.K α Wx (xLit (.int i))) := by
  obtain ⟨t, hm⟩ := hm
  exact x_lit (pe_glob (v := .int i) hg hm ⟨t, rfl⟩ hd) fun _ => .int i
theorem x_gstr {z : Str} (hg : Gl X x) (hm : ∃ t, X.mg x = some (.str z t)) (hd : (x == ("__debug__" : Str)) = false := by decide) : PE X (.Name x pos) (cE X.K α Wx (xLit (.str z))) := by
  obtain ⟨t, hm⟩ := hm
  exact x_lit (pe_glob (v := .str z) hg hm ⟨t, rfl⟩ hd) fun _ => .str z
/-- a tuple of the module's top -/
theorem x_gtup {d : PyData} (hg : Gl X x) (hm : X.mg x = some (.ref (He.ga X.K x))) (h : ∀ G, Dp X.K G (.ref (He.ga X.K x)) d) (hd : (x == ("__debug__" : Str)) = false := by decide) : PE X (.Name x pos) (cE X.K α Wx (xLit d)) :=
  x_lit (pe_glob (v := .ref (He.ga X.K x)) hg hm rfl hd) h
theorem dps_ints {K : PySem.W.Frag} {G : Hp} : ∀ ns : List Int, DpAll K G (ns.map V.int) (ns.map PyData.int)
  | [] => .nil
  | n :: ns => .cons (.int n) (dps_ints ns)
theorem dp_tupB {K : PySem.W.Frag} {x : Str} {ns : List Int} (h : He.tupB K x (ns.map He.Dv.int) = true) (G : Hp) : Dp K G (.ref (He.ga K x)) (.tuple (ns.map .int)) := by
  have q := He.tupB_ok h G
  rw [List.map_map] at q
  exact .tup q (dps_ints ns)
end
end RK

set_option Elab.async false
set_option linter.all false
set_option maxRecDepth 100000
set_option maxHeartbeats 4000000
/-! RKit, part E: lists put together, in, append, targets of several names; what the head tells. -/
namespace RK
open PySem PySem.Spec PyProof.Rows L2

/-! ### list + list, whatever stands there -/
def rCatG (K : PySem.W.Frag) : R2 := fun x y H Q => ∃ l b xs zs, x = .ref l ∧ y = .ref b ∧ SqL K H l xs ∧ SqL K H b zs ∧ xs.length + zs.length ≤ sizeLine ∧ ∀ p, H p = none → Q (.ref p) (upd H p (.lst (xs ++ zs)))
theorem op_catG {X : Cx} : OpR X (binaryOp .Add) (rCatG X.K) := by
  intro pins s σ H x y v u Q I rx ry h
  obtain ⟨l, b, xs, zs, rfl, rfl, hH, hB, hz, q⟩ := h
  cases rx
  cases ry
  obtain ⟨its, r, p1, hz1⟩ := I.list hH
  obtain ⟨its2, r2, p2, hz2⟩ := I.list hB
  obtain ⟨⟨cls, dd, data, sl⟩, n, ho, hc, hdd, hd⟩ := p1
  obtain ⟨⟨cls2, dd2, data2, sl2⟩, n2, ho2, hc2, hdd2, hd2⟩ := p2
  simp only at hc hd hdd hc2 hd2 hdd2
  subst hc hd hdd hc2 hd2 hdd2
  have hlen : its.toArray.size + its2.toArray.size ≤ sizeLine := by rw [List.size_toArray, List.size_toArray, ← r.length, ← r2.length]; exact hz
  refine concat_meets ⟨_, ho, rfl⟩ ⟨_, ho2, rfl⟩ noFill_list_add seq_list_add PySem.F.slot_list_add PySem.F.entry_list_add (PySem.F.args_list_add_2 _ _) (list_addW l b its.toArray its2.toArray n n2 none none sl sl2 hlen) ⟨ho, ho2, ?_⟩
  have ea : its.toArray ++ its2.toArray = (its ++ its2).toArray := by simp
  rw [ea]
  exact ⟨.ref _, _, I.lnew (t' := s.toks) (r.append r2) (by rw [List.length_append]; exact hz), rfl, q _ I.fresh⟩
/-- the plain items of a list -/
def itemsD (w : Wd) : DV → Option (List PyData)
  | .d (.list ds) => some ds
  | .loc l => match w[l]? with
    | some (.lst xs) => allD xs
    | _ => none
  | _ => none
def oCat : DV → DV → Wd → Rs DV := fun x y w => match itemsD w x, itemsD w y with
  | some ds, some es => if ds.length + es.length ≤ 100000 then .ok (.d (.list (ds ++ es))) w else .bad
  | _, _ => .bad
/-- list + list, a new list of the store -/
def itemsV (w : Wd) : DV → Option (List DV)
  | .d (.list ds) => some (ds.map .d)
  | .loc l => match w[l]? with
    | some (.lst xs) => some xs
    | _ => none
  | _ => none
section
variable {X : Cx} {α : Addr × Str} {Wx : WX} {a b c e : Expr} {es : List Expr} {xa xb xc : XM} {xs : AM} {pos : Pos}
theorem items_dp {K : PySem.W.Frag} {ι : List Addr} {G H : Hp} {w : Wd} {v : V} {x : DV} {ds : List PyData} (s : WS K ι G H w) (r : RD K ι G v x) (h : itemsD w x = some ds) : ∃ l vs, v = .ref l ∧ SqL K H l vs ∧ DpAll K G vs ds := by
  unfold itemsD at h
  split at h
  · cases h
    cases r with
    | lst h1 h2 => exact ⟨_, _, rfl, Evl.ex_l s.sub h1, h2⟩
  · rename_i l
    obtain ⟨a, h1, rfl⟩ := r
    cases q : w[l]? with
    | none => rw [q] at h; cases h
    | some o =>
      rw [q] at h
      cases o with
      | lst xs =>
        obtain ⟨vs, f1, f2⟩ := s.ob l a _ h1 q
        exact ⟨a, vs, rfl, Evl.sq_of f1, all_dp f2 h⟩
      | _ => cases h
  · cases h
theorem items_rd {K : PySem.W.Frag} {ι : List Addr} {G H : Hp} {w : Wd} {v : V} {x : DV} {ds : List DV} (s : WS K ι G H w) (r : RD K ι G v x) (h : itemsV w x = some ds) : ∃ l vs, v = .ref l ∧ SqL K H l vs ∧ RDs K ι G vs ds := by
  unfold itemsV at h
  split at h
  · cases h
    cases r with
    | lst h1 h2 => exact ⟨_, _, rfl, Evl.ex_l s.sub h1, rds_of_dps h2⟩
  · rename_i l
    obtain ⟨a, h1, rfl⟩ := r
    cases q : w[l]? with
    | none => rw [q] at h; cases h
    | some o =>
      rw [q] at h
      cases o with
      | lst xs =>
        cases h
        obtain ⟨vs, f1, f2⟩ := s.ob l a _ h1 q
        exact ⟨a, vs, rfl, Evl.sq_of f1, f2⟩
      | _ => cases h
  · cases h
theorem dps_app {K : PySem.W.Frag} {G : Hp} : ∀ {vs : List V} {ds : List PyData} {us : List V} {es : List PyData}, DpAll K G vs ds → DpAll K G us es → DpAll K G (vs ++ us) (ds ++ es)
  | _, [], _, _, h, h2 => by cases h; exact h2
  | _, d :: ds, _, _, h, h2 => by
    cases h with
    | cons h1 h3 => exact .cons h1 (dps_app h3 h2)
theorem k_cat {K : PySem.W.Frag} : BinOk K Wx oCat (rCatG K) := by
  intro ι G H w σ x y dx dy Q s rx ry p
  unfold oCat at p
  split at p
  · rename_i ds es h1 h2
    split at p
    · rename_i hl
      obtain ⟨l, vs, rfl, f1, f2⟩ := items_dp s rx h1
      obtain ⟨l2, vs2, rfl, f3, f4⟩ := items_dp s ry h2
      exact ⟨l, l2, vs, vs2, rfl, rfl, f1, f3, Evl.sz_of (by rw [dps_len f2, dps_len f4]; exact hl), fun q hq => p _ ι _ _ (Evo.newD s.sub hq) (s.newD hq) (.lst (Evl.sq_of upd_same) (dp_monos (Evl.Ex.new (Evl.fresh_back s.sub hq)) _ _ (dps_app f2 f4)))⟩
    · exact p.elim
  · exact p.elim
theorem k_in {K : PySem.W.Frag} : BinOk K Wx oIn (rInD K) := by
  intro ι G H w σ x y dx dy Q s rx ry p
  unfold oIn at p
  split at p
  · rename_i d ds h1 h2
    split at p
    · rename_i hs
      obtain ⟨s1, s2⟩ := Bool.and_eq_true_iff.mp hs
      exact ⟨_, _, dp_toDH s rx h1, dp_toDH s ry h2, s1, s2, p _ ι G H .refl s (.bl _)⟩
    · exact p.elim
  · exact p.elim
theorem k_notIn {K : PySem.W.Frag} : BinOk K Wx oNotIn (rNotInD K) := by
  intro ι G H w σ x y dx dy Q s rx ry p
  unfold oNotIn at p
  split at p
  · rename_i d ds h1 h2
    split at p
    · rename_i hs
      obtain ⟨s1, s2⟩ := Bool.and_eq_true_iff.mp hs
      exact ⟨_, _, dp_toDH s rx h1, dp_toDH s ry h2, s1, s2, p _ ι G H .refl s (.bl _)⟩
    · exact p.elim
  · exact p.elim
theorem signIn_some {x z : Str} {b : Bool} (h : signIn x z = some b) : ∃ c, x = ⟨#[c]⟩ ∧ b = decide (c ∈ z.cps.toList) := by
  unfold signIn at h
  split at h
  · rename_i c hc
    cases h
    refine ⟨c, ?_, rfl⟩
    obtain ⟨⟨l⟩⟩ := x
    have : l = [c] := hc
    rw [this]
  · cases h
theorem k_inS {K : PySem.W.Frag} : BinOk K Wx oInS (fun x y H Q => ∃ (c : Nat) (z : Str), x = .str ⟨#[c]⟩ ∧ y = .str z ∧ Q (.bl (decide (c ∈ z.cps.toList))) H) := by
  intro ι G H w σ x y dx dy Q s rx ry p
  unfold oInS at p
  split at p
  · rename_i x z
    cases rx; cases ry
    cases q : signIn x z with
    | none => rw [q] at p; exact p.elim
    | some b =>
      rw [q] at p
      obtain ⟨c, rfl, rfl⟩ := signIn_some q
      exact ⟨c, z, rfl, rfl, p _ ι G H .refl s (.bl _)⟩
  · exact p.elim
theorem k_notInS {K : PySem.W.Frag} : BinOk K Wx oNotInS (fun x y H Q => ∃ (c : Nat) (z : Str), x = .str ⟨#[c]⟩ ∧ y = .str z ∧ Q (.bl (!decide (c ∈ z.cps.toList))) H) := by
  intro ι G H w σ x y dx dy Q s rx ry p
  unfold oNotInS at p
  split at p
  · rename_i x z
    cases rx; cases ry
    cases q : signIn x z with
    | none => rw [q] at p; exact p.elim
    | some b =>
      rw [q] at p
      obtain ⟨c, rfl, rfl⟩ := signIn_some q
      exact ⟨c, z, rfl, rfl, p _ ι G H .refl s (.bl _)⟩
  · exact p.elim
end

/-! ### methods of a list of the store -/
def lstAt (w : Wd) : DV → Option (Nat × List DV)
  | .loc l => match w[l]? with
    | some (.lst xs) => some (l, xs)
    | _ => none
  | _ => none
def xApp (xo xe : XM) : XM := fun e w => (xo e w).bind fun x w1 => match lstAt w1 x with
  | none => .bad
  | some _ => (xe e w1).bind fun y w2 => match lstAt w2 x with
    | none => .bad
    | some (l, xs) => if xs.length < 100000 then .ok (.d .none) (w2.set l (.lst (xs ++ [y]))) else .bad
def xPopL (xo : XM) : XM := fun e w => (xo e w).bind fun x w1 => match lstAt w1 x with
  | none => .bad
  | some (l, xs) => match xs[xs.length - 1]? with
    | some y => .ok y (w1.set l (.lst xs.dropLast))
    | none => .bad
def xClearL (xo : XM) : XM := fun e w => (xo e w).bind fun x w1 => match lstAt w1 x with
  | none => .bad
  | some (l, xs) => .ok (.d .none) (w1.set l (.lst []))
theorem lstAt_ok {K : PySem.W.Frag} {ι : List Addr} {G H : Hp} {w : Wd} {v : V} {x : DV} {l : Nat} {xs : List DV} (s : WS K ι G H w) (r : RD K ι G v x) (h : lstAt w x = some (l, xs)) : x = .loc l ∧ ∃ a vs, ι[l]? = some a ∧ v = .ref a ∧ H a = some (.lst vs) ∧ RDs K ι G vs xs := by
  unfold lstAt at h
  split at h
  · rename_i l'
    obtain ⟨a, h1, rfl⟩ := r
    cases q : w[l']? with
    | none => rw [q] at h; cases h
    | some o =>
      rw [q] at h
      cases o with
      | lst ys =>
        cases h
        obtain ⟨vs, f1, f2⟩ := s.ob _ a _ h1 q
        exact ⟨rfl, a, vs, h1, rfl, f1, f2⟩
      | _ => cases h
  · cases h
theorem RDs.app {K : PySem.W.Frag} {ι : List Addr} {G : Hp} {vs us : List V} {xs ys : List DV} (h : RDs K ι G vs xs) (h2 : RDs K ι G us ys) : RDs K ι G (vs ++ us) (xs ++ ys) := by
  induction h with
  | nil => exact h2
  | cons r t ih => exact .cons r ih
theorem RDs.dropLast {K : PySem.W.Frag} {ι : List Addr} {G : Hp} : ∀ {vs : List V} {xs : List DV}, RDs K ι G vs xs → RDs K ι G vs.dropLast xs.dropLast
  | _, _, .nil => .nil
  | _, _, .cons r .nil => .nil
  | _, _, .cons r (.cons r2 t) => .cons r (RDs.dropLast (.cons r2 t))
section
variable {X : Cx} {α : Addr × Str} {Wx : WX} {a b c e : Expr} {es : List Expr} {xa xb xc : XM} {xs : AM} {pos apos cpos : Pos} {ss : List Stmt} {sm : SM}
theorem x_app (ho : PE X a (cE X.K α Wx xa)) (he : PE X e (cE X.K α Wx xb)) (hbase : attributeBase a "append" X.env (eval a X.env) = eval a X.env := by rfl)
    (hfew : ((backTo cpos (starEach [e] X.env)).all (fun x => !x.1) && (backToKw cpos (keywordEach [] X.env)).all (fun x => x.1.isSome)
      && decide (([e] : List Expr).length + ([] : List Keyword).length + (if ([] : List Keyword).isEmpty then 0 else 1) < 30)) = true := by rfl)
    (hline : (apos.endLine == cpos.line) = true := by rfl) (hs : starEach [e] X.env = (false, eval e X.env) :: starEach [] X.env := by rfl) (hplain : (backTo cpos (starEach [] X.env)).any (·.1) = false := by rfl) :
    PE X (.Call (.Attribute a "append" apos) [e] [] cpos) (cE X.K α Wx (xApp xa xb)) :=
  pe_imp (pe_bm PySem.F.plainAttrs_list PySem.F.slot_list_append PySem.F.type_list_append mt_append ho (pa_cons he pa_nil hs) hbase hfew hline hs hplain) fun σ H Q ⟨ι, G, w, env, s, ev, p⟩ =>
    ⟨ι, G, w, env, s, ev, PostE.bind p fun d1 w1 v1 ι1 G1 H1 _ e1 s1 r1 p1 => by
      cases q : lstAt w1 d1 with
      | none => rw [q] at p1; exact p1.elim
      | some z =>
        obtain ⟨l, xs⟩ := z
        rw [q] at p1
        obtain ⟨rfl, a', vs, h1, rfl, h2, h3⟩ := lstAt_ok s1 r1 q
        refine ⟨Or.inl ⟨rfl, vs, Evl.sq_of h2⟩, ι1, G1, w1, env, s1, ev.mono e1, PostE.bind p1 fun d2 w2 v2 ι2 G2 H2 _ e2 s2 r2 p2 => ?_⟩
        cases q2 : lstAt w2 (.loc l) with
        | none => rw [q2] at p2; exact p2.elim
        | some z2 =>
          obtain ⟨l2, ys⟩ := z2
          rw [q2] at p2
          simp only at p2
          obtain ⟨e3, a2, us, g1, g2, g3, g4⟩ := lstAt_ok s2 (r1.mono e2) q2
          cases g2
          split at p2
          · rename_i hl
            exact ⟨a', us, v2, rfl, rfl, g3, Evl.sz_lt (by rw [rds_len g4]; exact hl), p2 .non ι2 G2 _ (Evo.write g1) (s2.write g1 ⟨_, rfl, g4.app (.cons r2 .nil)⟩) .non⟩
          · exact p2.elim⟩
theorem x_popL (ho : PE X a (cE X.K α Wx xa)) (hbase : attributeBase a "pop" X.env (eval a X.env) = eval a X.env := by rfl) (hline : (apos.endLine == cpos.line) = true := by rfl) :
    PE X (.Call (.Attribute a "pop" apos) [] [] cpos) (cE X.K α Wx (xPopL xa)) :=
  pe_imp (pe_bm0 PySem.F.plainAttrs_list PySem.F.slot_list_pop PySem.F.type_list_pop mt_pop ho hbase hline) fun σ H Q ⟨ι, G, w, env, s, ev, p⟩ =>
    ⟨ι, G, w, env, s, ev, PostE.bind p fun d1 w1 v1 ι1 G1 H1 _ e1 s1 r1 p1 => by
      cases q : lstAt w1 d1 with
      | none => rw [q] at p1; exact p1.elim
      | some z =>
        obtain ⟨l, xs⟩ := z
        rw [q] at p1
        simp only at p1
        obtain ⟨rfl, a', vs, h1, rfl, h2, h3⟩ := lstAt_ok s1 r1 q
        refine ⟨Or.inl ⟨rfl, vs, Evl.sq_of h2⟩, ?_⟩
        cases q2 : xs[xs.length - 1]? with
        | none => rw [q2] at p1; exact p1.elim
        | some y =>
          rw [q2] at p1
          obtain ⟨v, g1, g2⟩ := rds_at h3 q2
          rw [← rds_len h3] at g1
          exact ⟨a', vs, v, rfl, rfl, h2, g1, p1 v ι1 G1 _ (Evo.write h1) (s1.write h1 ⟨_, rfl, h3.dropLast⟩) g2⟩⟩
theorem x_clearL (ho : PE X a (cE X.K α Wx xa)) (hbase : attributeBase a "clear" X.env (eval a X.env) = eval a X.env := by rfl) (hline : (apos.endLine == cpos.line) = true := by rfl) :
    PE X (.Call (.Attribute a "clear" apos) [] [] cpos) (cE X.K α Wx (xClearL xa)) :=
  pe_imp (pe_bm0 PySem.F.plainAttrs_list PySem.F.slot_list_clear PySem.F.type_list_clear mt_clear ho hbase hline) fun σ H Q ⟨ι, G, w, env, s, ev, p⟩ =>
    ⟨ι, G, w, env, s, ev, PostE.bind p fun d1 w1 v1 ι1 G1 H1 _ e1 s1 r1 p1 => by
      cases q : lstAt w1 d1 with
      | none => rw [q] at p1; exact p1.elim
      | some z =>
        obtain ⟨l, xs⟩ := z
        rw [q] at p1
        simp only at p1
        obtain ⟨rfl, a', vs, h1, rfl, h2, h3⟩ := lstAt_ok s1 r1 q
        exact ⟨Or.inl ⟨rfl, vs, Evl.sq_of h2⟩, a', vs, rfl, rfl, h2, p1 .non ι1 G1 _ (Evo.write h1) (s1.write h1 ⟨_, rfl, .nil⟩) .non⟩⟩
end

/-! ### targets of several names -/
def setsE : List Nat → List DV → En → Option En
  | [], [], e => some e
  | j :: js, d :: ds, e => setsE js ds (e.set j (some d))
  | _, _, _ => none
def gTp (js : List Nat) : TgM := fun d e w => match d with
  | .d (.tuple ds) => setsE js (ds.map .d) e
  | .loc l => match w[l]? with
    | some (.tup xs) => setsE js xs e
    | _ => none
  | _ => none
def gNs : List Nat → TGs
  | [] => gNil
  | j :: js => gCons (gName j) (gNs js)
theorem sets_ok {K : PySem.W.Frag} {α : Addr × Str} {ι : List Addr} {G H : Hp} {Q : L2.St → Hp → Prop} : ∀ {js : List Nat} {vs : List V} {ds : List DV} {σ : L2.St} {env e' : En}, EnvR K α ι G σ env → RDs K ι G vs ds → setsE js ds env = some e' → (∀ σ', EnvR K α ι G σ' e' → Q σ' H) → gNs js vs σ H Q
  | [], _, [], σ, env, e', ev, .nil, h, k => by cases h; exact ⟨rfl, k σ ev⟩
  | [], _, d :: ds, σ, env, e', ev, _, h, k => by cases h
  | j :: js, _, [], σ, env, e', ev, r, h, k => by cases h
  | j :: js, _, d :: ds, σ, env, e', ev, .cons r t, h, k => ⟨_, _, rfl, sets_ok (ev.set (SlotR.of r) j) t h k⟩
theorem sets_len : ∀ {js : List Nat} {ds : List DV} {env e' : En}, setsE js ds env = some e' → ds.length = js.length
  | [], [], _, _, _ => rfl
  | [], d :: ds, _, _, h => by cases h
  | j :: js, [], _, _, h => by cases h
  | j :: js, d :: ds, env, _, h => congrArg Nat.succ (sets_len (js := js) (ds := ds) (env := env.set j (some d)) h)
theorem tg_tup {K : PySem.W.Frag} {α : Addr × Str} (js : List Nat) : TgOk K α (gTup K js.length (gNs js)) (gTp js) := by
  intro ι G H w σ env v d e' Q sw ev r h k
  unfold gTp at h
  split at h
  · rename_i ds
    cases r with
    | tup h1 h2 =>
      have hl := sets_len h
      rw [List.length_map] at hl
      exact ⟨_, _, rfl, Evl.ex_t sw.sub h1, (dps_len h2).trans hl, sets_ok ev (rds_of_dps h2) h k⟩
  · rename_i l
    obtain ⟨a, h1, rfl⟩ := r
    cases q : w[l]? with
    | none => rw [q] at h; cases h
    | some o =>
      rw [q] at h
      cases o with
      | tup xs =>
        obtain ⟨vs, f1, f2⟩ := sw.ob l a _ h1 q
        exact ⟨a, vs, rfl, Evl.st_of f1, (rds_len f2).trans (sets_len h), sets_ok ev f2 h k⟩
      | _ => cases h
  · cases h
def sAsg (g : TgM) (x : XM) : SM := fun e w => (x e w).st e fun d w1 => match g d e w1 with
  | some e1 => .ok (.nx e1) w1
  | none => .bad
theorem s_asg {X : Cx} {α : Addr × Str} {Wx : WX} {tg e : Expr} {g : TG} {m : TgM} {xa : XM} {pos : Pos} (hg : TgOk X.K α g m) (he : PE X e (cE X.K α Wx xa)) (hgt : PG X tg g) (hs : swapsWithSole [tg] e pos.line X.env = pure false := by rfl) (hw : swappedStores [tg] e X.env = pure none := by rfl)
    (h1 : (assignEach [tg] X.env).map (·.2) = [assign tg X.env] := by rfl) : PS X (.Assign [tg] e pos) (cS X.K α Wx (sAsg m xa)) :=
  ps_imp (ps_asg he hgt hs hw h1) fun D σ H ⟨ι, G, w, env, sw, ev, p⟩ => ⟨ι, G, w, env, sw, ev, PostS.st p ev fun d1 w1 v1 ι1 G1 H1 _ e1 s1 r1 p1 => by
    cases q : m d1 env w1 with
    | none => rw [q] at p1; exact p1.elim
    | some e2 =>
      rw [q] at p1
      exact hg ι1 G1 H1 w1 σ env v1 d1 e2 _ s1 (ev.mono e1) r1 q fun σ' ev' => p1 σ' ι1 G1 H1 .refl s1 ev'⟩

/-! ### what the head tells -/
theorem exc_mk {K : PySem.W.Frag} {mg : Str → Option Value} {n : Str} (g : mg n = some (.ref (He.ga K n))) (h : PySem.W.excIn K (He.ga K n) He.veBase "ValueError.__new__" = true ∧ PySem.W.keepIn K (.ref (He.ga K n)) = true ∧ PySem.W.subIn K (.ref (He.ga K n)) (.type "BaseException") = some true ∧
    PySem.W.typeIn K (.ref (He.ga K n)) = some (.type "type")) : ExcF K mg n := ⟨g, h.1, h.2.1, h.2.2.1, h.2.2.2⟩
def eqV2 (a b : Option (Option Value)) : Bool := decide (a = b)
def excCB (K : PySem.W.Frag) (D : Addr) : Bool := decide (PySem.W.findIn K (.ref D) "__getattribute__" = some (some (.builtin "BaseException.__getattribute__"))) && (decide (PySem.W.findIn K (.ref D) "__getattr__" = some none) &&
  (decide (PySem.W.subIn K (.ref D) (.type "BaseException") = some true) && (PySem.W.hasDictIn K D && (decide (PySem.W.findIn K (.ref D) "__class__" = some (some (.builtin "object.__class__"))) &&
  (decide (PySem.W.specialIn K (.builtin "object.__class__") "__get__" = some (some (.builtin "getset_descriptor.__get__"))) && (decide (PySem.W.takesIn K (.builtin "object.__class__") = some true) && decide (PySem.W.mroIn K D (.type "object") = some true)))))))
theorem excC_of {K : PySem.W.Frag} {D : Addr} (h : excCB K D = true) : ExcC K D := by
  unfold excCB at h
  simp only [Bool.and_eq_true, decide_eq_true_eq] at h
  obtain ⟨h1, h2, h3, h4, h5, h6, h7, h8⟩ := h
  exact ⟨h1, h2, h3, h4, h5, h6, h7, h8⟩
/-- the law's own end: a list of ints is handed in, True comes out -/
theorem law_sp {K : PySem.W.Frag} {f : FP} {H : Hp} {a : Addr} {ns : List Int} (h : f [.list (ns.map .int)] = .ok (.bool true)) (hS : SqL K H a (ns.map V.int)) : spP K 1 f [.ref a] H (fun v _ => v = .bl true) fun _ _ _ => False := by
  refine ⟨rfl, H, [.list (ns.map .int)], Evl.Ex.refl _, .cons (.lst hS (dps_ints ns)) .nil, ?_⟩
  rw [h]
  intro v G' H' _ _ hd
  cases hd
  rfl
theorem law_spW {K : PySem.W.Frag} {f : FW} {H : Hp} {a : Addr} {ns : List Int} (h : ∃ w, f [.d (.list (ns.map .int))] [] = .ok (.d (.bool true)) w) (hS : SqL K H a (ns.map V.int)) : spW K 1 f [.ref a] H (fun v _ => v = .bl true) fun _ _ _ => False := by
  obtain ⟨w, h⟩ := h
  refine ⟨rfl, [], H, [], [.d (.list (ns.map .int))], ws_nil (Evl.Ex.refl _), .cons (.lst hS (dps_ints ns)) .nil, ?_⟩
  rw [h]
  intro v ι' G' H' _ _ hd
  cases hd
  rfl
end RK
namespace RK
open PySem PySem.Spec PyProof.Rows L2
section
variable {P : Program} {w : World} {K : PySem.W.Frag} {mg : Str → Option Value} {base : Heap} {x C m qual : Str} {params : Arguments} {body : List Stmt} {scope : Scope} {fd : FuncData} {N ps : List Str} {k n l : Nat} {s : SM}
theorem mk_P {f : FP} (hf : f = runP l s) (hl : N.length = l) (hn : ps.length = n) (hm : mg x = some (.ref (He.ga K x))) (F : FunD K x qual params body scope [] [] (He.ga K x) fd) (S : FnScope N ps scope) (bd : Binds K fd ps [])
    (hb : BodyOk P w K mg base qual body scope (He.ga K x) N k s) : Fn P w K mg base x (k + 1) (spP K n f) := by
  subst hf; subst hl; subst hn
  exact ⟨hm, F.kp, fd, ps, ok_P F S hb, bd⟩
theorem mk_W {f : FW} (hf : f = runW l s) (hl : N.length = l) (hn : ps.length = n) (hm : mg x = some (.ref (He.ga K x))) (F : FunD K x qual params body scope [] [] (He.ga K x) fd) (S : FnScope N ps scope) (bd : Binds K fd ps [])
    (hb : BodyOk P w K mg base qual body scope (He.ga K x) N k s) : Fn P w K mg base x (k + 1) (spW K n f) := by
  subst hf; subst hl; subst hn
  exact ⟨hm, F.kp, fd, ps, ok_W F S hb, bd⟩
theorem mk_MW {f : FW} (hf : f = runW l s) (hl : N.length = l) (hn : ps.length = n) (hm : Meth K (He.ga K C) m (He.ma K (He.ga K C) m)) (F : FunD K m qual params body scope [] [] (He.ma K (He.ga K C) m) fd) (S : FnScope N ps scope) (bd : Binds K fd ps [])
    (hb : BodyOk P w K mg base qual body scope (He.ma K (He.ga K C) m) N k s) : Md P w K mg base C m (k + 1) (spW K n f) := by
  subst hf; subst hl; subst hn
  exact ⟨hm, fd, ps, ok_W F S hb, bd⟩
end
end RK
namespace RK
open PySem PySem.Spec PyProof.Rows L2
theorem hu64 {k : Nat} {A : Around} (hr : Room k A) : A.units + 64 < cLine := hr.units
theorem hu65 {k : Nat} {A : Around} (hr : Room k A) : A.units + 65 < cLine := by
  have := hr.un
  omega
theorem hu65s {X : Cx} {a : Addr} {pn : List (Addr × Obj)} {k : Nat} (hr : Room k X.A) : (X.suite a pn).A.units + 65 < cLine := by
  show X.A.units + 65 < cLine
  exact hu65 hr
theorem hu64s {X : Cx} {a : Addr} {pn : List (Addr × Obj)} {k : Nat} (hr : Room k X.A) : (X.suite a pn).A.units + 64 < cLine := by
  show X.A.units + 64 < cLine
  exact hu64 hr
section
variable {X : Cx} {α : Addr × Str} {Wx : WX} {pos pos' np : Pos} {mt : Str → Str → Bool} {errs : List Str} {i : Nat}
theorem x_isEC {h n : Str} {a : Addr} {c : Str} {oe : Obj} {pn : List (Addr × Obj)} {p p1 p2 : Pos} (hce : c ∈ errs) (C : ExcC X.K (He.ga X.K c)) (hz : Zc (.ref (He.ga X.K c)) none oe) (hf : ∃ vs, oe.data = .fields vs)
    (io : IsOk X.K mt errs h (.ref (He.ga X.K h))) (hg : Gl (X.suite a ((a, oe) :: pn)) "isinstance") (hm : X.mg "isinstance" = none) (hvar : PE (X.suite a ((a, oe) :: pn)) (.Name n p1) (tVar i)) (hgc : Gl (X.suite a ((a, oe) :: pn)) h) (hmc : X.mg h = some (.ref (He.ga X.K h)))
    (hdb : (h == ("__debug__" : Str)) = false := by decide)
    (he : starEach [.Name n p1, .Name h p2] (X.suite a ((a, oe) :: pn)).env = (false, eval (.Name n p1) (X.suite a ((a, oe) :: pn)).env) :: starEach [.Name h p2] (X.suite a ((a, oe) :: pn)).env := by rfl) (hpl : (backTo pos (starEach [.Name h p2] (X.suite a ((a, oe) :: pn)).env)).any (·.1) = false := by rfl)
    (hb : bootBuiltins "isinstance" = some (.builtin "isinstance") := by decide +kernel) (hs1 : starEach [.Name h p2] (X.suite a ((a, oe) :: pn)).env = (false, eval (.Name h p2) (X.suite a ((a, oe) :: pn)).env) :: starEach [] (X.suite a ((a, oe) :: pn)).env := by rfl) :
    PE (X.suite a ((a, oe) :: pn)) (.Call (.Name "isinstance" p) [.Name n p1, .Name h p2] [] pos) (cE X.K (a, c) Wx (xIsE mt i h)) :=
  x_isE (cv := .ref (He.ga X.K h)) hce C hz hf (fun _ h => h) io hg hm hvar (pe_glob (X := X.suite a ((a, oe) :: pn)) (v := .ref (He.ga X.K h)) hgc hmc rfl hdb) he hpl hb hs1
theorem x_isET {h n : Str} {T : String} {a : Addr} {c : Str} {oe : Obj} {pn : List (Addr × Obj)} {p p1 p2 : Pos} (hce : c ∈ errs) (C : ExcC X.K (He.ga X.K c)) (hz : Zc (.ref (He.ga X.K c)) none oe) (hf : ∃ vs, oe.data = .fields vs)
    (io : IsOk X.K mt errs h (.type T)) (hg : Gl (X.suite a ((a, oe) :: pn)) "isinstance") (hm : X.mg "isinstance" = none) (hvar : PE (X.suite a ((a, oe) :: pn)) (.Name n p1) (tVar i)) (hgc : Gl (X.suite a ((a, oe) :: pn)) h) (hmc : X.mg h = none) (hvt : bootBuiltins h = some (.type T))
    (hdb : (h == ("__debug__" : Str)) = false := by decide) (hnn : h ≠ "__name__" := by decide)
    (he : starEach [.Name n p1, .Name h p2] (X.suite a ((a, oe) :: pn)).env = (false, eval (.Name n p1) (X.suite a ((a, oe) :: pn)).env) :: starEach [.Name h p2] (X.suite a ((a, oe) :: pn)).env := by rfl) (hpl : (backTo pos (starEach [.Name h p2] (X.suite a ((a, oe) :: pn)).env)).any (·.1) = false := by rfl)
    (hb : bootBuiltins "isinstance" = some (.builtin "isinstance") := by decide +kernel) (hs1 : starEach [.Name h p2] (X.suite a ((a, oe) :: pn)).env = (false, eval (.Name h p2) (X.suite a ((a, oe) :: pn)).env) :: starEach [] (X.suite a ((a, oe) :: pn)).env := by rfl) :
    PE (X.suite a ((a, oe) :: pn)) (.Call (.Name "isinstance" p) [.Name n p1, .Name h p2] [] pos) (cE X.K (a, c) Wx (xIsE mt i h)) :=
  x_isE (cv := .ty T) hce C hz hf (fun _ h => h) io hg hm hvar (pe_bltn (X := X.suite a ((a, oe) :: pn)) (v := .ty T) hgc hmc hvt rfl hnn hdb) he hpl hb hs1
end
end RK
namespace RK
open PySem PySem.Spec PyProof.Rows L2
/-- the end of a law's row over a head of facts, what its def may let out told by the world -/
theorem law_end {lw : PySem.W.OpenLaw} {many lev : Nat} {vw : Program} {rest : List Str} {XQ : (Str → Option Value) → Heap → Prop} {YQ : World → Heap → Prop} {dr : DefRec} {arg : Str}
    (h1 : lw.most = some many) (h2 : many ≤ sizeLine) (h3 : dr.params.defaults = []) (h4 : Room lev callerA)
    (FF : ∀ (wd : World) (mgl : Str → Option Value) (at_ : Addr) (hp : Heap), YQ wd hp → hp.Ns mainGlobals mgl → mgl dr.name = some (.ref at_) →
      ∃ (KK : PySem.W.Frag) (fdt : FuncData) (pr : Sp), KK.In hp ∧ (∀ (sh : Shared) (val : Value), BindsTo sh fdt ⟨[val], []⟩ [(arg, val)]) ∧
        (∀ (HH : Hp) (ad : Addr) (nums : List Int), nums.length ≤ many → SqL KK HH ad (nums.map V.int) → pr [.ref ad] HH (fun v _ => v = .bl true) fun _ _ _ => False) ∧
        ∀ gr : Heap, KK.In gr → gr.Ns mainGlobals mgl → FnOk lw.prog wd KK mgl gr (L2.CX lw.prog wd) lev at_ fdt [arg] pr) :
    PySem.W.WalkO vw rest XQ YQ lw.row.toRowW dr [] (fun f vs => PySem.call f vs) := by
  refine Att.attach_call h1 h3 fun wd s0 s1 mgl mbl at_ ob pm cd doc ad vs nums G Y ho hd hcd hmg hob hin hle hgr => ?_
  obtain ⟨KK, fdt, pr, KX, hb, hsp, hF⟩ := FF wd mgl at_ _ Y G.T.g hmg
  refine law_call KX G.T.g G.T.b G.T.builtins G.T.nolimit hgr hob hin (Nat.le_trans hle h2) h4 hF hb (fun HH _ hS => hsp HH ad nums hle hS) fun HH er st hx => ?_
  obtain ⟨_, _, _, _, _, _, _, _, _, _, _, _, zz⟩ := hx
  exact zz.elim
end RK
namespace RK
open PySem PySem.Spec PyProof.Rows L2
section
variable {P : Program} {w : World} {K : PySem.W.Frag} {mg : Str → Option Value} {base : Heap} {x C m qual : Str} {params : Arguments} {body : List Stmt} {scope : Scope} {fd : FuncData} {N ps : List Str} {k n l : Nat} {s : SM}
theorem mk_okP {f : FP} (hf : f = runP l s) (hl : N.length = l) (hn : ps.length = n) (F : FunD K x qual params body scope [] [] (He.ga K x) fd) (S : FnScope N ps scope)
    (hb : BodyOk P w K mg base qual body scope (He.ga K x) N k s) : FnOk P w K mg base (L2.CX P w) (k + 1) (He.ga K x) fd ps (spP K n f) := by
  subst hf; subst hl; subst hn
  exact ok_P F S hb
theorem mk_okW {f : FW} (hf : f = runW l s) (hl : N.length = l) (hn : ps.length = n) (F : FunD K x qual params body scope [] [] (He.ga K x) fd) (S : FnScope N ps scope)
    (hb : BodyOk P w K mg base qual body scope (He.ga K x) N k s) : FnOk P w K mg base (L2.CX P w) (k + 1) (He.ga K x) fd ps (spW K n f) := by
  subst hf; subst hl; subst hn
  exact ok_W F S hb
end
end RK

set_option Elab.async false
set_option linter.all false
set_option maxRecDepth 100000
set_option maxHeartbeats 4000000
/-! RKit, part F: slices. -/
namespace RK
open PySem PySem.Spec PyProof.Rows L2
abbrev OM := En → Wd → Rs (Option Int)
def poN : OM := fun _ w => .ok none w
def poS (x : XM) : OM := fun e w => (x e w).bind fun d w1 => match d with
  | .d (.int i) => .ok (some i) w1
  | _ => .bad
def cutL {α : Type} (xs : List α) (lo hi : Option Int) : List α := (xs.drop (HT.sIx xs.length 0 lo)).take (HT.sIx xs.length xs.length hi - HT.sIx xs.length 0 lo)
def xSl (op : DV → Option Int → Option Int → Wd → Rs DV) (x : XM) (lo hi : OM) : XM := fun e w => (x e w).bind fun d w1 => (lo e w1).bind fun l w2 => (hi e w2).bind fun u w3 => op d l u w3
def oSlL (x : DV) (l u : Option Int) (w : Wd) : Rs DV := match itemsD w x with
  | some ds => .ok (.d (.list (cutL ds l u))) w
  | none => .bad
def oSlS (x : DV) (l u : Option Int) (w : Wd) : Rs DV := match x with
  | .d (.str z) => if z.length ≤ 100000 then .ok (.d (.str (cutS z l u))) w else .bad
  | _ => .bad
abbrev xSlL := xSl oSlL
abbrev xSlS := xSl oSlS
section
variable {K : PySem.W.Frag} {Wx : WX} {α : Addr × Str}
def PostO (K : PySem.W.Frag) (Wx : WX) (ι : List Addr) (G H : Hp) (σ : L2.St) (r : Rs (Option Int)) (Q : Option Int → Hp → Prop) : Prop :=
  match r with
  | .ok d w' => ∀ ι' G' H', Evo ι G H ι' G' H' → WS K ι' G' H' w' → Q d H'
  | .ex c w' => ∀ ι' G' H', Evo ι G H ι' G' H' → WS K ι' G' H' w' → Wx (.ref (He.ga K c)) none σ H'
  | .bad => False
def cO (K : PySem.W.Frag) (α : Addr × Str) (Wx : WX) (x : OM) : TO := fun σ H Q => ∃ ι G w env, WS K ι G H w ∧ EnvR K α ι G σ env ∧ PostO K Wx ι G H σ (x env w) Q
theorem po_imp {X : Cx} {e : Option Expr} {t t' : TO} (h : PO X e t) (i : ∀ σ H Q, t' σ H Q → t σ H Q) : PO X e t' := ⟨fun pins s σ H Q I q => h.run pins s σ H Q I (i _ _ _ q)⟩
theorem po_n {X : Cx} : PO X none (cO X.K α Wx poN) := po_imp po_none fun σ H Q ⟨ι, G, w, env, s, ev, p⟩ => p ι G H .refl s
theorem PostO.mono {ι ι' : List Addr} {G G' H H' : Hp} {σ : L2.St} {r : Rs (Option Int)} {Q : Option Int → Hp → Prop} (e : Evo ι G H ι' G' H') (p : PostO K Wx ι G H σ r Q) : PostO K Wx ι' G' H' σ r Q := by
  cases r with
  | ok d w => exact fun i2 G2 H2 e2 s => p i2 G2 H2 (e.trans e2) s
  | ex c w => exact fun i2 G2 H2 e2 s => p i2 G2 H2 (e.trans e2) s
  | bad => exact p
theorem PostE.bindO {ι : List Addr} {G H : Hp} {σ : L2.St} {Q : Option Int → Hp → Prop} {Q' : VK} {r : Rs DV} {f : DV → Wd → Rs (Option Int)} (p : PostO K Wx ι G H σ (r.bind f) Q)
    (k : ∀ d w' v ι' G' H', r = .ok d w' → Evo ι G H ι' G' H' → WS K ι' G' H' w' → RD K ι' G' v d → PostO K Wx ι' G' H' σ (f d w') Q → Q' v H') : PostE K Wx ι G H σ r Q' := by
  cases r with
  | ok d w => exact fun v i2 G2 H2 e2 s r => k d w v i2 G2 H2 rfl e2 s r (PostO.mono e2 p)
  | ex c w => exact p
  | bad => exact p
theorem PostO.bindE {ι : List Addr} {G H : Hp} {σ : L2.St} {Q : VK} {Q' : Option Int → Hp → Prop} {r : Rs (Option Int)} {f : Option Int → Wd → Rs DV} (p : PostE K Wx ι G H σ (r.bind f) Q)
    (k : ∀ d w' ι' G' H', Evo ι G H ι' G' H' → WS K ι' G' H' w' → PostE K Wx ι' G' H' σ (f d w') Q → Q' d H') : PostO K Wx ι G H σ r Q' := by
  cases r with
  | ok d w => exact fun i2 G2 H2 e2 s => k d w i2 G2 H2 e2 s (PostE.mono e2 p)
  | ex c w => exact p
  | bad => exact p
theorem po_s {X : Cx} {e : Expr} {xa : XM} (he : PE X e (cE X.K α Wx xa)) : PO X (some e) (cO X.K α Wx (poS xa)) := by
  refine po_imp (po_some he) fun σ H Q ⟨ι, G, w, env, s, ev, p⟩ => ⟨ι, G, w, env, s, ev, PostE.bindO p fun d1 w1 v1 ι1 G1 H1 _ e1 s1 r1 p1 => ?_⟩
  cases d1 with
  | loc l => exact p1.elim
  | exc c => exact p1.elim
  | d z =>
    cases z with
    | int i =>
      cases r1
      exact ⟨i, rfl, p1 ι1 G1 H1 .refl s1⟩
    | _ => exact p1.elim
/-- the slice of a value -/
def SlOk (K : PySem.W.Frag) (Wx : WX) (op : DV → Option Int → Option Int → Wd → Rs DV) (r : V → Option Int → Option Int → Hp → VK → Prop) : Prop :=
  ∀ ι G H w σ x dx l u Q, WS K ι G H w → RD K ι G x dx → PostE K Wx ι G H σ (op dx l u w) Q → r x l u H Q
theorem x_sl {X : Cx} {e : Expr} {lo hi : Option Expr} {pos p2 : Pos} {op : DV → Option Int → Option Int → Wd → Rs DV} {r : V → Option Int → Option Int → Hp → VK → Prop} {xa : XM} {ol oh : OM} (hk : SlOk X.K Wx op r) (hr : SlR X r) (he : PE X e (cE X.K α Wx xa)) (hl : PO X lo (cO X.K α Wx ol)) (hh : PO X hi (cO X.K α Wx oh)) :
    PE X (.Subscript e (.Slice lo hi none p2) pos) (cE X.K α Wx (xSl op xa ol oh)) :=
  pe_imp (pe_slice hr he hl hh) fun σ H Q ⟨ι, G, w, env, s, ev, p⟩ => ⟨ι, G, w, env, s, ev, PostE.bind p fun d1 w1 v1 ι1 G1 H1 _ e1 s1 r1 p1 =>
    ⟨ι1, G1, w1, env, s1, ev.mono e1, PostO.bindE p1 fun l w2 ι2 G2 H2 e2 s2 p2 => ⟨ι2, G2, w2, env, s2, (ev.mono e1).mono e2, PostO.bindE p2 fun u w3 ι3 G3 H3 e3 s3 p3 => hk ι3 G3 H3 w3 σ v1 d1 l u Q s3 ((r1.mono e2).mono e3) p3⟩⟩⟩
theorem dps_drop {G : Hp} : ∀ (n : Nat) {vs : List V} {ds : List PyData}, DpAll K G vs ds → DpAll K G (vs.drop n) (ds.drop n)
  | 0, _, _, h => by simpa using h
  | n + 1, _, _, .nil => by simpa using (DpAll.nil : DpAll K G [] [])
  | n + 1, _, _, .cons _ h => by simpa using dps_drop n h
theorem dps_take {G : Hp} : ∀ (n : Nat) {vs : List V} {ds : List PyData}, DpAll K G vs ds → DpAll K G (vs.take n) (ds.take n)
  | 0, _, _, h => by simpa using (DpAll.nil : DpAll K G [] [])
  | n + 1, _, _, .nil => by simpa using (DpAll.nil : DpAll K G [] [])
  | n + 1, _, _, .cons h1 h => by simpa using DpAll.cons h1 (dps_take n h)
theorem k_slL : SlOk K Wx oSlL (rSlL K) := by
  intro ι G H w σ x dx l u Q s r p
  unfold oSlL at p
  split at p
  · rename_i ds h
    obtain ⟨a, vs, rfl, f1, f2⟩ := items_dp s r h
    refine ⟨a, vs, rfl, f1, fun q hq => p _ ι _ _ (Evo.newD s.sub hq) (s.newD hq) (.lst (Evl.sq_of upd_same) ?_)⟩
    have e : cutV vs l u = cutL vs l u := rfl
    rw [e]
    unfold cutL
    rw [dps_len f2]
    exact dps_take _ (dps_drop _ (dp_monos (Evl.Ex.new (Evl.fresh_back s.sub hq)) _ _ f2))
  · exact p.elim
theorem k_slS : SlOk K Wx oSlS rSlS := by
  intro ι G H w σ x dx l u Q s r p
  unfold oSlS at p
  split at p
  · rename_i z
    cases r
    split at p
    · rename_i h
      exact ⟨z, rfl, Evl.sz_of h, p _ ι G H .refl s (.str _)⟩
    · exact p.elim
  · exact p.elim
/-- minus a number -/
def xNeg (x : XM) : XM := fun e w => (x e w).bind fun d w1 => match d with
  | .d (.int i) => .ok (.d (.int (-i))) w1
  | _ => .bad
theorem x_neg {X : Cx} {a : Expr} {pos : Pos} {xa : XM} (ha : PE X a (cE X.K α Wx xa)) : PE X (.UnaryOp .USub a pos) (cE X.K α Wx (xNeg xa)) :=
  pe_imp (pe_un un_neg ha) fun σ H Q ⟨ι, G, w, env, s, ev, p⟩ => ⟨ι, G, w, env, s, ev, PostE.bind p fun d1 w1 v1 ι1 G1 H1 _ e1 s1 r1 p1 => by
    cases d1 with
    | loc l => exact p1.elim
    | exc c => exact p1.elim
    | d z =>
      cases z with
      | int i =>
        cases r1
        exact ⟨i, rfl, p1 _ ι1 G1 H1 .refl s1 (.int _)⟩
      | _ => exact p1.elim⟩
end
end RK

set_option Elab.async false
set_option linter.all false
set_option maxRecDepth 100000
set_option maxHeartbeats 4000000
/-! RKit, part G: list comprehensions, sum, sorted. -/
namespace RK
open PySem PySem.Spec PyProof.Rows L2
def lcT (t : Option XM) : XM := match t with
  | none => fun _ w => .ok (.d (.bool true)) w
  | some x => x
/-- the turns of a comprehension whose items are plain data -/
def lcF (j : Nat) (t : Option XM) (s : XM) (e : En) : List PyData → Wd → List PyData → Rs (List PyData)
  | [], w, acc => .ok acc w
  | d :: ds, w, acc => match lcT t (e.set j (some (.d d))) w with
    | .ok (.d (.bool p)) w1 => if p = true then (match s (e.set j (some (.d d))) w1 with
        | .ok (.d y) w2 => if acc.length < 100000 then lcF j t s e ds w2 (acc ++ [y]) else .bad
        | _ => .bad) else lcF j t s e ds w1 acc
    | _ => .bad
def lcFin (st : Bool) (out : List PyData) (w : Wd) : Rs DV := if st = true then .ok (.loc w.length) (w ++ [.lst (out.map .d)]) else .ok (.d (.list out)) w
def lcRun (st : Bool) (j : Nat) (t : Option XM) (s : XM) (e : En) (ds : List PyData) (w : Wd) : Rs DV := match lcF j t s (e.set j none) ds w [] with
  | .ok out w' => lcFin st out w'
  | _ => .bad
def xLc (st : Bool) (j : Nat) (x : XM) (t : Option XM) (s : XM) : XM := fun e w => (x e w).bind fun d w1 => match d with
  | .d (.list ds) => lcRun st j t s e ds w1
  | _ => .bad
def xLcT (st : Bool) (j : Nat) (x : XM) (t : Option XM) (s : XM) : XM := fun e w => (x e w).bind fun d w1 => match d with
  | .d (.tuple ds) => lcRun st j t s e ds w1
  | _ => .bad
def xLcR (st : Bool) (j : Nat) (x : XM) (t : Option XM) (s : XM) : XM := fun e w => (x e w).bind fun d w1 => match d with
  | .d (.int n) => if okR n = true then lcRun st j t s e (rngD 0 n.toNat) w1 else .bad
  | _ => .bad
section
variable {K : PySem.W.Frag} {Wx : WX} {α : Addr × Str}
theorem takes0 {X : Cx} : Takes X noX := fun u s' ⟨a, B, sI, pins, σ, H, cls, d, e, I, nb, up, sky, na, os, ag, w⟩ => w.elim
/-- the heap without D -/
def rmv (H : Hp) (D : Addr) : Hp := fun a => if a = D then none else H a
theorem rmv_same {H : Hp} {D : Addr} : rmv H D D = none := if_pos rfl
theorem rmv_ne {H : Hp} {D a : Addr} (h : a ≠ D) : rmv H D a = H a := if_neg h
theorem rmv_upd {H : Hp} {D : Addr} {o : HO} (h : H D = some o) : upd (rmv H D) D o = H := by
  funext a
  by_cases e : a = D
  · subst e; rw [upd_same, h]
  · rw [upd_ne e, rmv_ne e]
variable {ι ι0 : List Addr} {G G0 H H0 : Hp} {w : Wd} {D : Addr}
theorem WS.rmv (s : WS K ι G H w) (hD : D ∉ ι) (hG : G D = none) : WS K ι G (RK.rmv H D) w := by
  refine ⟨fun a u e => ?_, s.nd, s.len, s.out, fun l a o h1 h2 => ?_⟩
  · have : a ≠ D := fun h => by rw [h, hG] at e; cases e
    rw [rmv_ne this]; exact s.sub a u e
  · have : a ≠ D := fun h => hD (h ▸ List.mem_of_getElem? h1)
    rw [rmv_ne this]; exact s.ob l a o h1 h2
theorem Evo.rmv (e : Evo ι0 G0 H0 ι G H) (h0 : H0 D = none) : Evo ι0 G0 H0 ι G (RK.rmv H D) := by
  refine ⟨e.pre, e.g, e.gn, fun a o h1 h2 => ?_, fun a h => ?_⟩
  · rw [rmv_ne (ne_of_none h2 h0)]; exact e.h a o h1 h2
  · rw [rmv_ne (fun q => h (by rw [q]; exact h0))]; exact e.dom a h
theorem WS.updN (s : WS K ι G H w) {o : HO} (hD : D ∉ ι) (hG : G D = none) : WS K ι G (upd H D o) w := by
  refine ⟨fun a u e => ?_, s.nd, s.len, s.out, fun l a o h1 h2 => ?_⟩
  · have : a ≠ D := fun h => by rw [h, hG] at e; cases e
    rw [upd_ne this]; exact s.sub a u e
  · have : a ≠ D := fun h => hD (h ▸ List.mem_of_getElem? h1)
    rw [upd_ne this]; exact s.ob l a o h1 h2
theorem Evo.updN (e : Evo ι0 G0 H0 ι G H) {o : HO} (h0 : H0 D = none) : Evo ι0 G0 H0 ι G (upd H D o) := by
  refine ⟨e.pre, e.g, e.gn, fun a o h1 h2 => ?_, fun a h => ?_⟩
  · rw [upd_ne (ne_of_none h2 h0)]; exact e.h a o h1 h2
  · rw [upd_ne (fun q => h (by rw [q]; exact h0))]; exact e.dom a h
theorem Evo.notin {ι' : List Addr} {G' H' : Hp} {o : HO} (e : Evo ι G H ι' G' H') (hD : D ∉ ι) (h : H D = some o) : D ∉ ι' := by
  obtain ⟨new, e1, e2⟩ := e.pre
  rw [e1]
  intro m
  rcases List.mem_append.mp m with m | m
  · exact hD m
  · rw [e2 D m] at h; cases h
theorem dps_ix : ∀ {xs : List V} {ds : List PyData} {i : Nat} {x : V}, DpAll K G xs ds → xs[i]? = some x → ∃ d, ds[i]? = some d ∧ Dp K G x d
  | _, _, i, x, .nil, h => by simp at h
  | _, _, 0, x, .cons h1 h2, h => by
    simp only [List.getElem?_cons_zero, Option.some.injEq] at h
    subst h
    exact ⟨_, rfl, h1⟩
  | _, _, i + 1, x, .cons h1 h2, h => by
    simp only [List.getElem?_cons_succ] at h ⊢
    exact dps_ix h2 h
theorem rds_all {ι : List Addr} : ∀ {vs : List V} {ds : List PyData}, DpAll K G vs ds → RDs K ι G vs (ds.map .d)
  | _, _, .nil => .nil
  | _, _, .cons h1 h2 => .cons h1 (rds_all h2)
/-- what stands between the turns -/
def LcP (K : PySem.W.Frag) (ι0 : List Addr) (G0 H0 : Hp) (D : Addr) (j : Nat) (t : Option XM) (s : XM) (e : En) (ds : List PyData) (out : List PyData) (w' : Wd) (i : Nat) (H : Hp) : Prop :=
  ∃ ι G w acc vs, WS K ι G H w ∧ Evo ι0 G0 H0 ι G H ∧ D ∉ ι ∧ G D = none ∧ H D = some (.lst vs) ∧ DpAll K G vs acc ∧ lcF j t s e (ds.drop i) w acc = .ok out w'
def ttL (K : PySem.W.Frag) (α : Addr × Str) (t : Option XM) : TT := match t with
  | none => tYes
  | some x => cT K α noX x
theorem lc_turn {σ : L2.St} {e : En} {j : Nat} {t : Option XM} {s : XM} {ds out : List PyData} {w' : Wd} (ev : EnvR K α ι0 G0 σ e) (h0 : H0 D = none) {i : Nat} {x : V} {d : PyData} (hd : ds[i]? = some d) (hx : Dp K G0 x d) {H : Hp} (p : LcP K ι0 G0 H0 D j t s (e.set j none) ds out w' i H) :
    gName j x (wipe σ [j]) H fun σ2 H2 => wipe σ2 [j] = wipe σ [j] ∧ ttL K α t σ2 H2 fun b H3 =>
      if b = true then cE K α noX s σ2 H3 fun y H4 => ∃ acc, H4 D = some (.lst acc) ∧ acc.length < sizeLine ∧ LcP K ι0 G0 H0 D j t s (e.set j none) ds out w' (i + 1) (upd H4 D (.lst (acc ++ [y]))) else LcP K ι0 G0 H0 D j t s (e.set j none) ds out w' (i + 1) H3 := by
  obtain ⟨ι, G, w, acc, vs, ws, eo, hD, hG, hv, ha, hl⟩ := p
  have hi : i < ds.length := (List.getElem?_eq_some_iff.mp hd).1
  have hdr : ds.drop i = d :: ds.drop (i + 1) := by
    rw [List.drop_eq_getElem_cons hi]
    congr 1
    exact Option.some.inj ((List.getElem?_eq_getElem hi).symm.trans hd)
  rw [hdr] at hl
  have ev2 : EnvR K α ι G ((σ.set j none).set j (some x)) ((e.set j none).set j (some (.d d))) :=
    EnvR.set (SlotR.of (show RD K ι G x (.d d) from dp_mono eo.g _ _ hx)) j (EnvR.set (show SlotR K α ι G none none from trivial) j (ev.mono eo))
  refine ⟨by show ((σ.set j none).set j (some x)).set j none = σ.set j none; rw [List.set_set, List.set_set], ?_⟩
  have rest : ∀ (b : Bool) (w1 : Wd) (ι1 : List Addr) (G1 H1 : Hp), Evo ι G H ι1 G1 H1 → WS K ι1 G1 H1 w1 → lcT t ((e.set j none).set j (some (.d d))) w = .ok (.d (.bool b)) w1 →
      if b = true then cE K α noX s ((σ.set j none).set j (some x)) H1 fun y H4 => ∃ acc, H4 D = some (.lst acc) ∧ acc.length < sizeLine ∧ LcP K ι0 G0 H0 D j t s (e.set j none) ds out w' (i + 1) (upd H4 D (.lst (acc ++ [y]))) else LcP K ι0 G0 H0 D j t s (e.set j none) ds out w' (i + 1) H1 := by
    intro b w1 ι1 G1 H1 e1 s1 ht
    rw [lcF, ht] at hl
    simp only at hl
    have hD1 := e1.notin hD hv
    have hG1 : G1 D = none := by rw [e1.gn D (by rw [hv]; exact fun h => by cases h)]; exact hG
    have hv1 := e1.h D _ hD hv
    cases b with
    | false =>
      rw [if_neg (by decide)] at hl ⊢
      exact ⟨ι1, G1, w1, acc, vs, s1, eo.trans e1, hD1, hG1, hv1, dp_monos e1.g _ _ ha, hl⟩
    | true =>
      rw [if_pos rfl] at hl ⊢
      refine ⟨ι1, G1, w1, _, s1, ev2.mono e1, ?_⟩
      cases q : s ((e.set j none).set j (some (.d d))) w1 with
      | bad => rw [q] at hl; cases hl
      | ex c w2 => rw [q] at hl; cases hl
      | ok y w2 =>
        rw [q] at hl
        cases y with
        | loc l => cases hl
        | exc c => cases hl
        | d y =>
          simp only at hl
          split at hl
          · rename_i hlen
            intro v ι2 G2 H2 e2 s2 r2
            have hD2 := e2.notin hD1 hv1
            have hG2 : G2 D = none := by rw [e2.gn D (by rw [hv1]; exact fun h => by cases h)]; exact hG1
            have hv2 := e2.h D _ hD1 hv1
            refine ⟨vs, hv2, Evl.sz_lt (by rw [dps_len ha]; exact hlen), ι2, G2, w2, acc ++ [y], vs ++ [v], s2.updN hD2 hG2, ((eo.trans e1).trans e2).updN h0, hD2, hG2, upd_same, ?_, hl⟩
            exact dps_app (dp_monos e2.g _ _ (dp_monos e1.g _ _ ha)) (.cons r2 .nil)
          · cases hl
  cases t with
  | none => exact rest true w ι G H .refl ws rfl
  | some t =>
    refine ⟨ι, G, w, _, ws, ev2, ?_⟩
    have hl2 := hl
    rw [lcF] at hl2
    simp only [lcT] at hl2
    cases q : t ((e.set j none).set j (some (.d d))) w with
    | bad => rw [q] at hl2; cases hl2
    | ex c w2 => rw [q] at hl2; cases hl2
    | ok y w1 =>
      rw [q] at hl2
      cases y with
      | loc l => cases hl2
      | exc c => cases hl2
      | d z =>
        cases z with
        | bool b =>
          intro v ι1 G1 H1 e1 s1 r1
          cases r1
          exact ⟨b, rfl, rest b w1 ι1 G1 H1 e1 s1 q⟩
        | _ => cases hl2
theorem lc_done {σ : L2.St} {st : Bool} {j : Nat} {t : Option XM} {s : XM} {e : En} {ds out : List PyData} {w' : Wd} {Q : VK} (h0 : H0 D = none) (p : PostE K Wx ι0 G0 H0 σ (lcFin st out w') Q) {H : Hp} (q : LcP K ι0 G0 H0 D j t s e ds out w' ds.length H) : Q (.ref D) H := by
  obtain ⟨ι, G, w, acc, vs, ws, eo, hD, hG, hv, ha, hl⟩ := q
  rw [List.drop_length] at hl
  cases hl
  have ws2 := ws.rmv hD hG
  have eo2 := eo.rmv h0
  have hz : RK.rmv H D D = none := rmv_same
  have hu : upd (RK.rmv H D) D (.lst vs) = H := rmv_upd hv
  cases st with
  | false =>
    refine p (.ref D) ι (upd G D (.lst vs)) H ?_ ?_ ?_
    · have := eo2.trans (Evo.newD (o := .lst vs) ws2.sub hz)
      rw [hu] at this; exact this
    · have := ws2.newD (o := .lst vs) hz
      rw [hu] at this; exact this
    · exact Dp.lst (Evl.sq_of upd_same) (dp_monos (Evl.Ex.new hG) _ _ ha)
  | true =>
    refine p (.ref D) (ι ++ [D]) G H ?_ ?_ ?_
    · have := eo2.trans (Evo.newL (o := .lst vs) (ι := ι) (G := G) hz)
      rw [hu] at this; exact this
    · have h2 : OR K (ι ++ [D]) G (some (.lst vs)) (.lst (out.map .d)) := ⟨vs, rfl, rds_all ha⟩
      have := ws2.newL (o := .lst vs) hz h2
      rw [hu] at this; exact this
    · exact ⟨D, by rw [← ws.len]; simp, rfl⟩
theorem lc_tl {σ : L2.St} {st : Bool} {j : Nat} {t : Option XM} {s : XM} {e : En} {ds : List PyData} {xs : List V} {w : Wd} {Q : VK} {J : It} (ev : EnvR K α ι0 G0 σ e) (s0 : WS K ι0 G0 H0 w) (hx : DpAll K G0 xs ds) (p : PostE K Wx ι0 G0 H0 σ (lcRun st j t s e ds w) Q) (h0 : H0 D = none)
    (hJ : ∀ Pv : Nat → Hp → Prop, Pv 0 (upd H0 D (.lst [])) → (∀ i H, Pv i H → Ex G0 H) → (∀ i x H, xs[i]? = some x → Pv i H → gName j x (wipe σ [j]) H fun σ2 H2 => wipe σ2 [j] = wipe σ [j] ∧ ttL K α t σ2 H2 fun b H3 =>
        if b = true then cE K α noX s σ2 H3 fun y H4 => ∃ acc, H4 D = some (.lst acc) ∧ acc.length < sizeLine ∧ Pv (i + 1) (upd H4 D (.lst (acc ++ [y]))) else Pv (i + 1) H3) → (∀ H, Pv xs.length H → Q (.ref D) H) →
      ∃ W : Nat → Nat → Hp → Prop, (∃ m, W 0 m (upd H0 D (.lst []))) ∧ ∀ i m H, W i m H →
      (J.stop i H ∧ Q (.ref D) H) ∨ (J.go i H ∧ ∃ Nx : Hp → Prop, (∀ H', Nx H' → ∃ m', m' < m ∧ W (i + 1) m' H') ∧ ∀ x H', J.yld i H x H' → gName j x (wipe σ [j]) H' fun σ2 H2 => wipe σ2 [j] = wipe σ [j] ∧ ttL K α t σ2 H2 fun b H3 =>
        if b = true then cE K α noX s σ2 H3 fun y H4 => ∃ acc, H4 D = some (.lst acc) ∧ acc.length < sizeLine ∧ Nx (upd H4 D (.lst (acc ++ [y]))) else Nx H3)) :
    ∃ W : Nat → Nat → Hp → Prop, (∃ m, W 0 m (upd H0 D (.lst []))) ∧ ∀ i m H, W i m H →
      (J.stop i H ∧ Q (.ref D) H) ∨ (J.go i H ∧ ∃ Nx : Hp → Prop, (∀ H', Nx H' → ∃ m', m' < m ∧ W (i + 1) m' H') ∧ ∀ x H', J.yld i H x H' → gName j x (wipe σ [j]) H' fun σ2 H2 => wipe σ2 [j] = wipe σ [j] ∧ ttL K α t σ2 H2 fun b H3 =>
        if b = true then cE K α noX s σ2 H3 fun y H4 => ∃ acc, H4 D = some (.lst acc) ∧ acc.length < sizeLine ∧ Nx (upd H4 D (.lst (acc ++ [y]))) else Nx H3) := by
  unfold lcRun at p
  cases q : lcF j t s (e.set j none) ds w [] with
  | bad => rw [q] at p; exact p.elim
  | ex c w2 => rw [q] at p; exact p.elim
  | ok out w' =>
    rw [q] at p
    simp only at p
    have hD : D ∉ ι0 := fun m => s0.dom m h0
    have hG : G0 D = none := Evl.fresh_back s0.sub h0
    refine hJ (LcP K ι0 G0 H0 D j t s (e.set j none) ds out w') ⟨ι0, G0, w, [], [], s0.updN hD hG, Evo.refl.updN h0, hD, hG, upd_same, .nil, by simpa using q⟩ (fun i H ⟨ι, G, w, acc, vs, ws, eo, _⟩ => fun a u h => ws.sub a u (eo.g a u h)) (fun i x H hi hp => ?_) (fun H hp => ?_)
    · obtain ⟨d, hd, hdx⟩ := dps_ix hx hi
      exact lc_turn ev h0 hd hdx hp
    · rw [dps_len hx] at hp
      exact lc_done h0 p hp
theorem lc_readL {σ : L2.St} {H : Hp} {st : Bool} {j : Nat} {x : XM} {t : Option XM} {s : XM} {Q : VK} (h : cE K α Wx (xLc st j x t s) σ H Q) : tLc (iList K (cE K α Wx x)) (gName j) (ttL K α t) (cE K α noX s) [j] σ H Q := by
  obtain ⟨ι, G, w, env, sw, ev, p⟩ := h
  refine ⟨ι, G, w, env, sw, ev, PostE.bind p fun d1 w1 v1 ι1 G1 H1 _ e1 s1 r1 p1 => ?_⟩
  cases d1 with
  | loc l => exact p1.elim
  | exc c => exact p1.elim
  | d z =>
    cases z with
    | list ds =>
      cases r1 with
      | lst h1 h2 =>
        refine ⟨_, rfl, ⟨_, Evl.ex_l s1.sub h1⟩, fun D hD => lc_tl (ev.mono e1) s1 h2 p1 hD fun Pv g0 gE gs gd => ?_⟩
        exact lc_list (K := K) Pv g0 (fun i H _ q => Evl.ex_l (gE i H q) h1) gs gd
    | _ => exact p1.elim
theorem lc_readT {σ : L2.St} {H : Hp} {st : Bool} {j : Nat} {x : XM} {t : Option XM} {s : XM} {Q : VK} (h : cE K α Wx (xLcT st j x t s) σ H Q) : tLc (iTup K (cE K α Wx x)) (gName j) (ttL K α t) (cE K α noX s) [j] σ H Q := by
  obtain ⟨ι, G, w, env, sw, ev, p⟩ := h
  refine ⟨ι, G, w, env, sw, ev, PostE.bind p fun d1 w1 v1 ι1 G1 H1 _ e1 s1 r1 p1 => ?_⟩
  cases d1 with
  | loc l => exact p1.elim
  | exc c => exact p1.elim
  | d z =>
    cases z with
    | tuple ds =>
      cases r1 with
      | tup h1 h2 =>
        refine ⟨_, rfl, ⟨_, Evl.ex_t s1.sub h1⟩, fun D hD => lc_tl (ev.mono e1) s1 h2 p1 hD fun Pv g0 gE gs gd => ?_⟩
        exact lc_tup (K := K) Pv g0 (fun i H _ q => Evl.ex_t (gE i H q) h1) gs gd
    | _ => exact p1.elim
theorem dps_rng {lo : Int} {n : Nat} : DpAll K G ((List.range n).map fun (k : Nat) => V.int (lo + (k : Int))) (rngD lo n) := by
  unfold rngD
  generalize List.range n = l
  induction l with
  | nil => exact .nil
  | cons x l ih => exact .cons (.int _) ih
theorem lc_readR {σ : L2.St} {H : Hp} {st : Bool} {j : Nat} {x : XM} {t : Option XM} {s : XM} {Q : VK} (h : cE K α Wx (xLcR st j x t s) σ H Q) :
    tLc (iRng1 (fun σ H Q => cE K α Wx x σ H fun v H1 => Q [v] H1)) (gName j) (ttL K α t) (cE K α noX s) [j] σ H Q := by
  obtain ⟨ι, G, w, env, sw, ev, p⟩ := h
  refine ⟨ι, G, w, env, sw, ev, PostE.bind p fun d1 w1 v1 ι1 G1 H1 _ e1 s1 r1 p1 => ?_⟩
  cases d1 with
  | loc l => exact p1.elim
  | exc c => exact p1.elim
  | d z =>
    cases z with
    | int n =>
      cases r1
      simp only at p1
      split at p1
      · rename_i hr
        obtain ⟨a, b⟩ := okR_iff hr
        refine ⟨n, rfl, a, b, fun D hD => lc_tl (xs := (List.range n.toNat).map fun (k : Nat) => V.int (0 + (k : Int))) (ev.mono e1) s1 dps_rng p1 hD fun Pv g0 gE gs gd => ?_⟩
        refine lc_range Pv g0 (fun i H hi q => gs i _ H ?_ q) (fun H q => gd H ?_)
        · rw [List.getElem?_map, List.getElem?_range hi]
          rfl
        · rw [List.length_map, List.length_range]
          exact q
      · exact p1.elim
    | _ => exact p1.elim
section
variable {X : Cx} {elt iter : Expr} {ifs : List Expr} {scope : Scope} {y : Str} {py pos spos : Pos} {j : Nat} {st : Bool} {xa s : XM} {t : Option XM}
theorem x_lc (hc : X.calm = true) (hN : X.N.Nodup) (hx : PE X iter (cE X.K α Wx xa)) (ok : BlkOk X.N X.env.scope scope [(y, j)])
    (hg : ∀ (s : Shared) (H : Hp) (C : Addr) (cl : List (Str × Addr)) (fp : List Addr), PG (X.blk s H scope (compEnvC scope cl C X.env) fp) (.Name y py) (gName j)) (ht : ∀ (s : Shared) (H : Hp) (C : Addr) (cl : List (Str × Addr)) (fp : List Addr), PTs (X.blk s H scope (compEnvC scope cl C X.env) fp) ifs (ttL X.K α t))
    (he : ∀ (s_ : Shared) (H : Hp) (C : Addr) (cl : List (Str × Addr)) (fp : List Addr), PE (X.blk s_ H scope (compEnvC scope cl C X.env) fp) elt (cE X.K α noX s)) (hs : ∀ x, foldedSetIterable iter X.env x = pure x := by intro _; rfl) :
    PE X (.ListComp elt [⟨.Name y py, iter, ifs, 0⟩] scope pos) (cE X.K α Wx (xLc st j xa t s)) := pe_imp (pe_lc hc hN (pi_list hx) ok hg ht he hs) fun _ _ _ h => lc_readL h
theorem x_lcT (hc : X.calm = true) (hN : X.N.Nodup) (hx : PE X iter (cE X.K α Wx xa)) (ok : BlkOk X.N X.env.scope scope [(y, j)])
    (hg : ∀ (s : Shared) (H : Hp) (C : Addr) (cl : List (Str × Addr)) (fp : List Addr), PG (X.blk s H scope (compEnvC scope cl C X.env) fp) (.Name y py) (gName j)) (ht : ∀ (s : Shared) (H : Hp) (C : Addr) (cl : List (Str × Addr)) (fp : List Addr), PTs (X.blk s H scope (compEnvC scope cl C X.env) fp) ifs (ttL X.K α t))
    (he : ∀ (s_ : Shared) (H : Hp) (C : Addr) (cl : List (Str × Addr)) (fp : List Addr), PE (X.blk s_ H scope (compEnvC scope cl C X.env) fp) elt (cE X.K α noX s)) (hs : ∀ x, foldedSetIterable iter X.env x = pure x := by intro _; rfl) :
    PE X (.ListComp elt [⟨.Name y py, iter, ifs, 0⟩] scope pos) (cE X.K α Wx (xLcT st j xa t s)) := pe_imp (pe_lc hc hN (pi_tup hx) ok hg ht he hs) fun _ _ _ h => lc_readT h
theorem x_lcR {a : Expr} {np cpos : Pos} (hc : X.calm = true) (hN : X.N.Nodup) (hgl : Gl X "range") (hm : X.mg "range" = none) (hx : PE X a (cE X.K α Wx xa)) (ok : BlkOk X.N X.env.scope scope [(y, j)])
    (hg : ∀ (s : Shared) (H : Hp) (C : Addr) (cl : List (Str × Addr)) (fp : List Addr), PG (X.blk s H scope (compEnvC scope cl C X.env) fp) (.Name y py) (gName j)) (ht : ∀ (s : Shared) (H : Hp) (C : Addr) (cl : List (Str × Addr)) (fp : List Addr), PTs (X.blk s H scope (compEnvC scope cl C X.env) fp) ifs (ttL X.K α t))
    (he : ∀ (s_ : Shared) (H : Hp) (C : Addr) (cl : List (Str × Addr)) (fp : List Addr), PE (X.blk s_ H scope (compEnvC scope cl C X.env) fp) elt (cE X.K α noX s)) (hs1 : starEach [a] X.env = (false, eval a X.env) :: starEach [] X.env := by rfl) (hs : ∀ x, foldedSetIterable (.Call (.Name "range" np) [a] [] cpos) X.env x = pure x := by intro _; rfl) :
    PE X (.ListComp elt [⟨.Name y py, .Call (.Name "range" np) [a] [] cpos, ifs, 0⟩] scope pos) (cE X.K α Wx (xLcR st j xa t s)) := pe_imp (pe_lc hc hN (pi_range1 hgl hm (pa_cons hx pa_nil hs1) hs1) ok hg ht he hs) fun _ _ _ h => lc_readR h
variable {i : Nat} {z : Str} {pz : Pos}
theorem set_lc {wi : TI} {tt : TT} {te : TE} {x : XM} (h : PS X (.Assign [.Name z pz] (.ListComp elt [⟨.Name y py, iter, ifs, 0⟩] scope pos) spos) (tAsg (tLc wi (gName j) tt te [j]) (gName i))) (r : ∀ σ H Q, cE X.K α Wx x σ H Q → tLc wi (gName j) tt te [j] σ H Q) :
    PS X (.Assign [.Name z pz] (.ListComp elt [⟨.Name y py, iter, ifs, 0⟩] scope pos) spos) (cS X.K α Wx (sSet i x)) :=
  ps_imp h fun D σ H ⟨ι, G, w, env, sw, ev, p⟩ => r _ _ _ ⟨ι, G, w, env, sw, ev, PostS.st p ev fun d1 w1 v1 ι1 G1 H1 _ e1 s1 r1 p1 => p1 _ ι1 G1 H1 .refl s1 ((ev.mono e1).set (SlotR.of r1) i)⟩
theorem s_lc (hz : X.N[i]? = some z) (hzl : X.env.scope.names.lookup z = some .local) (hsw : swapsWith (.ListComp elt [⟨.Name y py, iter, ifs, 0⟩] scope pos) (some (.Name z pz)) spos.line X.env = pure true) (hc : X.calm = true) (hN : X.N.Nodup) (hx : PE X iter (cE X.K α Wx xa)) (ok : BlkOk X.N X.env.scope scope [(y, j)])
    (hg : ∀ (s : Shared) (H : Hp) (C : Addr) (cl : List (Str × Addr)) (fp : List Addr), PG (X.blk s H scope (compEnvC scope cl C X.env) fp) (.Name y py) (gName j)) (ht : ∀ (s : Shared) (H : Hp) (C : Addr) (cl : List (Str × Addr)) (fp : List Addr), PTs (X.blk s H scope (compEnvC scope cl C X.env) fp) ifs (ttL X.K α t))
    (he : ∀ (s_ : Shared) (H : Hp) (C : Addr) (cl : List (Str × Addr)) (fp : List Addr), PE (X.blk s_ H scope (compEnvC scope cl C X.env) fp) elt (cE X.K α noX s)) (hs : ∀ x, foldedSetIterable iter X.env x = pure x := by intro _; rfl) :
    PS X (.Assign [.Name z pz] (.ListComp elt [⟨.Name y py, iter, ifs, 0⟩] scope pos) spos) (cS X.K α Wx (sSet i (xLc st j xa t s))) := set_lc (ps_setLc hc hN hz hzl hsw (pi_list hx) ok hg ht he hs) fun _ _ _ h => lc_readL h
theorem s_lcR {a : Expr} {np cpos : Pos} (hz : X.N[i]? = some z) (hzl : X.env.scope.names.lookup z = some .local) (hsw : swapsWith (.ListComp elt [⟨.Name y py, .Call (.Name "range" np) [a] [] cpos, ifs, 0⟩] scope pos) (some (.Name z pz)) spos.line X.env = pure true) (hc : X.calm = true) (hN : X.N.Nodup) (hgl : Gl X "range") (hm : X.mg "range" = none) (hx : PE X a (cE X.K α Wx xa)) (ok : BlkOk X.N X.env.scope scope [(y, j)])
    (hg : ∀ (s : Shared) (H : Hp) (C : Addr) (cl : List (Str × Addr)) (fp : List Addr), PG (X.blk s H scope (compEnvC scope cl C X.env) fp) (.Name y py) (gName j)) (ht : ∀ (s : Shared) (H : Hp) (C : Addr) (cl : List (Str × Addr)) (fp : List Addr), PTs (X.blk s H scope (compEnvC scope cl C X.env) fp) ifs (ttL X.K α t))
    (he : ∀ (s_ : Shared) (H : Hp) (C : Addr) (cl : List (Str × Addr)) (fp : List Addr), PE (X.blk s_ H scope (compEnvC scope cl C X.env) fp) elt (cE X.K α noX s)) (hs1 : starEach [a] X.env = (false, eval a X.env) :: starEach [] X.env := by rfl) (hs : ∀ x, foldedSetIterable (.Call (.Name "range" np) [a] [] cpos) X.env x = pure x := by intro _; rfl) :
    PS X (.Assign [.Name z pz] (.ListComp elt [⟨.Name y py, .Call (.Name "range" np) [a] [] cpos, ifs, 0⟩] scope pos) spos) (cS X.K α Wx (sSet i (xLcR st j xa t s))) := set_lc (ps_setLc hc hN hz hzl hsw (pi_range1 hgl hm (pa_cons hx pa_nil hs1) hs1) ok hg ht he hs) fun _ _ _ h => lc_readR h
end
/-- all of them whole numbers -/
def intsOf : List PyData → Option (List Int)
  | [] => some []
  | .int i :: ds => (intsOf ds).map (i :: ·)
  | _ => none
theorem intsOf_map (ns : List Int) : intsOf (ns.map .int) = some ns := by
  induction ns with
  | nil => rfl
  | cons n ns ih => rw [List.map_cons, intsOf, ih]; rfl
theorem ints_vs {G : Hp} : ∀ {vs : List V} {ds : List PyData} {ns : List Int}, DpAll K G vs ds → intsOf ds = some ns → vs = ns.map V.int
  | _, [], ns, h, e => by
    cases h
    cases e
    rfl
  | _, d :: ds, ns, h, e => by
    cases h with
    | cons h1 h2 =>
      cases d with
      | int i =>
        rw [intsOf] at e
        cases q : intsOf ds with
        | none => rw [q] at e; cases e
        | some ms =>
          rw [q] at e
          cases e
          cases h1
          rw [List.map_cons, ints_vs h2 q]
      | _ => cases e
def oSumL : List DV → Wd → Rs DV
  | [x], w => match itemsD w x with
    | some ds => match intsOf ds with
      | some ns => .ok (.d (.int ns.sum)) w
      | none => .bad
    | none => .bad
  | _, _ => .bad
def sortI (ns : List Int) : List Int := ns.mergeSort fun a b => decide (a ≤ b)
def oSortedL : List DV → Wd → Rs DV
  | [x], w => match itemsD w x with
    | some ds => match intsOf ds with
      | some ns => .ok (.d (.list ((sortI ns).map .int))) w
      | none => .bad
    | none => .bad
  | _, _ => .bad
theorem sortI_uniq {ns ms : List Int} (h : ms.Perm ns) (r : ms.Pairwise (· ≤ ·)) : ms = sortI ns := by
  refine List.Perm.eq_of_pairwise (le := (· ≤ ·)) (fun a b _ _ h1 h2 => Int.le_antisymm h1 h2) r ?_ (h.trans (List.mergeSort_perm _ _).symm)
  have := List.pairwise_mergeSort (le := fun (a b : Int) => decide (a ≤ b)) (fun a b c h1 h2 => by simp only [decide_eq_true_eq] at *; omega) (fun a b => by simp only [Bool.or_eq_true, decide_eq_true_eq]; omega) ns
  exact this.imp fun h => of_decide_eq_true h
theorem k_sumL : CallOk K Wx oSumL (rSum K) := by
  intro ι G H w σ vs ds Q s r p
  unfold oSumL at p
  split at p
  · split at p
    · rename_i x ds h
      split at p
      · rename_i ns hn
        obtain ⟨v, rfl, hv⟩ := one_v r
        obtain ⟨a, us, rfl, f1, f2⟩ := items_dp s hv h
        have e := ints_vs f2 hn
        subst e
        exact ⟨a, ns, rfl, f1, p _ ι G H .refl s (.int _)⟩
      · exact p.elim
    · exact p.elim
  · exact p.elim
theorem ints_dps {G : Hp} (ns : List Int) : DpAll K G (ns.map V.int) (ns.map .int) := by
  induction ns with
  | nil => exact .nil
  | cons n ns ih => exact .cons (.int _) ih
theorem k_sortedL : CallOk K Wx oSortedL (rSortedI K) := by
  intro ι G H w σ vs ds Q s r p
  unfold oSortedL at p
  split at p
  · split at p
    · rename_i x ds h
      split at p
      · rename_i ns hn
        obtain ⟨v, rfl, hv⟩ := one_v r
        obtain ⟨a, us, rfl, f1, f2⟩ := items_dp s hv h
        have e := ints_vs f2 hn
        subst e
        refine ⟨a, ns, rfl, f1, fun ms q hp hr hq => ?_⟩
        rw [sortI_uniq hp hr]
        exact p _ ι _ _ (Evo.newD s.sub hq) (s.newD hq) (.lst (Evl.sq_of upd_same) (ints_dps _))
      · exact p.elim
    · exact p.elim
  · exact p.elim
end
end RK

set_option Elab.async false
set_option linter.all false
set_option maxRecDepth 100000
set_option maxHeartbeats 4000000
namespace LW
open PySem PySem.Spec PyProof.Rows L2 RK
def top (i : Nat) : Stmt := PySem.Challenge.pw_rentroll_k08_balance_and_growth.main.body.getD i (.Pass ⟨0, 0, 0, 0⟩)
abbrev st_pair_held : Stmt := top 1
abbrev n_pair_held : List Str := [(PySem.Str.ofString "terms"), (PySem.Str.ofString "day"), (PySem.Str.ofString "best"), (PySem.Str.ofString "pair")]
abbrev p_pair_held : List Str := [(PySem.Str.ofString "terms"), (PySem.Str.ofString "day")]
abbrev st_held : Stmt := top 2
abbrev n_held : List Str := [(PySem.Str.ofString "terms"), (PySem.Str.ofString "day"), (PySem.Str.ofString "pair")]
abbrev p_held : List Str := [(PySem.Str.ofString "terms"), (PySem.Str.ofString "day")]
abbrev st_unchanged_through : Stmt := top 3
abbrev n_unchanged_through : List Str := [(PySem.Str.ofString "terms"), (PySem.Str.ofString "day"), (PySem.Str.ofString "last"), (PySem.Str.ofString "pair")]
abbrev p_unchanged_through : List Str := [(PySem.Str.ofString "terms"), (PySem.Str.ofString "day"), (PySem.Str.ofString "last")]
abbrev st_balance : Stmt := top 6
abbrev n_balance : List Str := [(PySem.Str.ofString "moves"), (PySem.Str.ofString "day"), (PySem.Str.ofString "move")]
abbrev p_balance : List Str := [(PySem.Str.ofString "moves"), (PySem.Str.ofString "day")]
abbrev st_grown : Stmt := top 7
abbrev n_grown : List Str := [(PySem.Str.ofString "moves"), (PySem.Str.ofString "rates"), (PySem.Str.ofString "last"), (PySem.Str.ofString "total"), (PySem.Str.ofString "day"), (PySem.Str.ofString "until")]
abbrev p_grown : List Str := [(PySem.Str.ofString "moves"), (PySem.Str.ofString "rates"), (PySem.Str.ofString "last")]
abbrev st_law_cell_at : Stmt := top 9
abbrev n_law_cell_at : List Str := [(PySem.Str.ofString "_law_script"), (PySem.Str.ofString "_law_k")]
abbrev p_law_cell_at : List Str := [(PySem.Str.ofString "_law_script"), (PySem.Str.ofString "_law_k")]
abbrev st_law_whole : Stmt := top 10
abbrev n_law_whole : List Str := [(PySem.Str.ofString "_law_found")]
abbrev p_law_whole : List Str := [(PySem.Str.ofString "_law_found")]
abbrev st_law_mix : Stmt := top 11
abbrev n_law_mix : List Str := [(PySem.Str.ofString "_law_number"), (PySem.Str.ofString "_law_k"), (PySem.Str.ofString "_law_more")]
abbrev p_law_mix : List Str := [(PySem.Str.ofString "_law_number"), (PySem.Str.ofString "_law_k")]
abbrev st_law_base : Stmt := top 12
abbrev n_law_base : List Str := [(PySem.Str.ofString "_law_cell"), (PySem.Str.ofString "_law_near")]
abbrev p_law_base : List Str := [(PySem.Str.ofString "_law_cell")]
abbrev st_law_held : Stmt := top 13
abbrev n_law_held : List Str := [(PySem.Str.ofString "_law_terms"), (PySem.Str.ofString "_law_day"), (PySem.Str.ofString "_law_best"), (PySem.Str.ofString "_law_pair")]
abbrev p_law_held : List Str := [(PySem.Str.ofString "_law_terms"), (PySem.Str.ofString "_law_day")]
abbrev st_law_moves : Stmt := top 14
abbrev n_law_moves : List Str := [(PySem.Str.ofString "_law_script"), (PySem.Str.ofString "_law_base_here"), (PySem.Str.ofString "_law_many"), (PySem.Str.ofString "_law_moves_here"), (PySem.Str.ofString "_law_k"), (PySem.Str.ofString "_law_more"), (PySem.Str.ofString "_law_cents")]
abbrev p_law_moves : List Str := [(PySem.Str.ofString "_law_script"), (PySem.Str.ofString "_law_base_here")]
abbrev st_law_rates : Stmt := top 15
abbrev n_law_rates : List Str := [(PySem.Str.ofString "_law_script"), (PySem.Str.ofString "_law_base_here"), (PySem.Str.ofString "_law_rates_here"), (PySem.Str.ofString "_law_k"), (PySem.Str.ofString "_law_more")]
abbrev p_law_rates : List Str := [(PySem.Str.ofString "_law_script"), (PySem.Str.ofString "_law_base_here")]
abbrev st_law_balance : Stmt := top 16
abbrev n_law_balance : List Str := [(PySem.Str.ofString "_law_moves_here"), (PySem.Str.ofString "_law_day"), (PySem.Str.ofString "_law_total"), (PySem.Str.ofString "_law_move")]
abbrev p_law_balance : List Str := [(PySem.Str.ofString "_law_moves_here"), (PySem.Str.ofString "_law_day")]
abbrev st_law_grown : Stmt := top 17
abbrev n_law_grown : List Str := [(PySem.Str.ofString "_law_moves_here"), (PySem.Str.ofString "_law_rates_here"), (PySem.Str.ofString "_law_base_here"), (PySem.Str.ofString "_law_last"), (PySem.Str.ofString "_law_total"), (PySem.Str.ofString "_law_day")]
abbrev p_law_grown : List Str := [(PySem.Str.ofString "_law_moves_here"), (PySem.Str.ofString "_law_rates_here"), (PySem.Str.ofString "_law_base_here"), (PySem.Str.ofString "_law_last")]
abbrev st_law : Stmt := top 18
abbrev n_law : List Str := [(PySem.Str.ofString "_law_script"), (PySem.Str.ofString "_law_base_here"), (PySem.Str.ofString "_law_moves_here"), (PySem.Str.ofString "_law_rates_here"), (PySem.Str.ofString "_law_last"), (PySem.Str.ofString "_law_handed"), (PySem.Str.ofString "_law_found"), (PySem.Str.ofString "_law_due"), (PySem.Str.ofString "_law_more"), (PySem.Str.ofString "_law_cents"), (PySem.Str.ofString "_law_rate"), (PySem.Str.ofString "_law_far")]
abbrev p_law : List Str := [(PySem.Str.ofString "_law_script")]
end LW

set_option Elab.async false
set_option linter.all false
set_option maxRecDepth 100000
set_option maxHeartbeats 4000000
namespace LW
open PySem PySem.Spec PyProof.Rows L2 RK
noncomputable section
def errs : List Str := []
/-- c is caught by h -/
def mt (c h : Str) : Bool := decide (c = h) || (decide (h = (PySem.Str.ofString "RentError")) || decide (h = (PySem.Str.ofString "ValueError")))
def sm_pair_held_l1 : SM := sIf (xAnd (xBin oLe (xBin oIxT (xVar 3) (xLit (.int 0))) (xVar 1)) (xOr (xBin oIsN (xVar 2) (xLit .none)) (xBin oGe (xBin oIxT (xVar 3) (xLit (.int 0))) (xBin oIxT (xVar 2) (xLit (.int 0)))))) (sSet 2 (xVar 3)) sNil
def sm_pair_held : SM := sSeq (sSet 2 (xLit .none)) (sSeq (sFor (gNm 3) (xVar 0) sm_pair_held_l1) (sRet (xVar 2)))
def f_pair_held : FP := runP 4 sm_pair_held
def sm_held : SM := sSeq (sSet 2 (xCallP f_pair_held (xCons (xVar 0) (xCons (xVar 1) xNil)))) (sSeq (sIf (xBin oIsN (xVar 2) (xLit .none)) (sRet (xLit .none)) sNil) (sRet (xBin oIxT (xVar 2) (xLit (.int 1)))))
def f_held : FP := runP 3 sm_held
def sm_unchanged_through_l1 : SM := sIf (xChain oLt oLe (xVar 1) (xBin oIxT (xVar 3) (xLit (.int 0))) (xVar 2)) (sSet 2 (xBin oSub (xBin oIxT (xVar 3) (xLit (.int 0))) (xLit (.int 1)))) sNil
def sm_unchanged_through : SM := sSeq (sFor (gNm 3) (xVar 0) sm_unchanged_through_l1) (sRet (xVar 2))
def f_unchanged_through : FP := runP 4 sm_unchanged_through
def sm_balance : SM := sRet (xCall oSumL (xCons (xLc false 2 (xVar 0) (some (xBin oLe (xBin oIxT (xVar 2) (xLit (.int 0))) (xVar 1))) (xBin oIxT (xVar 2) (xLit (.int 1)))) xNil))
def f_balance : FP := runP 3 sm_balance
def sm_grown_l1 : SM := sSeq (sSet 5 (xCallP f_unchanged_through (xCons (xVar 0) (xCons (xVar 4) (xCons (xVar 2) xNil))))) (sSeq (sSet 5 (xCallP f_unchanged_through (xCons (xVar 1) (xCons (xVar 4) (xCons (xVar 5) xNil))))) (sSeq (sSet 3 (xBin oAdd (xVar 3) (xBin oMul (xBin oMul (xCallP f_balance (xCons (xVar 0) (xCons (xVar 4) xNil))) (xCallP f_held (xCons (xVar 1) (xCons (xVar 4) xNil)))) (xBin oAdd (xBin oSub (xVar 5) (xVar 4)) (xLit (.int 1)))))) (sSet 4 (xBin oAdd (xVar 5) (xLit (.int 1))))))
def sm_grown_l2 : XM := xBin oLe (xVar 4) (xVar 2)
def sm_grown : SM := sSeq (sSet 3 (xLit (.int 0))) (sSeq (sSet 4 (xLit (.int 0))) (sSeq (sWhile 100001 sm_grown_l2 sm_grown_l1) (sRet (xBin oDiv (xVar 3) (xLit (.int 3650000))))))
def f_grown : FP := runP 6 sm_grown
def sm_law_cell_at : SM := sSeq (sIf (xBin oLt (xVar 1) (xCall oLen (xCons (xVar 0) xNil))) (sRet (xBin oIxL (xVar 0) (xVar 1))) sNil) (sRet (xLit (.int 0)))
def f_law_cell_at : FP := runP 2 sm_law_cell_at
def sm_law_whole : SM := sRet (xAnd (xIsi "int" (xVar 0)) (xNot (xIsi "bool" (xVar 0))))
def f_law_whole : FP := runP 1 sm_law_whole
def sm_law_mix : SM := sSeq (sSet 2 (xBin oMod (xBin oAdd (xBin oAdd (xBin oMul (xVar 0) (xLit (.int 48271))) (xBin oMul (xVar 1) (xLit (.int 69621)))) (xLit (.int 11))) (xLit (.int 1000003)))) (sRet (xBin oMod (xBin oAdd (xBin oAdd (xBin oMul (xVar 2) (xVar 2)) (xBin oMul (xLit (.int 7)) (xVar 2))) (xVar 1)) (xLit (.int 999983))))
def f_law_mix : FP := runP 3 sm_law_mix
def sm_law_base : SM := sSeq (sSet 1 (xLst (xCons (xLit (.int 0)) (xCons (xLit (.int 20)) (xCons (xLit (.int 50)) (xCons (xLit (.int 360)) (xCons (xLit (.int 1140)) (xCons (xLit (.int 36500)) (xCons (xLit (.int 36560)) (xCons (xLit (.int 73040)) (xCons (xLit (.int 99600)) xNil))))))))))) (sSeq (sIf (xBin oEq (xBin oMod (xVar 0) (xLit (.int 3))) (xLit (.int 1))) (sRet (xBin oIxL (xVar 1) (xBin oMod (xBin oDiv (xVar 0) (xLit (.int 3))) (xLit (.int 9))))) sNil) (sRet (xBin oMod (xBin oDiv (xVar 0) (xLit (.int 3))) (xLit (.int 99600)))))
def f_law_base : FP := runP 2 sm_law_base
def sm_law_held_l1 : SM := sIf (xAnd (xBin oLe (xBin oIxT (xVar 3) (xLit (.int 0))) (xVar 1)) (xOr (xBin oIsN (xVar 2) (xLit .none)) (xBin oGe (xBin oIxT (xVar 3) (xLit (.int 0))) (xBin oIxT (xVar 2) (xLit (.int 0)))))) (sSet 2 (xVar 3)) sNil
def sm_law_held : SM := sSeq (sSet 2 (xLit .none)) (sSeq (sFor (gNm 3) (xVar 0) sm_law_held_l1) (sRet (xVar 2)))
def f_law_held : FP := runP 4 sm_law_held
def sm_law_moves_l1 : SM := sSeq (sSet 5 (xCallP f_law_mix (xCons (xCallP f_law_cell_at (xCons (xVar 0) (xCons (xLit (.int 2)) xNil))) (xCons (xVar 4) xNil)))) (sSeq (sSet 6 (xBin oIxL (xLst (xCons (xBin oMod (xBin oDiv (xVar 5) (xLit (.int 50))) (xLit (.int 90000))) (xCons (xBin oPow (xLit (.int 10)) (xLit (.int 9))) (xCons (xBin oMod (xBin oMul (xCallP f_law_mix (xCons (xVar 5) (xCons (xLit (.int 4)) xNil))) (xLit (.int 997))) (xBin oAdd (xBin oPow (xLit (.int 10)) (xLit (.int 9))) (xLit (.int 1)))) xNil)))) (xBin oMod (xBin oDiv (xVar 5) (xLit (.int 7))) (xLit (.int 3))))) (sExp (xApp (xVar 3) (xTup (xCons (xBin oAdd (xVar 1) (xBin oMod (xVar 5) (xLit (.int 50)))) (xCons (xBin oMul (xVar 6) (xBin oSub (xLit (.int 1)) (xBin oMul (xLit (.int 2)) (xBin oMod (xBin oDiv (xVar 5) (xLit (.int 11))) (xLit (.int 2)))))) xNil))))))
def sm_law_moves_t4 : SM := sRet (xVar 3)
def sm_law_moves_t3 : SM := sSeq (sForR1 4 (xVar 2) sm_law_moves_l1) sm_law_moves_t4
def sm_law_moves_t2 : SM := sSeq (sSet 3 (xLstS xNil)) sm_law_moves_t3
def sm_law_moves_t1 : SM := sSeq (sIf (xBin oEq (xBin oMod (xBin oDiv (xCallP f_law_cell_at (xCons (xVar 0) (xCons (xLit (.int 1)) xNil))) (xLit (.int 6))) (xLit (.int 8))) (xLit (.int 1))) (sSet 2 (xBin oMul (xVar 2) (xLit (.int 8)))) sNil) sm_law_moves_t2
def sm_law_moves : SM := sSeq (sSet 2 (xBin oMod (xCallP f_law_cell_at (xCons (xVar 0) (xCons (xLit (.int 1)) xNil))) (xLit (.int 6)))) sm_law_moves_t1
def f_law_moves : FP := runP 7 sm_law_moves
def sm_law_rates_l1 : SM := sSeq (sSet 4 (xCallP f_law_mix (xCons (xCallP f_law_cell_at (xCons (xVar 0) (xCons (xLit (.int 3)) xNil))) (xCons (xBin oAdd (xLit (.int 30)) (xVar 3)) xNil)))) (sExp (xApp (xVar 2) (xTup (xCons (xCall oMax2 (xCons (xLit (.int 0)) (xCons (xBin oAdd (xBin oSub (xVar 1) (xLit (.int 4))) (xBin oMod (xVar 4) (xLit (.int 54)))) xNil))) (xCons (xBin oMod (xBin oDiv (xVar 4) (xLit (.int 54))) (xBin oAdd (xBin oPow (xLit (.int 10)) (xLit (.int 4))) (xLit (.int 1)))) xNil)))))
def sm_law_rates : SM := sSeq (sSet 2 (xLstS (xCons (xTup (xCons (xLit (.int 0)) (xCons (xBin oIxL (xLst (xCons (xLit (.int 0)) (xCons (xLit (.int 1)) (xCons (xBin oPow (xLit (.int 10)) (xLit (.int 4))) (xCons (xLit (.int 350)) xNil))))) (xBin oMod (xCallP f_law_cell_at (xCons (xVar 0) (xCons (xLit (.int 3)) xNil))) (xLit (.int 4)))) xNil))) xNil))) (sSeq (sForR1 3 (xBin oMod (xBin oDiv (xCallP f_law_cell_at (xCons (xVar 0) (xCons (xLit (.int 3)) xNil))) (xLit (.int 4))) (xLit (.int 5))) sm_law_rates_l1) (sRet (xVar 2)))
def f_law_rates : FP := runP 5 sm_law_rates
def sm_law_balance_l1 : SM := sIf (xBin oLe (xBin oIxT (xVar 3) (xLit (.int 0))) (xVar 1)) (sSet 2 (xBin oAdd (xVar 2) (xBin oIxT (xVar 3) (xLit (.int 1))))) sNil
def sm_law_balance : SM := sSeq (sSet 2 (xLit (.int 0))) (sSeq (sFor (gNm 3) (xVar 0) sm_law_balance_l1) (sRet (xVar 2)))
def f_law_balance : FP := runP 4 sm_law_balance
def sm_law_grown_l1 : SM := sSet 4 (xBin oAdd (xVar 4) (xBin oMul (xCallP f_law_balance (xCons (xVar 0) (xCons (xVar 5) xNil))) (xBin oIxT (xCallP f_law_held (xCons (xVar 1) (xCons (xVar 5) xNil))) (xLit (.int 1)))))
def sm_law_grown : SM := sSeq (sSet 4 (xLit (.int 0))) (sSeq (sForR2 5 (xVar 2) (xBin oAdd (xVar 3) (xLit (.int 1))) sm_law_grown_l1) (sRet (xBin oDiv (xVar 4) (xLit (.int 3650000)))))
def f_law_grown : FP := runP 6 sm_law_grown
def sm_law_t17 : SM := sRet (xBin oEq (xCallP f_grown (xCons (xLst (xCons (xTup (xCons (xVar 1) (xCons (xVar 9) xNil))) xNil)) (xCons (xLst (xCons (xTup (xCons (xLit (.int 0)) (xCons (xVar 10) xNil))) xNil)) (xCons (xVar 11) xNil)))) (xBin oDiv (xBin oMul (xBin oMul (xVar 9) (xVar 10)) (xBin oAdd (xBin oSub (xVar 11) (xVar 1)) (xLit (.int 1)))) (xLit (.int 3650000))))
def sm_law_t16 : SM := sSeq (sSet 11 (xBin oAdd (xVar 1) (xBin oMod (xCallP f_law_mix (xCons (xCallP f_law_cell_at (xCons (xVar 0) (xCons (xLit (.int 5)) xNil))) (xCons (xLit (.int 7)) xNil))) (xBin oSub (xLit (.int 100000)) (xVar 1))))) sm_law_t17
def sm_law_t15 : SM := sSeq (sSet 10 (xBin oMod (xCallP f_law_cell_at (xCons (xVar 0) (xCons (xLit (.int 5)) xNil))) (xBin oAdd (xBin oPow (xLit (.int 10)) (xLit (.int 4))) (xLit (.int 1))))) sm_law_t16
def sm_law_t14 : SM := sSeq (sSet 9 (xBin oAdd (xLit (.int 1)) (xBin oMod (xBin oMul (xCallP f_law_mix (xCons (xCallP f_law_cell_at (xCons (xVar 0) (xCons (xLit (.int 5)) xNil))) (xCons (xLit (.int 6)) xNil))) (xLit (.int 1009))) (xBin oPow (xLit (.int 10)) (xLit (.int 9)))))) sm_law_t15
def sm_law_t13 : SM := sSeq (sIf (xBin oNe (xCallS f_grown (xCons (xBin oIxT (xVar 5) (xLit (.int 0))) (xCons (xBin oIxT (xVar 5) (xLit (.int 1))) (xCons (xVar 4) xNil)))) (xBin oIxT (xVar 7) (xLit (.int 1)))) (sRet (xLit (.bool false))) sNil) sm_law_t14
def sm_law_t12 : SM := sSeq (sExp (xPopL (xBin oIxT (xVar 5) (xLit (.int 0))))) sm_law_t13
def sm_law_t11 : SM := sSeq (sIf (xBin oNe (xCallS f_grown (xCons (xBin oIxT (xVar 5) (xLit (.int 0))) (xCons (xBin oIxT (xVar 5) (xLit (.int 1))) (xCons (xVar 4) xNil)))) (xCallP f_law_grown (xCons (xVar 8) (xCons (xVar 3) (xCons (xVar 1) (xCons (xVar 4) xNil)))))) (sRet (xLit (.bool false))) sNil) sm_law_t12
def sm_law_t10 : SM := sSeq (sExp (xApp (xBin oIxT (xVar 5) (xLit (.int 0))) (xBin oIxL (xVar 8) (xNeg (xLit (.int 1)))))) sm_law_t11
def sm_law_t9 : SM := sSeq (sSet 8 (xBin oCat (xVar 2) (xLst (xCons (xTup (xCons (xVar 1) (xCons (xBin oMul (xLit (.int 365)) (xBin oPow (xLit (.int 10)) (xLit (.int 4)))) xNil))) xNil)))) sm_law_t10
def sm_law_t8 : SM := sSeq (sIf (xBin oNe (xVar 6) (xVar 7)) (sRet (xLit (.bool false))) sNil) sm_law_t9
def sm_law_t7 : SM := sSeq (sSet 7 (xTup (xCons (xCallP f_law_balance (xCons (xVar 2) (xCons (xVar 4) xNil))) (xCons (xCallP f_law_grown (xCons (xVar 2) (xCons (xVar 3) (xCons (xVar 1) (xCons (xVar 4) xNil))))) xNil)))) sm_law_t8
def sm_law_t6 : SM := sSeq (sIf (xOr (xBin oNe (xVar 5) (xTup (xCons (xVar 2) (xCons (xVar 3) xNil)))) (xOr (xNot (xCallP f_law_whole (xCons (xBin oIxT (xVar 6) (xLit (.int 0))) xNil))) (xNot (xCallP f_law_whole (xCons (xBin oIxT (xVar 6) (xLit (.int 1))) xNil))))) (sRet (xLit (.bool false))) sNil) sm_law_t7
def sm_law_t5 : SM := sSeq (sSet 6 (xTup (xCons (xCallS f_balance (xCons (xBin oIxT (xVar 5) (xLit (.int 0))) (xCons (xVar 4) xNil))) (xCons (xCallS f_grown (xCons (xBin oIxT (xVar 5) (xLit (.int 0))) (xCons (xBin oIxT (xVar 5) (xLit (.int 1))) (xCons (xVar 4) xNil)))) xNil)))) sm_law_t6
def sm_law_t4 : SM := sSeq (sSet 5 (xTupS (xCons (xCall oListS (xCons (xVar 2) xNil)) (xCons (xCall oListS (xCons (xVar 3) xNil)) xNil)))) sm_law_t5
def sm_law_t3 : SM := sSeq (sSet 4 (xCall oMin2 (xCons (xLit (.int 99999)) (xCons (xCall oMax2 (xCons (xLit (.int 0)) (xCons (xBin oAdd (xBin oSub (xVar 1) (xLit (.int 2))) (xBin oMod (xCallP f_law_cell_at (xCons (xVar 0) (xCons (xLit (.int 4)) xNil))) (xLit (.int 83)))) xNil))) xNil)))) sm_law_t4
def sm_law_t2 : SM := sSeq (sSet 3 (xCallP f_law_rates (xCons (xVar 0) (xCons (xVar 1) xNil)))) sm_law_t3
def sm_law_t1 : SM := sSeq (sSet 2 (xCallP f_law_moves (xCons (xVar 0) (xCons (xVar 1) xNil)))) sm_law_t2
def sm_law : SM := sSeq (sSet 1 (xCallP f_law_base (xCons (xCallP f_law_cell_at (xCons (xVar 0) (xCons (xLit (.int 0)) xNil))) xNil))) sm_law_t1
def f_law : FP := runP 12 sm_law
end
end LW

set_option Elab.async false
set_option linter.all false
set_option maxRecDepth 100000
set_option maxHeartbeats 4000000
namespace LW
open PySem PySem.Spec PyProof.Rows L2 RK
/-- what the top has left -/
structure Txt (K : PySem.W.Frag) (mg : Str → Option Value) : Prop where
  F_pair_held : ∃ fd, FunD K (PySem.Str.ofString "pair_held") (PySem.Str.ofString "pair_held") (defArgs st_pair_held) (defBody st_pair_held) (defScope st_pair_held) [] [] (He.ga K (PySem.Str.ofString "pair_held")) fd
  g_pair_held : mg (PySem.Str.ofString "pair_held") = some (.ref (He.ga K (PySem.Str.ofString "pair_held")))
  F_held : ∃ fd, FunD K (PySem.Str.ofString "held") (PySem.Str.ofString "held") (defArgs st_held) (defBody st_held) (defScope st_held) [] [] (He.ga K (PySem.Str.ofString "held")) fd
  g_held : mg (PySem.Str.ofString "held") = some (.ref (He.ga K (PySem.Str.ofString "held")))
  F_unchanged_through : ∃ fd, FunD K (PySem.Str.ofString "unchanged_through") (PySem.Str.ofString "unchanged_through") (defArgs st_unchanged_through) (defBody st_unchanged_through) (defScope st_unchanged_through) [] [] (He.ga K (PySem.Str.ofString "unchanged_through")) fd
  g_unchanged_through : mg (PySem.Str.ofString "unchanged_through") = some (.ref (He.ga K (PySem.Str.ofString "unchanged_through")))
  F_balance : ∃ fd, FunD K (PySem.Str.ofString "balance") (PySem.Str.ofString "balance") (defArgs st_balance) (defBody st_balance) (defScope st_balance) [] [] (He.ga K (PySem.Str.ofString "balance")) fd
  g_balance : mg (PySem.Str.ofString "balance") = some (.ref (He.ga K (PySem.Str.ofString "balance")))
  F_grown : ∃ fd, FunD K (PySem.Str.ofString "grown") (PySem.Str.ofString "grown") (defArgs st_grown) (defBody st_grown) (defScope st_grown) [] [] (He.ga K (PySem.Str.ofString "grown")) fd
  g_grown : mg (PySem.Str.ofString "grown") = some (.ref (He.ga K (PySem.Str.ofString "grown")))
  F_law_cell_at : ∃ fd, FunD K (PySem.Str.ofString "_law_cell_at") (PySem.Str.ofString "_law_cell_at") (defArgs st_law_cell_at) (defBody st_law_cell_at) (defScope st_law_cell_at) [] [] (He.ga K (PySem.Str.ofString "_law_cell_at")) fd
  g_law_cell_at : mg (PySem.Str.ofString "_law_cell_at") = some (.ref (He.ga K (PySem.Str.ofString "_law_cell_at")))
  F_law_whole : ∃ fd, FunD K (PySem.Str.ofString "_law_whole") (PySem.Str.ofString "_law_whole") (defArgs st_law_whole) (defBody st_law_whole) (defScope st_law_whole) [] [] (He.ga K (PySem.Str.ofString "_law_whole")) fd
  g_law_whole : mg (PySem.Str.ofString "_law_whole") = some (.ref (He.ga K (PySem.Str.ofString "_law_whole")))
  F_law_mix : ∃ fd, FunD K (PySem.Str.ofString "_law_mix") (PySem.Str.ofString "_law_mix") (defArgs st_law_mix) (defBody st_law_mix) (defScope st_law_mix) [] [] (He.ga K (PySem.Str.ofString "_law_mix")) fd
  g_law_mix : mg (PySem.Str.ofString "_law_mix") = some (.ref (He.ga K (PySem.Str.ofString "_law_mix")))
  F_law_base : ∃ fd, FunD K (PySem.Str.ofString "_law_base") (PySem.Str.ofString "_law_base") (defArgs st_law_base) (defBody st_law_base) (defScope st_law_base) [] [] (He.ga K (PySem.Str.ofString "_law_base")) fd
  g_law_base : mg (PySem.Str.ofString "_law_base") = some (.ref (He.ga K (PySem.Str.ofString "_law_base")))
  F_law_held : ∃ fd, FunD K (PySem.Str.ofString "_law_held") (PySem.Str.ofString "_law_held") (defArgs st_law_held) (defBody st_law_held) (defScope st_law_held) [] [] (He.ga K (PySem.Str.ofString "_law_held")) fd
  g_law_held : mg (PySem.Str.ofString "_law_held") = some (.ref (He.ga K (PySem.Str.ofString "_law_held")))
  F_law_moves : ∃ fd, FunD K (PySem.Str.ofString "_law_moves") (PySem.Str.ofString "_law_moves") (defArgs st_law_moves) (defBody st_law_moves) (defScope st_law_moves) [] [] (He.ga K (PySem.Str.ofString "_law_moves")) fd
  g_law_moves : mg (PySem.Str.ofString "_law_moves") = some (.ref (He.ga K (PySem.Str.ofString "_law_moves")))
  F_law_rates : ∃ fd, FunD K (PySem.Str.ofString "_law_rates") (PySem.Str.ofString "_law_rates") (defArgs st_law_rates) (defBody st_law_rates) (defScope st_law_rates) [] [] (He.ga K (PySem.Str.ofString "_law_rates")) fd
  g_law_rates : mg (PySem.Str.ofString "_law_rates") = some (.ref (He.ga K (PySem.Str.ofString "_law_rates")))
  F_law_balance : ∃ fd, FunD K (PySem.Str.ofString "_law_balance") (PySem.Str.ofString "_law_balance") (defArgs st_law_balance) (defBody st_law_balance) (defScope st_law_balance) [] [] (He.ga K (PySem.Str.ofString "_law_balance")) fd
  g_law_balance : mg (PySem.Str.ofString "_law_balance") = some (.ref (He.ga K (PySem.Str.ofString "_law_balance")))
  F_law_grown : ∃ fd, FunD K (PySem.Str.ofString "_law_grown") (PySem.Str.ofString "_law_grown") (defArgs st_law_grown) (defBody st_law_grown) (defScope st_law_grown) [] [] (He.ga K (PySem.Str.ofString "_law_grown")) fd
  g_law_grown : mg (PySem.Str.ofString "_law_grown") = some (.ref (He.ga K (PySem.Str.ofString "_law_grown")))
  F_law : ∃ fd, FunD K (PySem.Str.ofString "law") (PySem.Str.ofString "law") (defArgs st_law) (defBody st_law) (defScope st_law) [] [] (He.ga K (PySem.Str.ofString "law")) fd
  g_law : mg (PySem.Str.ofString "law") = some (.ref (He.ga K (PySem.Str.ofString "law")))
  n_bool : mg (PySem.Str.ofString "bool") = none
  n_int : mg (PySem.Str.ofString "int") = none
  n_isinstance : mg (PySem.Str.ofString "isinstance") = none
  n_len : mg (PySem.Str.ofString "len") = none
  n_list : mg (PySem.Str.ofString "list") = none
  n_max : mg (PySem.Str.ofString "max") = none
  n_min : mg (PySem.Str.ofString "min") = none
  n_range : mg (PySem.Str.ofString "range") = none
  n_sum : mg (PySem.Str.ofString "sum") = none
  k_bool : KindsOk K "bool"
  k_int : KindsOk K "int"
  c_PARTS : ∃ t, mg (PySem.Str.ofString "PARTS") = some (.int 3650000 t)
section
variable {P : Program} {w : World} {K : PySem.W.Frag} {mg : Str → Option Value} {base : Heap}
theorem sc_pair_held : FnScope n_pair_held p_pair_held (defScope st_pair_held) := ⟨rfl, rfl, rfl, by decide +kernel, rfl, by decide +kernel, by decide +kernel⟩
theorem fn_pair_held (T : Txt K mg)  : Fn P w K mg base (PySem.Str.ofString "pair_held") 1 (spP K 2 f_pair_held) := by
  obtain ⟨fd, F⟩ := T.F_pair_held
  refine mk_P (s := sm_pair_held) rfl rfl rfl T.g_pair_held F sc_pair_held (F.bindsN fun _ _ _ _ _ _ us hl => match us, hl with | [_, _], _ => rfl) (fun cdv A outer st H E hr => ?_)
  have tk : Takes (cxOf (L2.CX P w) P w K mg base n_pair_held (PySem.Str.ofString "pair_held") (defScope st_pair_held) (He.ga K (PySem.Str.ofString "pair_held")) cdv A outer st H E) (wishOf E) := takes_of rfl rfl rfl rfl
  have hp : PassesOwn (model P w) (cxOf (L2.CX P w) P w K mg base n_pair_held (PySem.Str.ofString "pair_held") (defScope st_pair_held) (He.ga K (PySem.Str.ofString "pair_held")) cdv A outer st H E).A (cxOf (L2.CX P w) P w K mg base n_pair_held (PySem.Str.ofString "pair_held") (defScope st_pair_held) (He.ga K (PySem.Str.ofString "pair_held")) cdv A outer st H E).env (cxOf (L2.CX P w) P w K mg base n_pair_held (PySem.Str.ofString "pair_held") (defScope st_pair_held) (He.ga K (PySem.Str.ofString "pair_held")) cdv A outer st H E).xe := passes_of rfl
  exact ss_cons (s_set (fun _ h => ps_set (i := 2) sc_pair_held.nd rfl (Or.inl rfl) h) x_non)
        (ss_cons (s_for (tg_name 3) hp rfl (x_var 0 (pv 0)) (pg_name (i := 3) sc_pair_held.nd rfl (Or.inl rfl)) (ss_one (s_if (PW.pt (w_and (t_cmp k_le op_le (x_ix k_ixT ix_tup (x_var 3 (pv 3)) x_int (fun _ _ => rfl)) (x_var 1 (pv 1)) (nomark _)) (w_and1 (PW.pt (w_or (t_cmp k_isN op_isN (x_var 2 (pv 2)) x_non (nomark _)) (w_or1 (t_cmp k_ge op_ge (x_ix k_ixT ix_tup (x_var 3 (pv 3)) x_int (fun _ _ => rfl)) (x_ix k_ixT ix_tup (x_var 2 (pv 2)) x_int (fun _ _ => rfl)) (nomark _)))))))) (ss_one (s_set (fun _ h => ps_set (i := 2) sc_pair_held.nd rfl (Or.inl rfl) h) (x_var 3 (pv 3)))) ss_nil)))
        (ss_one (s_ret (x_var 2 (pv 2)))))
theorem sc_held : FnScope n_held p_held (defScope st_held) := ⟨rfl, rfl, rfl, by decide +kernel, rfl, by decide +kernel, by decide +kernel⟩
theorem fn_held (T : Txt K mg) (F_pair_held : Fn P w K mg base (PySem.Str.ofString "pair_held") 1 (spP K 2 f_pair_held)) : Fn P w K mg base (PySem.Str.ofString "held") 2 (spP K 2 f_held) := by
  obtain ⟨fd, F⟩ := T.F_held
  refine mk_P (s := sm_held) rfl rfl rfl T.g_held F sc_held (F.bindsN fun _ _ _ _ _ _ us hl => match us, hl with | [_, _], _ => rfl) (fun cdv A outer st H E hr => ?_)
  have tk : Takes (cxOf (L2.CX P w) P w K mg base n_held (PySem.Str.ofString "held") (defScope st_held) (He.ga K (PySem.Str.ofString "held")) cdv A outer st H E) (wishOf E) := takes_of rfl rfl rfl rfl
  have hp : PassesOwn (model P w) (cxOf (L2.CX P w) P w K mg base n_held (PySem.Str.ofString "held") (defScope st_held) (He.ga K (PySem.Str.ofString "held")) cdv A outer st H E).A (cxOf (L2.CX P w) P w K mg base n_held (PySem.Str.ofString "held") (defScope st_held) (He.ga K (PySem.Str.ofString "held")) cdv A outer st H E).env (cxOf (L2.CX P w) P w K mg base n_held (PySem.Str.ofString "held") (defScope st_held) (He.ga K (PySem.Str.ofString "held")) cdv A outer st H E).xe := passes_of rfl
  exact ss_cons (s_set (fun _ h => ps_set (i := 2) sc_held.nd rfl (Or.inl rfl) h) (x_callP F_pair_held (hr.mono (by decide)) tk rfl (a_cons (x_var 0 (pv 0)) (a_cons (x_var 1 (pv 1)) a_nil)) rfl (hx := ar_cons (ar_cons ar_nil))))
        (ss_cons (s_if (t_cmp k_isN op_isN (x_var 2 (pv 2)) x_non (nomark _)) (ss_one (s_ret x_non)) ss_nil)
        (ss_one (s_ret (x_ix k_ixT ix_tup (x_var 2 (pv 2)) x_int (fun _ _ => rfl)))))
theorem sc_unchanged_through : FnScope n_unchanged_through p_unchanged_through (defScope st_unchanged_through) := ⟨rfl, rfl, rfl, by decide +kernel, rfl, by decide +kernel, by decide +kernel⟩
theorem fn_unchanged_through (T : Txt K mg)  : Fn P w K mg base (PySem.Str.ofString "unchanged_through") 1 (spP K 3 f_unchanged_through) := by
  obtain ⟨fd, F⟩ := T.F_unchanged_through
  refine mk_P (s := sm_unchanged_through) rfl rfl rfl T.g_unchanged_through F sc_unchanged_through (F.bindsN fun _ _ _ _ _ _ us hl => match us, hl with | [_, _, _], _ => rfl) (fun cdv A outer st H E hr => ?_)
  have tk : Takes (cxOf (L2.CX P w) P w K mg base n_unchanged_through (PySem.Str.ofString "unchanged_through") (defScope st_unchanged_through) (He.ga K (PySem.Str.ofString "unchanged_through")) cdv A outer st H E) (wishOf E) := takes_of rfl rfl rfl rfl
  have hp : PassesOwn (model P w) (cxOf (L2.CX P w) P w K mg base n_unchanged_through (PySem.Str.ofString "unchanged_through") (defScope st_unchanged_through) (He.ga K (PySem.Str.ofString "unchanged_through")) cdv A outer st H E).A (cxOf (L2.CX P w) P w K mg base n_unchanged_through (PySem.Str.ofString "unchanged_through") (defScope st_unchanged_through) (He.ga K (PySem.Str.ofString "unchanged_through")) cdv A outer st H E).env (cxOf (L2.CX P w) P w K mg base n_unchanged_through (PySem.Str.ofString "unchanged_through") (defScope st_unchanged_through) (He.ga K (PySem.Str.ofString "unchanged_through")) cdv A outer st H E).xe := passes_of rfl
  exact ss_cons (s_for (tg_name 3) hp rfl (x_var 0 (pv 0)) (pg_name (i := 3) sc_unchanged_through.nd rfl (Or.inl rfl)) (ss_one (s_if (t_chain k_lt op_lt k_le op_le (x_var 1 (pv 1)) (x_ix k_ixT ix_tup (x_var 3 (pv 3)) x_int (fun _ _ => rfl)) (x_var 2 (pv 2))) (ss_one (s_set (fun _ h => ps_set (i := 2) sc_unchanged_through.nd rfl (Or.inl rfl) h) (x_sub (x_ix k_ixT ix_tup (x_var 3 (pv 3)) x_int (fun _ _ => rfl)) x_int))) ss_nil)))
        (ss_one (s_ret (x_var 2 (pv 2))))
theorem sc_balance : FnScope n_balance p_balance (defScope st_balance) := ⟨rfl, rfl, rfl, by decide +kernel, rfl, by decide +kernel, by decide +kernel⟩
theorem fn_balance (T : Txt K mg)  : Fn P w K mg base (PySem.Str.ofString "balance") 1 (spP K 2 f_balance) := by
  obtain ⟨fd, F⟩ := T.F_balance
  refine mk_P (s := sm_balance) rfl rfl rfl T.g_balance F sc_balance (F.bindsN fun _ _ _ _ _ _ us hl => match us, hl with | [_, _], _ => rfl) (fun cdv A outer st H E hr => ?_)
  have tk : Takes (cxOf (L2.CX P w) P w K mg base n_balance (PySem.Str.ofString "balance") (defScope st_balance) (He.ga K (PySem.Str.ofString "balance")) cdv A outer st H E) (wishOf E) := takes_of rfl rfl rfl rfl
  have hp : PassesOwn (model P w) (cxOf (L2.CX P w) P w K mg base n_balance (PySem.Str.ofString "balance") (defScope st_balance) (He.ga K (PySem.Str.ofString "balance")) cdv A outer st H E).A (cxOf (L2.CX P w) P w K mg base n_balance (PySem.Str.ofString "balance") (defScope st_balance) (He.ga K (PySem.Str.ofString "balance")) cdv A outer st H E).env (cxOf (L2.CX P w) P w K mg base n_balance (PySem.Str.ofString "balance") (defScope st_balance) (He.ga K (PySem.Str.ofString "balance")) cdv A outer st H E).xe := passes_of rfl
  exact ss_one (s_ret (x_blt k_sumL (cr_sum rfl) (by rfl) T.n_sum (by decide +kernel) (a_cons (x_lc (j := 2) rfl sc_balance.nd (x_var 0 (pv 0)) (blkOk_by (own := [((PySem.Str.ofString "move"), 2)]) (N := n_balance) (sc := defScope st_balance) (by decide +kernel)) (fun _ _ _ _ _ => pg_name (i := 2) sc_balance.nd rfl (Or.inl rfl)) (fun _ _ _ _ _ => pts_one (t_cmp k_le op_le (x_ix k_ixT ix_tup (x_var 2 (pv 2)) x_int (fun _ _ => rfl)) (x_var 1 (pv 1)) (nomark _))) (fun _ _ _ _ _ => x_ix k_ixT ix_tup (x_var 2 (pv 2)) x_int (fun _ _ => rfl))) a_nil)))
theorem sc_grown : FnScope n_grown p_grown (defScope st_grown) := ⟨rfl, rfl, rfl, by decide +kernel, rfl, by decide +kernel, by decide +kernel⟩
theorem fn_grown (T : Txt K mg) (F_unchanged_through : Fn P w K mg base (PySem.Str.ofString "unchanged_through") 1 (spP K 3 f_unchanged_through)) (F_balance : Fn P w K mg base (PySem.Str.ofString "balance") 1 (spP K 2 f_balance)) (F_held : Fn P w K mg base (PySem.Str.ofString "held") 2 (spP K 2 f_held)) : Fn P w K mg base (PySem.Str.ofString "grown") 3 (spP K 3 f_grown) := by
  obtain ⟨fd, F⟩ := T.F_grown
  refine mk_P (s := sm_grown) rfl rfl rfl T.g_grown F sc_grown (F.bindsN fun _ _ _ _ _ _ us hl => match us, hl with | [_, _, _], _ => rfl) (fun cdv A outer st H E hr => ?_)
  have tk : Takes (cxOf (L2.CX P w) P w K mg base n_grown (PySem.Str.ofString "grown") (defScope st_grown) (He.ga K (PySem.Str.ofString "grown")) cdv A outer st H E) (wishOf E) := takes_of rfl rfl rfl rfl
  have hp : PassesOwn (model P w) (cxOf (L2.CX P w) P w K mg base n_grown (PySem.Str.ofString "grown") (defScope st_grown) (He.ga K (PySem.Str.ofString "grown")) cdv A outer st H E).A (cxOf (L2.CX P w) P w K mg base n_grown (PySem.Str.ofString "grown") (defScope st_grown) (He.ga K (PySem.Str.ofString "grown")) cdv A outer st H E).env (cxOf (L2.CX P w) P w K mg base n_grown (PySem.Str.ofString "grown") (defScope st_grown) (He.ga K (PySem.Str.ofString "grown")) cdv A outer st H E).xe := passes_of rfl
  exact ss_cons (s_set (fun _ h => ps_set (i := 3) sc_grown.nd rfl (Or.inl rfl) h) x_int)
        (ss_cons (s_set (fun _ h => ps_set (i := 4) sc_grown.nd rfl (Or.inl rfl) h) x_int)
        (ss_cons (s_while hp (t_cmp k_le op_le (x_var 4 (pv 4)) (x_var 2 (pv 2)) (nomark _)) (ss_cons (s_set (fun _ h => ps_set (i := 5) sc_grown.nd rfl (Or.inl rfl) h) (x_callP F_unchanged_through (hr.mono (by decide)) tk rfl (a_cons (x_var 0 (pv 0)) (a_cons (x_var 4 (pv 4)) (a_cons (x_var 2 (pv 2)) a_nil))) rfl (hx := ar_cons (ar_cons (ar_cons ar_nil)))))
        (ss_cons (s_set (fun _ h => ps_set (i := 5) sc_grown.nd rfl (Or.inl rfl) h) (x_callP F_unchanged_through (hr.mono (by decide)) tk rfl (a_cons (x_var 1 (pv 1)) (a_cons (x_var 4 (pv 4)) (a_cons (x_var 5 (pv 5)) a_nil))) rfl (hx := ar_cons (ar_cons (ar_cons ar_nil)))))
        (ss_cons (s_set (fun _ h => ps_set (i := 3) sc_grown.nd rfl (Or.inl rfl) h) (x_add (x_var 3 (pv 3)) (x_mul (x_mul (x_callP F_balance (hr.mono (by decide)) tk rfl (a_cons (x_var 0 (pv 0)) (a_cons (x_var 4 (pv 4)) a_nil)) rfl (hx := ar_cons (ar_cons ar_nil))) (x_callP F_held (hr.mono (by decide)) tk rfl (a_cons (x_var 1 (pv 1)) (a_cons (x_var 4 (pv 4)) a_nil)) rfl (hx := ar_cons (ar_cons ar_nil)))) (x_add (x_sub (x_var 5 (pv 5)) (x_var 4 (pv 4))) x_int))))
        (ss_one (s_set (fun _ h => ps_set (i := 4) sc_grown.nd rfl (Or.inl rfl) h) (x_add (x_var 5 (pv 5)) x_int)))))))
        (ss_one (s_ret (x_div (x_var 3 (pv 3)) (x_gint rfl T.c_PARTS))))))
theorem sc_law_cell_at : FnScope n_law_cell_at p_law_cell_at (defScope st_law_cell_at) := ⟨rfl, rfl, rfl, by decide +kernel, rfl, by decide +kernel, by decide +kernel⟩
theorem fn_law_cell_at (T : Txt K mg)  : Fn P w K mg base (PySem.Str.ofString "_law_cell_at") 1 (spP K 2 f_law_cell_at) := by
  obtain ⟨fd, F⟩ := T.F_law_cell_at
  refine mk_P (s := sm_law_cell_at) rfl rfl rfl T.g_law_cell_at F sc_law_cell_at (F.bindsN fun _ _ _ _ _ _ us hl => match us, hl with | [_, _], _ => rfl) (fun cdv A outer st H E hr => ?_)
  have tk : Takes (cxOf (L2.CX P w) P w K mg base n_law_cell_at (PySem.Str.ofString "_law_cell_at") (defScope st_law_cell_at) (He.ga K (PySem.Str.ofString "_law_cell_at")) cdv A outer st H E) (wishOf E) := takes_of rfl rfl rfl rfl
  have hp : PassesOwn (model P w) (cxOf (L2.CX P w) P w K mg base n_law_cell_at (PySem.Str.ofString "_law_cell_at") (defScope st_law_cell_at) (He.ga K (PySem.Str.ofString "_law_cell_at")) cdv A outer st H E).A (cxOf (L2.CX P w) P w K mg base n_law_cell_at (PySem.Str.ofString "_law_cell_at") (defScope st_law_cell_at) (He.ga K (PySem.Str.ofString "_law_cell_at")) cdv A outer st H E).env (cxOf (L2.CX P w) P w K mg base n_law_cell_at (PySem.Str.ofString "_law_cell_at") (defScope st_law_cell_at) (He.ga K (PySem.Str.ofString "_law_cell_at")) cdv A outer st H E).xe := passes_of rfl
  exact ss_cons (s_if (t_cmp k_lt op_lt (x_var 1 (pv 1)) (x_blt k_len call_len (by rfl) T.n_len PySem.boot_len (a_cons (x_var 0 (pv 0)) a_nil)) (nomark _)) (ss_one (s_ret (x_ix k_ixL ix_list (x_var 0 (pv 0)) (x_var 1 (pv 1)) (fun _ _ => rfl)))) ss_nil)
        (ss_one (s_ret x_int))
theorem sc_law_whole : FnScope n_law_whole p_law_whole (defScope st_law_whole) := ⟨rfl, rfl, rfl, by decide +kernel, rfl, by decide +kernel, by decide +kernel⟩
theorem fn_law_whole (T : Txt K mg)  : Fn P w K mg base (PySem.Str.ofString "_law_whole") 1 (spP K 1 f_law_whole) := by
  obtain ⟨fd, F⟩ := T.F_law_whole
  refine mk_P (s := sm_law_whole) rfl rfl rfl T.g_law_whole F sc_law_whole (F.bindsN fun _ _ _ _ _ _ us hl => match us, hl with | [_], _ => rfl) (fun cdv A outer st H E hr => ?_)
  have tk : Takes (cxOf (L2.CX P w) P w K mg base n_law_whole (PySem.Str.ofString "_law_whole") (defScope st_law_whole) (He.ga K (PySem.Str.ofString "_law_whole")) cdv A outer st H E) (wishOf E) := takes_of rfl rfl rfl rfl
  have hp : PassesOwn (model P w) (cxOf (L2.CX P w) P w K mg base n_law_whole (PySem.Str.ofString "_law_whole") (defScope st_law_whole) (He.ga K (PySem.Str.ofString "_law_whole")) cdv A outer st H E).A (cxOf (L2.CX P w) P w K mg base n_law_whole (PySem.Str.ofString "_law_whole") (defScope st_law_whole) (He.ga K (PySem.Str.ofString "_law_whole")) cdv A outer st H E).env (cxOf (L2.CX P w) P w K mg base n_law_whole (PySem.Str.ofString "_law_whole") (defScope st_law_whole) (He.ga K (PySem.Str.ofString "_law_whole")) cdv A outer st H E).xe := passes_of rfl
  exact ss_one (s_ret (x_and (x_isi T.k_int rfl T.n_isinstance rfl T.n_int (by decide +kernel) (x_var 0 (pv 0))) (x_one (x_not (x_isi T.k_bool rfl T.n_isinstance rfl T.n_bool (by decide +kernel) (x_var 0 (pv 0)))))))
theorem sc_law_mix : FnScope n_law_mix p_law_mix (defScope st_law_mix) := ⟨rfl, rfl, rfl, by decide +kernel, rfl, by decide +kernel, by decide +kernel⟩
theorem fn_law_mix (T : Txt K mg)  : Fn P w K mg base (PySem.Str.ofString "_law_mix") 1 (spP K 2 f_law_mix) := by
  obtain ⟨fd, F⟩ := T.F_law_mix
  refine mk_P (s := sm_law_mix) rfl rfl rfl T.g_law_mix F sc_law_mix (F.bindsN fun _ _ _ _ _ _ us hl => match us, hl with | [_, _], _ => rfl) (fun cdv A outer st H E hr => ?_)
  have tk : Takes (cxOf (L2.CX P w) P w K mg base n_law_mix (PySem.Str.ofString "_law_mix") (defScope st_law_mix) (He.ga K (PySem.Str.ofString "_law_mix")) cdv A outer st H E) (wishOf E) := takes_of rfl rfl rfl rfl
  have hp : PassesOwn (model P w) (cxOf (L2.CX P w) P w K mg base n_law_mix (PySem.Str.ofString "_law_mix") (defScope st_law_mix) (He.ga K (PySem.Str.ofString "_law_mix")) cdv A outer st H E).A (cxOf (L2.CX P w) P w K mg base n_law_mix (PySem.Str.ofString "_law_mix") (defScope st_law_mix) (He.ga K (PySem.Str.ofString "_law_mix")) cdv A outer st H E).env (cxOf (L2.CX P w) P w K mg base n_law_mix (PySem.Str.ofString "_law_mix") (defScope st_law_mix) (He.ga K (PySem.Str.ofString "_law_mix")) cdv A outer st H E).xe := passes_of rfl
  exact ss_cons (s_set (fun _ h => ps_set (i := 2) sc_law_mix.nd rfl (Or.inl rfl) h) (x_mod (x_add (x_add (x_mul (x_var 0 (pv 0)) x_int) (x_mul (x_var 1 (pv 1)) x_int)) x_int) x_int))
        (ss_one (s_ret (x_mod (x_add (x_add (x_mul (x_var 2 (pv 2)) (x_var 2 (pv 2))) (x_mul x_int (x_var 2 (pv 2)))) (x_var 1 (pv 1))) x_int)))
theorem sc_law_base : FnScope n_law_base p_law_base (defScope st_law_base) := ⟨rfl, rfl, rfl, by decide +kernel, rfl, by decide +kernel, by decide +kernel⟩
theorem fn_law_base (T : Txt K mg)  : Fn P w K mg base (PySem.Str.ofString "_law_base") 1 (spP K 1 f_law_base) := by
  obtain ⟨fd, F⟩ := T.F_law_base
  refine mk_P (s := sm_law_base) rfl rfl rfl T.g_law_base F sc_law_base (F.bindsN fun _ _ _ _ _ _ us hl => match us, hl with | [_], _ => rfl) (fun cdv A outer st H E hr => ?_)
  have tk : Takes (cxOf (L2.CX P w) P w K mg base n_law_base (PySem.Str.ofString "_law_base") (defScope st_law_base) (He.ga K (PySem.Str.ofString "_law_base")) cdv A outer st H E) (wishOf E) := takes_of rfl rfl rfl rfl
  have hp : PassesOwn (model P w) (cxOf (L2.CX P w) P w K mg base n_law_base (PySem.Str.ofString "_law_base") (defScope st_law_base) (He.ga K (PySem.Str.ofString "_law_base")) cdv A outer st H E).A (cxOf (L2.CX P w) P w K mg base n_law_base (PySem.Str.ofString "_law_base") (defScope st_law_base) (He.ga K (PySem.Str.ofString "_law_base")) cdv A outer st H E).env (cxOf (L2.CX P w) P w K mg base n_law_base (PySem.Str.ofString "_law_base") (defScope st_law_base) (He.ga K (PySem.Str.ofString "_law_base")) cdv A outer st H E).xe := passes_of rfl
  exact ss_cons (s_set (fun _ h => ps_set (i := 1) sc_law_base.nd rfl (Or.inl rfl) h) (x_lst (a_cons x_int (a_cons x_int (a_cons x_int (a_cons x_int (a_cons x_int (a_cons x_int (a_cons x_int (a_cons x_int (a_cons x_int a_nil)))))))))))
        (ss_cons (s_if (t_cmp k_eq (op_eqD (hu64 hr)) (x_mod (x_var 0 (pv 0)) x_int) x_int (nomark _)) (ss_one (s_ret (x_ix k_ixL ix_list (x_var 1 (pv 1)) (x_mod (x_div (x_var 0 (pv 0)) x_int) x_int) (fun _ _ => rfl)))) ss_nil)
        (ss_one (s_ret (x_mod (x_div (x_var 0 (pv 0)) x_int) x_int))))
theorem sc_law_held : FnScope n_law_held p_law_held (defScope st_law_held) := ⟨rfl, rfl, rfl, by decide +kernel, rfl, by decide +kernel, by decide +kernel⟩
theorem fn_law_held (T : Txt K mg)  : Fn P w K mg base (PySem.Str.ofString "_law_held") 1 (spP K 2 f_law_held) := by
  obtain ⟨fd, F⟩ := T.F_law_held
  refine mk_P (s := sm_law_held) rfl rfl rfl T.g_law_held F sc_law_held (F.bindsN fun _ _ _ _ _ _ us hl => match us, hl with | [_, _], _ => rfl) (fun cdv A outer st H E hr => ?_)
  have tk : Takes (cxOf (L2.CX P w) P w K mg base n_law_held (PySem.Str.ofString "_law_held") (defScope st_law_held) (He.ga K (PySem.Str.ofString "_law_held")) cdv A outer st H E) (wishOf E) := takes_of rfl rfl rfl rfl
  have hp : PassesOwn (model P w) (cxOf (L2.CX P w) P w K mg base n_law_held (PySem.Str.ofString "_law_held") (defScope st_law_held) (He.ga K (PySem.Str.ofString "_law_held")) cdv A outer st H E).A (cxOf (L2.CX P w) P w K mg base n_law_held (PySem.Str.ofString "_law_held") (defScope st_law_held) (He.ga K (PySem.Str.ofString "_law_held")) cdv A outer st H E).env (cxOf (L2.CX P w) P w K mg base n_law_held (PySem.Str.ofString "_law_held") (defScope st_law_held) (He.ga K (PySem.Str.ofString "_law_held")) cdv A outer st H E).xe := passes_of rfl
  exact ss_cons (s_set (fun _ h => ps_set (i := 2) sc_law_held.nd rfl (Or.inl rfl) h) x_non)
        (ss_cons (s_for (tg_name 3) hp rfl (x_var 0 (pv 0)) (pg_name (i := 3) sc_law_held.nd rfl (Or.inl rfl)) (ss_one (s_if (PW.pt (w_and (t_cmp k_le op_le (x_ix k_ixT ix_tup (x_var 3 (pv 3)) x_int (fun _ _ => rfl)) (x_var 1 (pv 1)) (nomark _)) (w_and1 (PW.pt (w_or (t_cmp k_isN op_isN (x_var 2 (pv 2)) x_non (nomark _)) (w_or1 (t_cmp k_ge op_ge (x_ix k_ixT ix_tup (x_var 3 (pv 3)) x_int (fun _ _ => rfl)) (x_ix k_ixT ix_tup (x_var 2 (pv 2)) x_int (fun _ _ => rfl)) (nomark _)))))))) (ss_one (s_set (fun _ h => ps_set (i := 2) sc_law_held.nd rfl (Or.inl rfl) h) (x_var 3 (pv 3)))) ss_nil)))
        (ss_one (s_ret (x_var 2 (pv 2)))))
theorem sc_law_moves : FnScope n_law_moves p_law_moves (defScope st_law_moves) := ⟨rfl, rfl, rfl, by decide +kernel, rfl, by decide +kernel, by decide +kernel⟩
theorem fn_law_moves (T : Txt K mg) (F_law_cell_at : Fn P w K mg base (PySem.Str.ofString "_law_cell_at") 1 (spP K 2 f_law_cell_at)) (F_law_mix : Fn P w K mg base (PySem.Str.ofString "_law_mix") 1 (spP K 2 f_law_mix)) : Fn P w K mg base (PySem.Str.ofString "_law_moves") 2 (spP K 2 f_law_moves) := by
  obtain ⟨fd, F⟩ := T.F_law_moves
  refine mk_P (s := sm_law_moves) rfl rfl rfl T.g_law_moves F sc_law_moves (F.bindsN fun _ _ _ _ _ _ us hl => match us, hl with | [_, _], _ => rfl) (fun cdv A outer st H E hr => ?_)
  have tk : Takes (cxOf (L2.CX P w) P w K mg base n_law_moves (PySem.Str.ofString "_law_moves") (defScope st_law_moves) (He.ga K (PySem.Str.ofString "_law_moves")) cdv A outer st H E) (wishOf E) := takes_of rfl rfl rfl rfl
  have hp : PassesOwn (model P w) (cxOf (L2.CX P w) P w K mg base n_law_moves (PySem.Str.ofString "_law_moves") (defScope st_law_moves) (He.ga K (PySem.Str.ofString "_law_moves")) cdv A outer st H E).A (cxOf (L2.CX P w) P w K mg base n_law_moves (PySem.Str.ofString "_law_moves") (defScope st_law_moves) (He.ga K (PySem.Str.ofString "_law_moves")) cdv A outer st H E).env (cxOf (L2.CX P w) P w K mg base n_law_moves (PySem.Str.ofString "_law_moves") (defScope st_law_moves) (He.ga K (PySem.Str.ofString "_law_moves")) cdv A outer st H E).xe := passes_of rfl
  exact ss_cons (s_set (fun _ h => ps_set (i := 2) sc_law_moves.nd rfl (Or.inl rfl) h) (x_mod (x_callP F_law_cell_at (hr.mono (by decide)) tk rfl (a_cons (x_var 0 (pv 0)) (a_cons x_int a_nil)) rfl (hx := ar_cons (ar_cons ar_nil))) x_int))
        (ss_cons (s_if (t_cmp k_eq (op_eqD (hu64 hr)) (x_mod (x_div (x_callP F_law_cell_at (hr.mono (by decide)) tk rfl (a_cons (x_var 0 (pv 0)) (a_cons x_int a_nil)) rfl (hx := ar_cons (ar_cons ar_nil))) x_int) x_int) x_int (nomark _)) (ss_one (s_set (fun _ h => ps_set (i := 2) sc_law_moves.nd rfl (Or.inl rfl) h) (x_mul (x_var 2 (pv 2)) x_int))) ss_nil)
        (ss_cons (s_set (fun _ h => ps_set (i := 3) sc_law_moves.nd rfl (Or.inl rfl) h) (x_lstS a_nil))
        (ss_cons (s_forR1 hp rfl rfl T.n_range (x_var 2 (pv 2)) (pg_name (i := 4) sc_law_moves.nd rfl (Or.inl rfl)) (ss_cons (s_set (fun _ h => ps_set (i := 5) sc_law_moves.nd rfl (Or.inl rfl) h) (x_callP F_law_mix (hr.mono (by decide)) tk rfl (a_cons (x_callP F_law_cell_at (hr.mono (by decide)) tk rfl (a_cons (x_var 0 (pv 0)) (a_cons x_int a_nil)) rfl (hx := ar_cons (ar_cons ar_nil))) (a_cons (x_var 4 (pv 4)) a_nil)) rfl (hx := ar_cons (ar_cons ar_nil))))
        (ss_cons (s_set (fun _ h => ps_set (i := 6) sc_law_moves.nd rfl (Or.inl rfl) h) (x_ix k_ixL ix_list (x_lst (a_cons (x_mod (x_div (x_var 5 (pv 5)) x_int) x_int) (a_cons (x_pow x_int x_int) (a_cons (x_mod (x_mul (x_callP F_law_mix (hr.mono (by decide)) tk rfl (a_cons (x_var 5 (pv 5)) (a_cons x_int a_nil)) rfl (hx := ar_cons (ar_cons ar_nil))) x_int) (x_add (x_pow x_int x_int) x_int)) a_nil)))) (x_mod (x_div (x_var 5 (pv 5)) x_int) x_int) (fun _ _ => rfl)))
        (ss_one (s_expr (x_app (x_var 3 (pv 3)) (x_tup (a_cons (x_add (x_var 1 (pv 1)) (x_mod (x_var 5 (pv 5)) x_int)) (a_cons (x_mul (x_var 6 (pv 6)) (x_sub x_int (x_mul x_int (x_mod (x_div (x_var 5 (pv 5)) x_int) x_int)))) a_nil)))))))))
        (ss_one (s_ret (x_var 3 (pv 3)))))))
theorem sc_law_rates : FnScope n_law_rates p_law_rates (defScope st_law_rates) := ⟨rfl, rfl, rfl, by decide +kernel, rfl, by decide +kernel, by decide +kernel⟩
theorem fn_law_rates (T : Txt K mg) (F_law_mix : Fn P w K mg base (PySem.Str.ofString "_law_mix") 1 (spP K 2 f_law_mix)) (F_law_cell_at : Fn P w K mg base (PySem.Str.ofString "_law_cell_at") 1 (spP K 2 f_law_cell_at)) : Fn P w K mg base (PySem.Str.ofString "_law_rates") 2 (spP K 2 f_law_rates) := by
  obtain ⟨fd, F⟩ := T.F_law_rates
  refine mk_P (s := sm_law_rates) rfl rfl rfl T.g_law_rates F sc_law_rates (F.bindsN fun _ _ _ _ _ _ us hl => match us, hl with | [_, _], _ => rfl) (fun cdv A outer st H E hr => ?_)
  have tk : Takes (cxOf (L2.CX P w) P w K mg base n_law_rates (PySem.Str.ofString "_law_rates") (defScope st_law_rates) (He.ga K (PySem.Str.ofString "_law_rates")) cdv A outer st H E) (wishOf E) := takes_of rfl rfl rfl rfl
  have hp : PassesOwn (model P w) (cxOf (L2.CX P w) P w K mg base n_law_rates (PySem.Str.ofString "_law_rates") (defScope st_law_rates) (He.ga K (PySem.Str.ofString "_law_rates")) cdv A outer st H E).A (cxOf (L2.CX P w) P w K mg base n_law_rates (PySem.Str.ofString "_law_rates") (defScope st_law_rates) (He.ga K (PySem.Str.ofString "_law_rates")) cdv A outer st H E).env (cxOf (L2.CX P w) P w K mg base n_law_rates (PySem.Str.ofString "_law_rates") (defScope st_law_rates) (He.ga K (PySem.Str.ofString "_law_rates")) cdv A outer st H E).xe := passes_of rfl
  exact ss_cons (s_set (fun _ h => ps_set (i := 2) sc_law_rates.nd rfl (Or.inl rfl) h) (x_lstS (a_cons (x_tup (a_cons x_int (a_cons (x_ix k_ixL ix_list (x_lst (a_cons x_int (a_cons x_int (a_cons (x_pow x_int x_int) (a_cons x_int a_nil))))) (x_mod (x_callP F_law_cell_at (hr.mono (by decide)) tk rfl (a_cons (x_var 0 (pv 0)) (a_cons x_int a_nil)) rfl (hx := ar_cons (ar_cons ar_nil))) x_int) (fun _ _ => rfl)) a_nil))) a_nil)))
        (ss_cons (s_forR1 hp rfl rfl T.n_range (x_mod (x_div (x_callP F_law_cell_at (hr.mono (by decide)) tk rfl (a_cons (x_var 0 (pv 0)) (a_cons x_int a_nil)) rfl (hx := ar_cons (ar_cons ar_nil))) x_int) x_int) (pg_name (i := 3) sc_law_rates.nd rfl (Or.inl rfl)) (ss_cons (s_set (fun _ h => ps_set (i := 4) sc_law_rates.nd rfl (Or.inl rfl) h) (x_callP F_law_mix (hr.mono (by decide)) tk rfl (a_cons (x_callP F_law_cell_at (hr.mono (by decide)) tk rfl (a_cons (x_var 0 (pv 0)) (a_cons x_int a_nil)) rfl (hx := ar_cons (ar_cons ar_nil))) (a_cons (x_add x_int (x_var 3 (pv 3))) a_nil)) rfl (hx := ar_cons (ar_cons ar_nil))))
        (ss_one (s_expr (x_app (x_var 2 (pv 2)) (x_tup (a_cons (x_blt k_max2 (call_max2 rfl) (by rfl) T.n_max (by decide +kernel) (a_cons x_int (a_cons (x_add (x_sub (x_var 1 (pv 1)) x_int) (x_mod (x_var 4 (pv 4)) x_int)) a_nil))) (a_cons (x_mod (x_div (x_var 4 (pv 4)) x_int) (x_add (x_pow x_int x_int) x_int)) a_nil))))))))
        (ss_one (s_ret (x_var 2 (pv 2)))))
theorem sc_law_balance : FnScope n_law_balance p_law_balance (defScope st_law_balance) := ⟨rfl, rfl, rfl, by decide +kernel, rfl, by decide +kernel, by decide +kernel⟩
theorem fn_law_balance (T : Txt K mg)  : Fn P w K mg base (PySem.Str.ofString "_law_balance") 1 (spP K 2 f_law_balance) := by
  obtain ⟨fd, F⟩ := T.F_law_balance
  refine mk_P (s := sm_law_balance) rfl rfl rfl T.g_law_balance F sc_law_balance (F.bindsN fun _ _ _ _ _ _ us hl => match us, hl with | [_, _], _ => rfl) (fun cdv A outer st H E hr => ?_)
  have tk : Takes (cxOf (L2.CX P w) P w K mg base n_law_balance (PySem.Str.ofString "_law_balance") (defScope st_law_balance) (He.ga K (PySem.Str.ofString "_law_balance")) cdv A outer st H E) (wishOf E) := takes_of rfl rfl rfl rfl
  have hp : PassesOwn (model P w) (cxOf (L2.CX P w) P w K mg base n_law_balance (PySem.Str.ofString "_law_balance") (defScope st_law_balance) (He.ga K (PySem.Str.ofString "_law_balance")) cdv A outer st H E).A (cxOf (L2.CX P w) P w K mg base n_law_balance (PySem.Str.ofString "_law_balance") (defScope st_law_balance) (He.ga K (PySem.Str.ofString "_law_balance")) cdv A outer st H E).env (cxOf (L2.CX P w) P w K mg base n_law_balance (PySem.Str.ofString "_law_balance") (defScope st_law_balance) (He.ga K (PySem.Str.ofString "_law_balance")) cdv A outer st H E).xe := passes_of rfl
  exact ss_cons (s_set (fun _ h => ps_set (i := 2) sc_law_balance.nd rfl (Or.inl rfl) h) x_int)
        (ss_cons (s_for (tg_name 3) hp rfl (x_var 0 (pv 0)) (pg_name (i := 3) sc_law_balance.nd rfl (Or.inl rfl)) (ss_one (s_if (t_cmp k_le op_le (x_ix k_ixT ix_tup (x_var 3 (pv 3)) x_int (fun _ _ => rfl)) (x_var 1 (pv 1)) (nomark _)) (ss_one (s_set (fun _ h => ps_set (i := 2) sc_law_balance.nd rfl (Or.inl rfl) h) (x_add (x_var 2 (pv 2)) (x_ix k_ixT ix_tup (x_var 3 (pv 3)) x_int (fun _ _ => rfl))))) ss_nil)))
        (ss_one (s_ret (x_var 2 (pv 2)))))
theorem sc_law_grown : FnScope n_law_grown p_law_grown (defScope st_law_grown) := ⟨rfl, rfl, rfl, by decide +kernel, rfl, by decide +kernel, by decide +kernel⟩
theorem fn_law_grown (T : Txt K mg) (F_law_balance : Fn P w K mg base (PySem.Str.ofString "_law_balance") 1 (spP K 2 f_law_balance)) (F_law_held : Fn P w K mg base (PySem.Str.ofString "_law_held") 1 (spP K 2 f_law_held)) : Fn P w K mg base (PySem.Str.ofString "_law_grown") 2 (spP K 4 f_law_grown) := by
  obtain ⟨fd, F⟩ := T.F_law_grown
  refine mk_P (s := sm_law_grown) rfl rfl rfl T.g_law_grown F sc_law_grown (F.bindsN fun _ _ _ _ _ _ us hl => match us, hl with | [_, _, _, _], _ => rfl) (fun cdv A outer st H E hr => ?_)
  have tk : Takes (cxOf (L2.CX P w) P w K mg base n_law_grown (PySem.Str.ofString "_law_grown") (defScope st_law_grown) (He.ga K (PySem.Str.ofString "_law_grown")) cdv A outer st H E) (wishOf E) := takes_of rfl rfl rfl rfl
  have hp : PassesOwn (model P w) (cxOf (L2.CX P w) P w K mg base n_law_grown (PySem.Str.ofString "_law_grown") (defScope st_law_grown) (He.ga K (PySem.Str.ofString "_law_grown")) cdv A outer st H E).A (cxOf (L2.CX P w) P w K mg base n_law_grown (PySem.Str.ofString "_law_grown") (defScope st_law_grown) (He.ga K (PySem.Str.ofString "_law_grown")) cdv A outer st H E).env (cxOf (L2.CX P w) P w K mg base n_law_grown (PySem.Str.ofString "_law_grown") (defScope st_law_grown) (He.ga K (PySem.Str.ofString "_law_grown")) cdv A outer st H E).xe := passes_of rfl
  exact ss_cons (s_set (fun _ h => ps_set (i := 4) sc_law_grown.nd rfl (Or.inl rfl) h) x_int)
        (ss_cons (s_forR2 hp rfl rfl T.n_range (x_var 2 (pv 2)) (x_add (x_var 3 (pv 3)) x_int) (pg_name (i := 5) sc_law_grown.nd rfl (Or.inl rfl)) (ss_one (s_set (fun _ h => ps_set (i := 4) sc_law_grown.nd rfl (Or.inl rfl) h) (x_add (x_var 4 (pv 4)) (x_mul (x_callP F_law_balance (hr.mono (by decide)) tk rfl (a_cons (x_var 0 (pv 0)) (a_cons (x_var 5 (pv 5)) a_nil)) rfl (hx := ar_cons (ar_cons ar_nil))) (x_ix k_ixT ix_tup (x_callP F_law_held (hr.mono (by decide)) tk rfl (a_cons (x_var 1 (pv 1)) (a_cons (x_var 5 (pv 5)) a_nil)) rfl (hx := ar_cons (ar_cons ar_nil))) x_int (fun _ _ => rfl)))))))
        (ss_one (s_ret (x_div (x_var 4 (pv 4)) x_int))))
theorem sc_law : FnScope n_law p_law (defScope st_law) := ⟨rfl, rfl, rfl, by decide +kernel, rfl, by decide +kernel, by decide +kernel⟩
theorem fn_law (T : Txt K mg) (F_law_base : Fn P w K mg base (PySem.Str.ofString "_law_base") 1 (spP K 1 f_law_base)) (F_law_moves : Fn P w K mg base (PySem.Str.ofString "_law_moves") 2 (spP K 2 f_law_moves)) (F_law_rates : Fn P w K mg base (PySem.Str.ofString "_law_rates") 2 (spP K 2 f_law_rates)) (F_law_cell_at : Fn P w K mg base (PySem.Str.ofString "_law_cell_at") 1 (spP K 2 f_law_cell_at)) (F_balance : Fn P w K mg base (PySem.Str.ofString "balance") 1 (spP K 2 f_balance)) (F_grown : Fn P w K mg base (PySem.Str.ofString "grown") 3 (spP K 3 f_grown)) (F_law_balance : Fn P w K mg base (PySem.Str.ofString "_law_balance") 1 (spP K 2 f_law_balance)) (F_law_grown : Fn P w K mg base (PySem.Str.ofString "_law_grown") 2 (spP K 4 f_law_grown)) (F_law_whole : Fn P w K mg base (PySem.Str.ofString "_law_whole") 1 (spP K 1 f_law_whole)) (F_law_mix : Fn P w K mg base (PySem.Str.ofString "_law_mix") 1 (spP K 2 f_law_mix)) {fd : FuncData} (F : FunD K (PySem.Str.ofString "law") (PySem.Str.ofString "law") (defArgs st_law) (defBody st_law) (defScope st_law) [] [] (He.ga K (PySem.Str.ofString "law")) fd) : FnOk P w K mg base (L2.CX P w) 4 (He.ga K (PySem.Str.ofString "law")) fd p_law (spP K 1 f_law) := by
  refine mk_okP (s := sm_law) rfl rfl rfl F sc_law (fun cdv A outer st H E hr => ?_)
  have tk : Takes (cxOf (L2.CX P w) P w K mg base n_law (PySem.Str.ofString "law") (defScope st_law) (He.ga K (PySem.Str.ofString "law")) cdv A outer st H E) (wishOf E) := takes_of rfl rfl rfl rfl
  have hp : PassesOwn (model P w) (cxOf (L2.CX P w) P w K mg base n_law (PySem.Str.ofString "law") (defScope st_law) (He.ga K (PySem.Str.ofString "law")) cdv A outer st H E).A (cxOf (L2.CX P w) P w K mg base n_law (PySem.Str.ofString "law") (defScope st_law) (He.ga K (PySem.Str.ofString "law")) cdv A outer st H E).env (cxOf (L2.CX P w) P w K mg base n_law (PySem.Str.ofString "law") (defScope st_law) (He.ga K (PySem.Str.ofString "law")) cdv A outer st H E).xe := passes_of rfl
  exact ss_cons (s_set (fun _ h => ps_set (i := 1) sc_law.nd rfl (Or.inl rfl) h) (x_callP F_law_base (hr.mono (by decide)) tk rfl (a_cons (x_callP F_law_cell_at (hr.mono (by decide)) tk rfl (a_cons (x_var 0 (pv 0)) (a_cons x_int a_nil)) rfl (hx := ar_cons (ar_cons ar_nil))) a_nil) rfl (hx := ar_cons ar_nil)))
        (ss_cons (s_set (fun _ h => ps_set (i := 2) sc_law.nd rfl (Or.inl rfl) h) (x_callP F_law_moves (hr.mono (by decide)) tk rfl (a_cons (x_var 0 (pv 0)) (a_cons (x_var 1 (pv 1)) a_nil)) rfl (hx := ar_cons (ar_cons ar_nil))))
        (ss_cons (s_set (fun _ h => ps_set (i := 3) sc_law.nd rfl (Or.inl rfl) h) (x_callP F_law_rates (hr.mono (by decide)) tk rfl (a_cons (x_var 0 (pv 0)) (a_cons (x_var 1 (pv 1)) a_nil)) rfl (hx := ar_cons (ar_cons ar_nil))))
        (ss_cons (s_set (fun _ h => ps_set (i := 4) sc_law.nd rfl (Or.inl rfl) h) (x_blt k_min2 (call_min2 rfl) (by rfl) T.n_min (by decide +kernel) (a_cons x_int (a_cons (x_blt k_max2 (call_max2 rfl) (by rfl) T.n_max (by decide +kernel) (a_cons x_int (a_cons (x_add (x_sub (x_var 1 (pv 1)) x_int) (x_mod (x_callP F_law_cell_at (hr.mono (by decide)) tk rfl (a_cons (x_var 0 (pv 0)) (a_cons x_int a_nil)) rfl (hx := ar_cons (ar_cons ar_nil))) x_int)) a_nil))) a_nil))))
        (ss_cons (s_set (fun _ h => ps_set (i := 5) sc_law.nd rfl (Or.inl rfl) h) (x_tupS (a_cons (x_ty k_listS call_list_of (by rfl) T.n_list (by decide +kernel) (a_cons (x_var 2 (pv 2)) a_nil)) (a_cons (x_ty k_listS call_list_of (by rfl) T.n_list (by decide +kernel) (a_cons (x_var 3 (pv 3)) a_nil)) a_nil))))
        (ss_cons (s_set (fun _ h => ps_set (i := 6) sc_law.nd rfl (Or.inl rfl) h) (x_tup (a_cons (x_callS F_balance (hr.mono (by decide)) tk rfl (a_cons (x_ix k_ixT ix_tup (x_var 5 (pv 5)) x_int (fun _ _ => rfl)) (a_cons (x_var 4 (pv 4)) a_nil)) rfl (hx := ar_cons (ar_cons ar_nil))) (a_cons (x_callS F_grown (hr.mono (by decide)) tk rfl (a_cons (x_ix k_ixT ix_tup (x_var 5 (pv 5)) x_int (fun _ _ => rfl)) (a_cons (x_ix k_ixT ix_tup (x_var 5 (pv 5)) x_int (fun _ _ => rfl)) (a_cons (x_var 4 (pv 4)) a_nil))) rfl (hx := ar_cons (ar_cons (ar_cons ar_nil)))) a_nil))))
        (ss_cons (s_if (PW.pt (w_or (t_cmp k_ne (op_neD (hu64 hr)) (x_var 5 (pv 5)) (x_tup (a_cons (x_var 2 (pv 2)) (a_cons (x_var 3 (pv 3)) a_nil))) (nomark _)) (w_or (t_not (t_val (x_callP F_law_whole (hr.mono (by decide)) tk rfl (a_cons (x_ix k_ixT ix_tup (x_var 6 (pv 6)) x_int (fun _ _ => rfl)) a_nil) rfl (hx := ar_cons ar_nil)))) (w_or1 (t_not (t_val (x_callP F_law_whole (hr.mono (by decide)) tk rfl (a_cons (x_ix k_ixT ix_tup (x_var 6 (pv 6)) x_int (fun _ _ => rfl)) a_nil) rfl (hx := ar_cons ar_nil)))))))) (ss_one (s_ret x_bl)) ss_nil)
        (ss_cons (s_set (fun _ h => ps_set (i := 7) sc_law.nd rfl (Or.inl rfl) h) (x_tup (a_cons (x_callP F_law_balance (hr.mono (by decide)) tk rfl (a_cons (x_var 2 (pv 2)) (a_cons (x_var 4 (pv 4)) a_nil)) rfl (hx := ar_cons (ar_cons ar_nil))) (a_cons (x_callP F_law_grown (hr.mono (by decide)) tk rfl (a_cons (x_var 2 (pv 2)) (a_cons (x_var 3 (pv 3)) (a_cons (x_var 1 (pv 1)) (a_cons (x_var 4 (pv 4)) a_nil)))) rfl (hx := ar_cons (ar_cons (ar_cons (ar_cons ar_nil))))) a_nil))))
        (ss_cons (s_if (t_cmp k_ne (op_neD (hu64 hr)) (x_var 6 (pv 6)) (x_var 7 (pv 7)) (nomark _)) (ss_one (s_ret x_bl)) ss_nil)
        (ss_cons (s_set (fun _ h => ps_set (i := 8) sc_law.nd rfl (Or.inl rfl) h) (x_bin k_cat op_catG (x_var 2 (pv 2)) (x_lst (a_cons (x_tup (a_cons (x_var 1 (pv 1)) (a_cons (x_mul x_int (x_pow x_int x_int)) a_nil))) a_nil))))
        (ss_cons (s_expr (x_app (x_ix k_ixT ix_tup (x_var 5 (pv 5)) x_int (fun _ _ => rfl)) (x_ix k_ixL ix_list (x_var 8 (pv 8)) (x_neg x_int) (fun _ _ => rfl))))
        (ss_cons (s_if (t_cmp k_ne (op_neD (hu64 hr)) (x_callS F_grown (hr.mono (by decide)) tk rfl (a_cons (x_ix k_ixT ix_tup (x_var 5 (pv 5)) x_int (fun _ _ => rfl)) (a_cons (x_ix k_ixT ix_tup (x_var 5 (pv 5)) x_int (fun _ _ => rfl)) (a_cons (x_var 4 (pv 4)) a_nil))) rfl (hx := ar_cons (ar_cons (ar_cons ar_nil)))) (x_callP F_law_grown (hr.mono (by decide)) tk rfl (a_cons (x_var 8 (pv 8)) (a_cons (x_var 3 (pv 3)) (a_cons (x_var 1 (pv 1)) (a_cons (x_var 4 (pv 4)) a_nil)))) rfl (hx := ar_cons (ar_cons (ar_cons (ar_cons ar_nil))))) (nomark _)) (ss_one (s_ret x_bl)) ss_nil)
        (ss_cons (s_expr (x_popL (x_ix k_ixT ix_tup (x_var 5 (pv 5)) x_int (fun _ _ => rfl))))
        (ss_cons (s_if (t_cmp k_ne (op_neD (hu64 hr)) (x_callS F_grown (hr.mono (by decide)) tk rfl (a_cons (x_ix k_ixT ix_tup (x_var 5 (pv 5)) x_int (fun _ _ => rfl)) (a_cons (x_ix k_ixT ix_tup (x_var 5 (pv 5)) x_int (fun _ _ => rfl)) (a_cons (x_var 4 (pv 4)) a_nil))) rfl (hx := ar_cons (ar_cons (ar_cons ar_nil)))) (x_ix k_ixT ix_tup (x_var 7 (pv 7)) x_int (fun _ _ => rfl)) (nomark _)) (ss_one (s_ret x_bl)) ss_nil)
        (ss_cons (s_set (fun _ h => ps_set (i := 9) sc_law.nd rfl (Or.inl rfl) h) (x_add x_int (x_mod (x_mul (x_callP F_law_mix (hr.mono (by decide)) tk rfl (a_cons (x_callP F_law_cell_at (hr.mono (by decide)) tk rfl (a_cons (x_var 0 (pv 0)) (a_cons x_int a_nil)) rfl (hx := ar_cons (ar_cons ar_nil))) (a_cons x_int a_nil)) rfl (hx := ar_cons (ar_cons ar_nil))) x_int) (x_pow x_int x_int))))
        (ss_cons (s_set (fun _ h => ps_set (i := 10) sc_law.nd rfl (Or.inl rfl) h) (x_mod (x_callP F_law_cell_at (hr.mono (by decide)) tk rfl (a_cons (x_var 0 (pv 0)) (a_cons x_int a_nil)) rfl (hx := ar_cons (ar_cons ar_nil))) (x_add (x_pow x_int x_int) x_int)))
        (ss_cons (s_set (fun _ h => ps_set (i := 11) sc_law.nd rfl (Or.inl rfl) h) (x_add (x_var 1 (pv 1)) (x_mod (x_callP F_law_mix (hr.mono (by decide)) tk rfl (a_cons (x_callP F_law_cell_at (hr.mono (by decide)) tk rfl (a_cons (x_var 0 (pv 0)) (a_cons x_int a_nil)) rfl (hx := ar_cons (ar_cons ar_nil))) (a_cons x_int a_nil)) rfl (hx := ar_cons (ar_cons ar_nil))) (x_sub x_int (x_var 1 (pv 1))))))
        (ss_one (s_ret (x_cmp k_eq (op_eqD (hu64 hr)) (x_callP F_grown (hr.mono (by decide)) tk rfl (a_cons (x_lst (a_cons (x_tup (a_cons (x_var 1 (pv 1)) (a_cons (x_var 9 (pv 9)) a_nil))) a_nil)) (a_cons (x_lst (a_cons (x_tup (a_cons x_int (a_cons (x_var 10 (pv 10)) a_nil))) a_nil)) (a_cons (x_var 11 (pv 11)) a_nil))) rfl (hx := ar_cons (ar_cons (ar_cons ar_nil)))) (x_div (x_mul (x_mul (x_var 9 (pv 9)) (x_var 10 (pv 10))) (x_add (x_sub (x_var 11 (pv 11)) (x_var 1 (pv 1))) x_int)) x_int) (nomark _))))))))))))))))))))
/-- all of them -/
theorem fnok_law {fd : FuncData} (T : Txt K mg) (F : FunD K (PySem.Str.ofString "law") (PySem.Str.ofString "law") (defArgs st_law) (defBody st_law) (defScope st_law) [] [] (He.ga K (PySem.Str.ofString "law")) fd) : FnOk P w K mg base (L2.CX P w) 4 (He.ga K (PySem.Str.ofString "law")) fd p_law (spP K 1 f_law) := by
  have F_pair_held : Fn P w K mg base (PySem.Str.ofString "pair_held") 1 (spP K 2 f_pair_held) := fn_pair_held T 
  have F_held : Fn P w K mg base (PySem.Str.ofString "held") 2 (spP K 2 f_held) := fn_held T F_pair_held
  have F_unchanged_through : Fn P w K mg base (PySem.Str.ofString "unchanged_through") 1 (spP K 3 f_unchanged_through) := fn_unchanged_through T 
  have F_balance : Fn P w K mg base (PySem.Str.ofString "balance") 1 (spP K 2 f_balance) := fn_balance T 
  have F_grown : Fn P w K mg base (PySem.Str.ofString "grown") 3 (spP K 3 f_grown) := fn_grown T F_unchanged_through F_balance F_held
  have F_law_cell_at : Fn P w K mg base (PySem.Str.ofString "_law_cell_at") 1 (spP K 2 f_law_cell_at) := fn_law_cell_at T 
  have F_law_whole : Fn P w K mg base (PySem.Str.ofString "_law_whole") 1 (spP K 1 f_law_whole) := fn_law_whole T 
  have F_law_mix : Fn P w K mg base (PySem.Str.ofString "_law_mix") 1 (spP K 2 f_law_mix) := fn_law_mix T 
  have F_law_base : Fn P w K mg base (PySem.Str.ofString "_law_base") 1 (spP K 1 f_law_base) := fn_law_base T 
  have F_law_held : Fn P w K mg base (PySem.Str.ofString "_law_held") 1 (spP K 2 f_law_held) := fn_law_held T 
  have F_law_moves : Fn P w K mg base (PySem.Str.ofString "_law_moves") 2 (spP K 2 f_law_moves) := fn_law_moves T F_law_cell_at F_law_mix
  have F_law_rates : Fn P w K mg base (PySem.Str.ofString "_law_rates") 2 (spP K 2 f_law_rates) := fn_law_rates T F_law_mix F_law_cell_at
  have F_law_balance : Fn P w K mg base (PySem.Str.ofString "_law_balance") 1 (spP K 2 f_law_balance) := fn_law_balance T 
  have F_law_grown : Fn P w K mg base (PySem.Str.ofString "_law_grown") 2 (spP K 4 f_law_grown) := fn_law_grown T F_law_balance F_law_held
  exact fn_law T F_law_base F_law_moves F_law_rates F_law_cell_at F_balance F_grown F_law_balance F_law_grown F_law_whole F_law_mix F
end
end LW

set_option Elab.async false
set_option linter.all false
set_option maxRecDepth 100000
set_option maxHeartbeats 4000000
namespace LW
open PySem PySem.Spec PyProof.Rows L2 RK
def d_pair_held : He.DefD := ⟨((PySem.Str.ofString "pair_held"), none), (PySem.Str.ofString "pair_held"), (PySem.Str.ofString "pair_held"), defArgs st_pair_held, defBody st_pair_held, defScope st_pair_held, [], []⟩
def d_held : He.DefD := ⟨((PySem.Str.ofString "held"), none), (PySem.Str.ofString "held"), (PySem.Str.ofString "held"), defArgs st_held, defBody st_held, defScope st_held, [], []⟩
def d_unchanged_through : He.DefD := ⟨((PySem.Str.ofString "unchanged_through"), none), (PySem.Str.ofString "unchanged_through"), (PySem.Str.ofString "unchanged_through"), defArgs st_unchanged_through, defBody st_unchanged_through, defScope st_unchanged_through, [], []⟩
def d_balance : He.DefD := ⟨((PySem.Str.ofString "balance"), none), (PySem.Str.ofString "balance"), (PySem.Str.ofString "balance"), defArgs st_balance, defBody st_balance, defScope st_balance, [], []⟩
def d_grown : He.DefD := ⟨((PySem.Str.ofString "grown"), none), (PySem.Str.ofString "grown"), (PySem.Str.ofString "grown"), defArgs st_grown, defBody st_grown, defScope st_grown, [], []⟩
def d_law_cell_at : He.DefD := ⟨((PySem.Str.ofString "_law_cell_at"), none), (PySem.Str.ofString "_law_cell_at"), (PySem.Str.ofString "_law_cell_at"), defArgs st_law_cell_at, defBody st_law_cell_at, defScope st_law_cell_at, [], []⟩
def d_law_whole : He.DefD := ⟨((PySem.Str.ofString "_law_whole"), none), (PySem.Str.ofString "_law_whole"), (PySem.Str.ofString "_law_whole"), defArgs st_law_whole, defBody st_law_whole, defScope st_law_whole, [], []⟩
def d_law_mix : He.DefD := ⟨((PySem.Str.ofString "_law_mix"), none), (PySem.Str.ofString "_law_mix"), (PySem.Str.ofString "_law_mix"), defArgs st_law_mix, defBody st_law_mix, defScope st_law_mix, [], []⟩
def d_law_base : He.DefD := ⟨((PySem.Str.ofString "_law_base"), none), (PySem.Str.ofString "_law_base"), (PySem.Str.ofString "_law_base"), defArgs st_law_base, defBody st_law_base, defScope st_law_base, [], []⟩
def d_law_held : He.DefD := ⟨((PySem.Str.ofString "_law_held"), none), (PySem.Str.ofString "_law_held"), (PySem.Str.ofString "_law_held"), defArgs st_law_held, defBody st_law_held, defScope st_law_held, [], []⟩
def d_law_moves : He.DefD := ⟨((PySem.Str.ofString "_law_moves"), none), (PySem.Str.ofString "_law_moves"), (PySem.Str.ofString "_law_moves"), defArgs st_law_moves, defBody st_law_moves, defScope st_law_moves, [], []⟩
def d_law_rates : He.DefD := ⟨((PySem.Str.ofString "_law_rates"), none), (PySem.Str.ofString "_law_rates"), (PySem.Str.ofString "_law_rates"), defArgs st_law_rates, defBody st_law_rates, defScope st_law_rates, [], []⟩
def d_law_balance : He.DefD := ⟨((PySem.Str.ofString "_law_balance"), none), (PySem.Str.ofString "_law_balance"), (PySem.Str.ofString "_law_balance"), defArgs st_law_balance, defBody st_law_balance, defScope st_law_balance, [], []⟩
def d_law_grown : He.DefD := ⟨((PySem.Str.ofString "_law_grown"), none), (PySem.Str.ofString "_law_grown"), (PySem.Str.ofString "_law_grown"), defArgs st_law_grown, defBody st_law_grown, defScope st_law_grown, [], []⟩
def d_law : He.DefD := ⟨((PySem.Str.ofString "law"), none), (PySem.Str.ofString "law"), (PySem.Str.ofString "law"), defArgs st_law, defBody st_law, defScope st_law, [], []⟩
def fn : List He.DefD := [d_pair_held, d_held, d_unchanged_through, d_balance, d_grown, d_law_cell_at, d_law_whole, d_law_mix, d_law_base, d_law_held, d_law_moves, d_law_rates, d_law_balance, d_law_grown, d_law]
def fa : List He.Fa := [.glo (PySem.Str.ofString "pair_held"), .glo (PySem.Str.ofString "held"), .glo (PySem.Str.ofString "unchanged_through"), .glo (PySem.Str.ofString "balance"), .glo (PySem.Str.ofString "grown"), .glo (PySem.Str.ofString "_law_cell_at"), .glo (PySem.Str.ofString "_law_whole"), .glo (PySem.Str.ofString "_law_mix"), .glo (PySem.Str.ofString "_law_base"), .glo (PySem.Str.ofString "_law_held"), .glo (PySem.Str.ofString "_law_moves"), .glo (PySem.Str.ofString "_law_rates"), .glo (PySem.Str.ofString "_law_balance"), .glo (PySem.Str.ofString "_law_grown"), .glo (PySem.Str.ofString "law"), .free (PySem.Str.ofString "bool"), .free (PySem.Str.ofString "int"), .free (PySem.Str.ofString "isinstance"), .free (PySem.Str.ofString "len"), .free (PySem.Str.ofString "list"), .free (PySem.Str.ofString "max"), .free (PySem.Str.ofString "min"), .free (PySem.Str.ofString "range"), .free (PySem.Str.ofString "sum"), .int (PySem.Str.ofString "PARTS") 3650000]
def e_k_bool (K : PySem.W.Frag) : Bool := ["NoneType", "bool", "int", "str", "list", "tuple"].all fun t => decide (PySem.W.kitOne K (.type t) (.type "bool") = some (isKind t "bool"))
def e_k_int (K : PySem.W.Frag) : Bool := ["NoneType", "bool", "int", "str", "list", "tuple"].all fun t => decide (PySem.W.kitOne K (.type t) (.type "int") = some (isKind t "int"))
def exB (K : PySem.W.Frag) : Bool := e_k_bool K && (e_k_int K)
theorem txt_of {K : PySem.W.Frag} {h : Heap} {mg : Str → Option Value} (X : K.In h) (G : h.Ns mainGlobals mg) (c : He.SaysD fa fn K) (e : exB K = true) : Txt K mg := by
  unfold exB at e
  obtain ⟨q_k_bool, e⟩ := He.ba e
  have q_k_int := e
  exact {
    F_pair_held := c.def_ 0 (d := d_pair_held) rfl,
    g_pair_held := He.glo_ok X G (c.fact 0 (f := .glo (PySem.Str.ofString "pair_held")) rfl),
    F_held := c.def_ 1 (d := d_held) rfl,
    g_held := He.glo_ok X G (c.fact 1 (f := .glo (PySem.Str.ofString "held")) rfl),
    F_unchanged_through := c.def_ 2 (d := d_unchanged_through) rfl,
    g_unchanged_through := He.glo_ok X G (c.fact 2 (f := .glo (PySem.Str.ofString "unchanged_through")) rfl),
    F_balance := c.def_ 3 (d := d_balance) rfl,
    g_balance := He.glo_ok X G (c.fact 3 (f := .glo (PySem.Str.ofString "balance")) rfl),
    F_grown := c.def_ 4 (d := d_grown) rfl,
    g_grown := He.glo_ok X G (c.fact 4 (f := .glo (PySem.Str.ofString "grown")) rfl),
    F_law_cell_at := c.def_ 5 (d := d_law_cell_at) rfl,
    g_law_cell_at := He.glo_ok X G (c.fact 5 (f := .glo (PySem.Str.ofString "_law_cell_at")) rfl),
    F_law_whole := c.def_ 6 (d := d_law_whole) rfl,
    g_law_whole := He.glo_ok X G (c.fact 6 (f := .glo (PySem.Str.ofString "_law_whole")) rfl),
    F_law_mix := c.def_ 7 (d := d_law_mix) rfl,
    g_law_mix := He.glo_ok X G (c.fact 7 (f := .glo (PySem.Str.ofString "_law_mix")) rfl),
    F_law_base := c.def_ 8 (d := d_law_base) rfl,
    g_law_base := He.glo_ok X G (c.fact 8 (f := .glo (PySem.Str.ofString "_law_base")) rfl),
    F_law_held := c.def_ 9 (d := d_law_held) rfl,
    g_law_held := He.glo_ok X G (c.fact 9 (f := .glo (PySem.Str.ofString "_law_held")) rfl),
    F_law_moves := c.def_ 10 (d := d_law_moves) rfl,
    g_law_moves := He.glo_ok X G (c.fact 10 (f := .glo (PySem.Str.ofString "_law_moves")) rfl),
    F_law_rates := c.def_ 11 (d := d_law_rates) rfl,
    g_law_rates := He.glo_ok X G (c.fact 11 (f := .glo (PySem.Str.ofString "_law_rates")) rfl),
    F_law_balance := c.def_ 12 (d := d_law_balance) rfl,
    g_law_balance := He.glo_ok X G (c.fact 12 (f := .glo (PySem.Str.ofString "_law_balance")) rfl),
    F_law_grown := c.def_ 13 (d := d_law_grown) rfl,
    g_law_grown := He.glo_ok X G (c.fact 13 (f := .glo (PySem.Str.ofString "_law_grown")) rfl),
    F_law := c.def_ 14 (d := d_law) rfl,
    g_law := He.glo_ok X G (c.fact 14 (f := .glo (PySem.Str.ofString "law")) rfl),
    n_bool := He.free_ok X G (c.fact 15 (f := .free (PySem.Str.ofString "bool")) rfl),
    n_int := He.free_ok X G (c.fact 16 (f := .free (PySem.Str.ofString "int")) rfl),
    n_isinstance := He.free_ok X G (c.fact 17 (f := .free (PySem.Str.ofString "isinstance")) rfl),
    n_len := He.free_ok X G (c.fact 18 (f := .free (PySem.Str.ofString "len")) rfl),
    n_list := He.free_ok X G (c.fact 19 (f := .free (PySem.Str.ofString "list")) rfl),
    n_max := He.free_ok X G (c.fact 20 (f := .free (PySem.Str.ofString "max")) rfl),
    n_min := He.free_ok X G (c.fact 21 (f := .free (PySem.Str.ofString "min")) rfl),
    n_range := He.free_ok X G (c.fact 22 (f := .free (PySem.Str.ofString "range")) rfl),
    n_sum := He.free_ok X G (c.fact 23 (f := .free (PySem.Str.ofString "sum")) rfl),
    k_bool := fun t ht => of_decide_eq_true (List.all_eq_true.mp q_k_bool t ht),
    k_int := fun t ht => of_decide_eq_true (List.all_eq_true.mp q_k_int t ht),
    c_PARTS := He.int_ok X G (c.fact 24 (f := .int (PySem.Str.ofString "PARTS") 3650000) rfl) }
def loose0 : List PySem.Str := [(PySem.Str.ofString "pair_held"), (PySem.Str.ofString "held"), (PySem.Str.ofString "unchanged_through"), (PySem.Str.ofString "PARTS"), (PySem.Str.ofString "balance"), (PySem.Str.ofString "grown"), (PySem.Str.ofString "_law_cell_at"), (PySem.Str.ofString "_law_whole"), (PySem.Str.ofString "_law_mix"), (PySem.Str.ofString "_law_base"), (PySem.Str.ofString "_law_held"), (PySem.Str.ofString "_law_moves"), (PySem.Str.ofString "_law_rates"), (PySem.Str.ofString "_law_balance"), (PySem.Str.ofString "_law_grown")]
def loose : List PySem.Str := loose0
abbrev R : PySem.W.OpenRow := PySem.W.OpenLaw.row PySem.Challenge.rw_rentroll_k08_balance_and_growth
abbrev hk : PySem.W.Hook := He.hookX 6 fa fn [] [] exB
def ob (s : PySem.W.SharedT) : He.AlX := He.obsX 6 fa fn [] [] exB (HandSHeadRun.getT s)
theorem ob_eq (s : PySem.W.SharedT) : ob s = hk.obs s.abs := He.obsX_eq (HandSHeadRun.getT_eq s)
set_option maxHeartbeats 0 in
theorem run (w : World) : HandSHeadRun.RunEq R (PySem.W.view R.prog [18]) hk ob 6000 loose w := by
  intro os
  kernel_rfl
end LW

set_option Elab.async false
set_option linter.all false
set_option maxRecDepth 100000
set_option maxHeartbeats 4000000
/-! RSim: the machine's steps as rules of simp. -/
namespace RK
open PySem PySem.Spec PyProof.Rows L2
/-- keeps simp from taking a rule for one that holds by reduction -/
theorem nr {α : Sort u} {a b : α} (h : a = b) : a = b := h
@[simp] theorem runP_ap (n s ds) : runP n s ds = finP (s (initE n (ds.map .d)) []) := nr rfl
@[simp] theorem runW_ap (n s ds w) : runW n s ds w = finW (s (initE n ds) w) := nr rfl
@[simp] theorem initE_ap (n ds) : initE n ds = ds.map some ++ List.replicate (n - ds.length) none := nr rfl
@[simp] theorem finP_rtd (x w) : finP (.ok (.rt (.d x)) w) = .ok x := nr rfl
@[simp] theorem finP_rt (v w) : finP (.ok (.rt v) w) = (match toD 6 w v with | some d => Rp.ok d | none => .bad) := nr rfl
@[simp] theorem finP_nx (e w) : finP (.ok (.nx e) w) = .ok .none := nr rfl
@[simp] theorem finP_ex (c e w) : finP (.ex c e w) = .ex c := nr rfl
@[simp] theorem finP_bad : finP .bad = .bad := nr rfl
@[simp] theorem finP_ite (c : Prop) [Decidable c] (a b) : finP (if c then a else b) = if c then finP a else finP b := by split <;> rfl
@[simp] theorem finW_rt (v w) : finW (.ok (.rt v) w) = .ok v w := nr rfl
@[simp] theorem finW_nx (e w) : finW (.ok (.nx e) w) = .ok (.d .none) w := nr rfl
@[simp] theorem finW_ex (c e w) : finW (.ex c e w) = .ex c w := nr rfl
@[simp] theorem finW_bad : finW .bad = .bad := nr rfl
@[simp] theorem finW_ite (c : Prop) [Decidable c] (a b) : finW (if c then a else b) = if c then finW a else finW b := by split <;> rfl
@[simp] theorem bind_ok {α β : Type} (a w) (f : α → Wd → Rs β) : (Rs.ok a w).bind f = f a w := nr rfl
@[simp] theorem bind_ex {α β : Type} (c w) (f : α → Wd → Rs β) : (Rs.ex c w).bind f = .ex c w := nr rfl
@[simp] theorem bind_bad {α β : Type} (f : α → Wd → Rs β) : Rs.bad.bind f = .bad := nr rfl
@[simp] theorem bind_ite {α β : Type} (c : Prop) [Decidable c] (a b) (f : α → Wd → Rs β) : (if c then a else b : Rs α).bind f = if c then a.bind f else b.bind f := by split <;> rfl
@[simp] theorem st_ok {α : Type} (a w e) (f : α → Wd → Rt) : (Rs.ok a w).st e f = f a w := nr rfl
@[simp] theorem st_ex {α : Type} (c w e) (f : α → Wd → Rt) : (Rs.ex c w).st e f = .ex c e w := nr rfl
@[simp] theorem st_bad {α : Type} (e) (f : α → Wd → Rt) : Rs.bad.st e f = .bad := nr rfl
@[simp] theorem st_ite {α : Type} (c : Prop) [Decidable c] (a b e) (f : α → Wd → Rt) : (if c then a else b : Rs α).st e f = if c then a.st e f else b.st e f := by split <;> rfl
@[simp] theorem xVar_ap (i e w) : xVar i e w = (match e[i]? with | some (some (.d x)) => Rs.ok (.d x) w | some (some (.loc l)) => .ok (.loc l) w | _ => .bad) := nr rfl
@[simp] theorem xLit_ap (d e w) : xLit d e w = .ok (.d d) w := nr rfl
@[simp] theorem xBin_ap (op a b e w) : xBin op a b e w = (a e w).bind fun x w1 => (b e w1).bind fun y w2 => op x y w2 := nr rfl
@[simp] theorem xAnd_ap (a b e w) : xAnd a b e w = (a e w).bind fun x w1 => match x with | .d (.bool p) => if p = true then b e w1 else .ok (.d (.bool false)) w1 | _ => .bad := nr rfl
@[simp] theorem xOr_ap (a b e w) : xOr a b e w = (a e w).bind fun x w1 => match x with | .d (.bool p) => if p = true then .ok (.d (.bool true)) w1 else b e w1 | _ => .bad := nr rfl
@[simp] theorem xNot_ap (a e w) : xNot a e w = (a e w).bind fun x w1 => match x with | .d (.bool b) => .ok (.d (.bool (!b))) w1 | _ => .bad := nr rfl
@[simp] theorem xChain_ap (op op' a b c e w) : xChain op op' a b c e w = (a e w).bind fun x w1 => (b e w1).bind fun y w2 => (op x y w2).bind fun z w3 => match z with
  | .d (.bool p) => if p = true then (c e w3).bind fun u w4 => op' y u w4 else .ok (.d (.bool false)) w3
  | _ => .bad := nr rfl
@[simp] theorem xNil_ap (e w) : xNil e w = .ok [] w := nr rfl
@[simp] theorem xCons_ap (a r e w) : xCons a r e w = (a e w).bind fun x w1 => (r e w1).bind fun xs w2 => .ok (x :: xs) w2 := nr rfl
@[simp] theorem allD_nil : allD [] = some [] := nr rfl
@[simp] theorem allD_cons (x r) : allD (.d x :: r) = (allD r).map (x :: ·) := nr rfl
@[simp] theorem allD_map (ds : List PyData) : allD (ds.map .d) = some ds := by
  induction ds with
  | nil => rfl
  | cons d ds ih => rw [List.map_cons, allD_cons, ih]; rfl
@[simp] theorem xTup_ap (a e w) : xTup a e w = (a e w).bind fun xs w1 => match allD xs with | some ds => if ds.length ≤ 100000 then .ok (.d (.tuple ds)) w1 else .bad | none => .bad := nr rfl
@[simp] theorem xLst_ap (a e w) : xLst a e w = (a e w).bind fun xs w1 => match allD xs with | some ds => if ds.length ≤ 100000 then .ok (.d (.list ds)) w1 else .bad | none => .bad := nr rfl
@[simp] theorem xLstS_ap (a e w) : xLstS a e w = (a e w).bind fun xs w1 => if xs.length ≤ 100000 then .ok (.loc w1.length) (w1 ++ [.lst xs]) else .bad := nr rfl
@[simp] theorem xTupS_ap (a e w) : xTupS a e w = (a e w).bind fun xs w1 => if xs.length ≤ 100000 then .ok (.loc w1.length) (w1 ++ [.tup xs]) else .bad := nr rfl
@[simp] theorem oI_ap (C g i j w) : oI C g (.d (.int i)) (.d (.int j)) w = if C i j = true then .ok (.d (g i j)) w else .bad := nr rfl
@[simp] theorem toD_d (n w x) : toD n w (.d x) = some x := by cases n <;> rfl
@[simp] theorem mapO_nil (f) : mapO f [] = some [] := nr rfl
@[simp] theorem mapO_cons (f x xs) : mapO f (x :: xs) = (match f x with | none => none | some y => (mapO f xs).map (y :: ·)) := nr rfl
@[simp] theorem mapO_map (n w) (ds : List PyData) : mapO (toD n w) (ds.map .d) = some ds := by
  induction ds with
  | nil => rfl
  | cons d ds ih => rw [List.map_cons, mapO_cons, toD_d, ih]; rfl
@[simp] theorem shaped_int (i) : SeqAt.shaped (.int i) = true := nr rfl
@[simp] theorem shaped_bool (i) : SeqAt.shaped (.bool i) = true := nr rfl
@[simp] theorem shaped_none : SeqAt.shaped .none = true := nr rfl
theorem eqv_int (i j : Int) : PyData.eqv (.int i) (.int j) = decide (i = j) := by
  show (i == j) = decide (i = j)
  rw [Bool.eq_iff_iff]; simp
@[simp] theorem oEq_int (i j w) : oEq (.d (.int i)) (.d (.int j)) w = .ok (.d (.bool (decide (i = j)))) w := by simp [oEq, eqv_int]
@[simp] theorem oNe_int (i j w) : oNe (.d (.int i)) (.d (.int j)) w = .ok (.d (.bool (!decide (i = j)))) w := by simp [oNe, eqv_int]
@[simp] theorem oIsN_ap (x w) : oIsN x (.d .none) w = .ok (.d (.bool (isNon x))) w := nr rfl
@[simp] theorem oNotN_ap (x w) : oNotN x (.d .none) w = .ok (.d (.bool (!isNon x))) w := nr rfl
@[simp] theorem isNon_none : isNon (.d .none) = true := nr rfl
@[simp] theorem isNon_int (i) : isNon (.d (.int i)) = false := nr rfl
@[simp] theorem isNon_tup (i) : isNon (.d (.tuple i)) = false := nr rfl
@[simp] theorem isNon_lst (i) : isNon (.d (.list i)) = false := nr rfl
@[simp] theorem isNon_loc (i) : isNon (.loc i) = false := nr rfl
@[simp] theorem isNon_str (i) : isNon (.d (.str i)) = false := nr rfl
@[simp] theorem isNon_bool (i) : isNon (.d (.bool i)) = false := nr rfl
@[simp] theorem oIxL_d (ds i w) : oIxL (.d (.list ds)) (.d (.int i)) w = (match atI ds i with | some d => .ok (.d d) w | none => .bad) := nr rfl
@[simp] theorem oIxT_d (ds i w) : oIxT (.d (.tuple ds)) (.d (.int i)) w = (match atI ds i with | some d => .ok (.d d) w | none => .bad) := nr rfl
@[simp] theorem oIxL_l (l i w) : oIxL (.loc l) (.d (.int i)) w = (match w[l]? with | some (.lst xs) => (match atI xs i with | some d => .ok d w | none => .bad) | _ => .bad) := nr rfl
@[simp] theorem oIxT_l (l i w) : oIxT (.loc l) (.d (.int i)) w = (match w[l]? with | some (.tup xs) => (match atI xs i with | some d => .ok d w | none => .bad) | _ => .bad) := nr rfl
@[simp] theorem xCallP_ap (f xs e w) : xCallP f xs e w = (xs e w).bind fun ds w1 => match allD ds with
  | some ps => match f ps with
    | .ok d => .ok (.d d) w1
    | .ex c => .ex c w1
    | .bad => .bad
  | none => .bad := nr rfl
@[simp] theorem xCallS_ap (f xs e w) : xCallS f xs e w = (xs e w).bind fun ds w1 => match mapO (toD 6 w1) ds with
  | some ps => match f ps with
    | .ok d => if isSc d = true then .ok (.d d) w1 else .bad
    | .ex c => .ex c w1
    | .bad => .bad
  | none => .bad := nr rfl
@[simp] theorem xCallW_ap (f xs e w) : xCallW f xs e w = (xs e w).bind fun ds w1 => f ds w1 := nr rfl
@[simp] theorem xCall_ap (op xs e w) : xCall op xs e w = (xs e w).bind fun ds w1 => op ds w1 := nr rfl
@[simp] theorem xIsi_ap (c x e w) : xIsi c x e w = (x e w).bind fun d w1 => oIsi c d w1 := nr rfl
@[simp] theorem isSc_int (i) : isSc (.int i) = true := nr rfl
@[simp] theorem isSc_bool (i) : isSc (.bool i) = true := nr rfl
@[simp] theorem oLen_l (ds w) : oLen [.d (.list ds)] w = .ok (.d (.int ds.length)) w := nr rfl
@[simp] theorem oLen_t (ds w) : oLen [.d (.tuple ds)] w = .ok (.d (.int ds.length)) w := nr rfl
@[simp] theorem oLen_loc (l w) : oLen [.loc l] w = (match w[l]? with | some (.lst xs) => .ok (.d (.int xs.length)) w | some (.tup xs) => .ok (.d (.int xs.length)) w | _ => .bad) := nr rfl
@[simp] theorem oMax2_ap (i j w) : oMax2 [.d (.int i), .d (.int j)] w = .ok (.d (.int (if j > i then j else i))) w := nr rfl
@[simp] theorem oMin2_ap (i j w) : oMin2 [.d (.int i), .d (.int j)] w = .ok (.d (.int (if j < i then j else i))) w := nr rfl
@[simp] theorem sSet_ap (i x e w) : sSet i x e w = (x e w).st e fun d w1 => .ok (.nx (e.set i (some d))) w1 := nr rfl
@[simp] theorem sRet_ap (x e w) : sRet x e w = (x e w).st e fun d w1 => .ok (.rt d) w1 := nr rfl
@[simp] theorem sExp_ap (x e w) : sExp x e w = (x e w).st e fun _ w1 => .ok (.nx e) w1 := nr rfl
@[simp] theorem sIf_ap (x s t e w) : sIf x s t e w = (x e w).st e fun d w1 => match d with | .d (.bool p) => if p = true then s e w1 else t e w1 | _ => .bad := nr rfl
@[simp] theorem sNil_ap (e w) : sNil e w = .ok (.nx e) w := nr rfl
@[simp] theorem sRaise_ap (c e w) : sRaise c e w = .ex c e w := nr rfl
/-- one statement, then the rest, by what the first has told -/
def thenS (r : Rt) (t : SM) : Rt := match r with
  | .ok (.nx e1) w1 => t e1 w1
  | r => r
@[simp] theorem sSeq_ap (s t e w) : sSeq s t e w = thenS (s e w) t := by
  unfold sSeq thenS
  cases s e w with
  | ok c w => cases c <;> rfl
  | ex c e w => rfl
  | bad => rfl
@[simp] theorem thenS_nx (e w t) : thenS (.ok (.nx e) w) t = t e w := nr rfl
@[simp] theorem thenS_rt (e w t) : thenS (.ok (.rt e) w) t = .ok (.rt e) w := nr rfl
@[simp] theorem thenS_ct (e w t) : thenS (.ok (.ct e) w) t = .ok (.ct e) w := nr rfl
@[simp] theorem thenS_bk (e w t) : thenS (.ok (.bk e) w) t = .ok (.bk e) w := nr rfl
@[simp] theorem thenS_ex (c e w t) : thenS (.ex c e w) t = .ex c e w := nr rfl
@[simp] theorem thenS_bad (t) : thenS .bad t = .bad := nr rfl
@[simp] theorem thenS_ite (c : Prop) [Decidable c] (a b t) : thenS (if c then a else b) t = if c then thenS a t else thenS b t := by split <;> rfl
/-- ways that meet -/
@[simp] theorem ok_and (c : Prop) [Decidable c] (q w) : (if c then Rs.ok (DV.d (PyData.bool q)) w else Rs.ok (DV.d (PyData.bool false)) w) = Rs.ok (DV.d (PyData.bool (decide c && q))) w := by
  by_cases h : c <;> simp [h]
@[simp] theorem ok_or (c : Prop) [Decidable c] (q w) : (if c then Rs.ok (DV.d (PyData.bool true)) w else Rs.ok (DV.d (PyData.bool q)) w) = Rs.ok (DV.d (PyData.bool (decide c || q))) w := by
  by_cases h : c <;> simp [h]
theorem at_lit {α : Type} (l : List α) (i : Nat) : atI l (i : Int) = l[i]? := by
  unfold atI ixN
  by_cases h : i < l.length
  · rw [if_pos (by omega), if_pos (by omega)]; simp
  · rw [if_pos (by omega), if_neg (by omega)]
    simp [List.getElem?_eq_none (Nat.le_of_not_lt h)]
theorem at_pos {α : Type} (l : List α) (i : Int) (h : 0 ≤ i) : atI l i = l[i.toNat]? := by
  obtain ⟨n, rfl⟩ : ∃ n : Nat, i = n := ⟨i.toNat, by omega⟩
  rw [at_lit]; rfl
@[simp] theorem at_0 {α : Type} (l : List α) : atI l 0 = l[0]? := at_lit l 0
@[simp] theorem at_2 {α : Type} (l : List α) : atI l 2 = l[2]? := at_lit l 2
@[simp] theorem at_3 {α : Type} (l : List α) : atI l 3 = l[3]? := at_lit l 3
@[simp] theorem at_4 {α : Type} (l : List α) : atI l 4 = l[4]? := at_lit l 4
@[simp] theorem at_5 {α : Type} (l : List α) : atI l 5 = l[5]? := at_lit l 5
@[simp] theorem at_1 {α : Type} (l : List α) : atI l 1 = l[1]? := at_lit l 1
/-- a while whose state is a -/
theorem while_spec {α : Type} {x : XM} {s : SM} {w : Wd} (env : α → En) (P : α → Prop) (test : α → Bool) (step : α → α) (μ : α → Nat)
    (hx : ∀ a, P a → x (env a) w = .ok (.d (.bool (test a))) w)
    (hs : ∀ a, P a → test a = true → s (env a) w = .ok (.nx (env (step a))) w ∧ P (step a) ∧ μ (step a) < μ a) :
    ∀ n a, P a → μ a < n → ∃ b, P b ∧ test b = false ∧ whileF x s n (env a) w = .ok (.nx (env b)) w := by
  intro n
  induction n with
  | zero => intro a _ h; omega
  | succ n ih =>
    intro a pa h
    by_cases t : test a = true
    · obtain ⟨e, p, l⟩ := hs a pa t
      obtain ⟨b, pb, tb, eb⟩ := ih (step a) p (by omega)
      refine ⟨b, pb, tb, ?_⟩
      unfold whileF
      rw [hx a pa, t]
      simp only [st_ok, if_true, e, eb]
    · refine ⟨a, pa, by simpa using t, ?_⟩
      unfold whileF
      rw [hx a pa]
      simp only [st_ok, if_neg t]
/-- a for over plain data whose state is a; the body goes on -/
theorem forD_spec {α : Type} {g : TgM} {s : SM} (env : α → En) (wd : α → Wd) (P : α → Prop) (step : α → PyData → α) :
    ∀ (ds : List PyData) (a : α), P a →
      (∀ a d, P a → d ∈ ds → ∃ e1, g (.d d) (env a) (wd a) = some e1 ∧ s e1 (wd a) = .ok (.nx (env (step a d))) (wd (step a d)) ∧ P (step a d)) →
      forD g s ds (env a) (wd a) = .ok (.nx (env (ds.foldl step a))) (wd (ds.foldl step a)) ∧ P (ds.foldl step a) := by
  intro ds
  induction ds with
  | nil => intro a p _; exact ⟨rfl, p⟩
  | cons d ds ih =>
    intro a p h
    obtain ⟨e1, h1, h2, h3⟩ := h a d p (List.mem_cons_self ..)
    have := ih (step a d) h3 (fun a d' pa m => h a d' pa (List.mem_cons_of_mem _ m))
    refine ⟨?_, this.2⟩
    show (match g (.d d) (env a) (wd a) with | none => Rt.bad | some e1 => match s e1 (wd a) with
      | .ok (.nx e2) w2 => forD g s ds e2 w2
      | .ok (.ct e2) w2 => forD g s ds e2 w2
      | .ok (.bk e2) w2 => .ok (.nx e2) w2
      | .ok (.rt d) w2 => .ok (.rt d) w2
      | .ex c e2 w2 => .ex c e2 w2
      | .bad => .bad) = _
    rw [h1]
    show (match s e1 (wd a) with
      | .ok (.nx e2) w2 => forD g s ds e2 w2
      | .ok (.ct e2) w2 => forD g s ds e2 w2
      | .ok (.bk e2) w2 => .ok (.nx e2) w2
      | .ok (.rt d) w2 => .ok (.rt d) w2
      | .ex c e2 w2 => .ex c e2 w2
      | .bad => .bad) = _
    rw [h2]
    exact this.1
/-- a for over range, by the number of turns -/
theorem forR_spec {α : Type} {g : TgM} {s : SM} (env : α → En) (wd : α → Wd) (P : Nat → α → Prop) (step : Nat → α → α) (lo : Int) :
    ∀ (n k : Nat) (a : α), P k a →
      (∀ a j, k ≤ j → j < k + n → P j a → ∃ e1, g (.d (.int (lo + (j : Int)))) (env a) (wd a) = some e1 ∧ s e1 (wd a) = .ok (.nx (env (step j a))) (wd (step j a)) ∧ P (j + 1) (step j a)) →
      ∃ b, P (k + n) b ∧ forD g s ((List.range' k n).map fun (j : Nat) => .int (lo + (j : Int))) (env a) (wd a) = .ok (.nx (env b)) (wd b) := by
  intro n
  induction n with
  | zero => intro k a p _; exact ⟨a, p, rfl⟩
  | succ n ih =>
    intro k a p h
    obtain ⟨e1, h1, h2, h3⟩ := h a k (Nat.le_refl _) (by omega) p
    obtain ⟨b, pb, eb⟩ := ih (k + 1) (step k a) h3 (fun a j h1 h2 p => h a j (by omega) (by omega) p)
    refine ⟨b, by rw [show k + (n + 1) = k + 1 + n by omega]; exact pb, ?_⟩
    rw [List.range'_succ, List.map_cons]
    unfold forD
    rw [h1]
    simp only [h2, eb]
theorem rngD_eq (lo : Int) (n : Nat) : rngD lo n = (List.range' 0 n).map fun (j : Nat) => .int (lo + (j : Int)) := by
  unfold rngD
  rw [List.range_eq_range']
@[simp] theorem sWhile_ap (n x s e w) : sWhile n x s e w = whileF x s n e w := nr rfl
@[simp] theorem sForR1_ap (j x s e w) : sForR1 j x s e w = (x e w).st e fun d w1 => match d with
  | .d (.int n) => if okR n = true then forD (gNm j) s (rngD 0 n.toNat) e w1 else .bad
  | _ => .bad := nr rfl
@[simp] theorem sForR2_ap (j x y s e w) : sForR2 j x y s e w = (x e w).st e fun d w1 => (y e w1).st e fun d2 w2 => match d, d2 with
  | .d (.int lo), .d (.int hi) => if (okR lo && okR hi) = true then forD (gNm j) s (rngD lo (hi - lo).toNat) e w2 else .bad
  | _, _ => .bad := nr rfl
@[simp] theorem sAsg_ap (g x e w) : sAsg g x e w = (x e w).st e fun d w1 => match g d e w1 with
  | some e1 => .ok (.nx e1) w1
  | none => .bad := nr rfl
@[simp] theorem gNm_ap (j d e w) : gNm j d e w = some (e.set j (some d)) := nr rfl
@[simp] theorem gTp_d (js ds e w) : gTp js (.d (.tuple ds)) e w = setsE js (ds.map .d) e := nr rfl
@[simp] theorem oInt1_i (i w) : oInt1 [.d (.int i)] w = .ok (.d (.int i)) w := nr rfl
@[simp] theorem oInt1_b (i w) : oInt1 [.d (.bool i)] w = .ok (.d (.int (if i = true then 1 else 0))) w := nr rfl
@[simp] theorem lstAt_loc (w l) : lstAt w (.loc l) = (match w[l]? with | some (.lst xs) => some (l, xs) | _ => none) := nr rfl
@[simp] theorem xApp_ap (xo xe e w) : xApp xo xe e w = (xo e w).bind fun x w1 => match lstAt w1 x with
  | none => .bad
  | some _ => (xe e w1).bind fun y w2 => match lstAt w2 x with
    | none => .bad
    | some (l, xs) => if xs.length < 100000 then .ok (.d .none) (w2.set l (.lst (xs ++ [y]))) else .bad := nr rfl
theorem toD_lst (n : Nat) (w : Wd) (l : Nat) (ds : List PyData) (h : w[l]? = some (.lst (ds.map .d))) : toD (n + 1) w (.loc l) = some (.list ds) := by
  show (match w[l]? with | some (.lst xs) => (mapO (toD n w) xs).map PyData.list | some (.tup xs) => (mapO (toD n w) xs).map PyData.tuple | _ => none) = _
  rw [h]
  simp only [mapO_map]
  rfl
@[simp] theorem poN_ap (e w) : poN e w = .ok none w := nr rfl
@[simp] theorem poS_ap (x e w) : poS x e w = (x e w).bind fun d w1 => match d with
  | .d (.int i) => .ok (some i) w1
  | _ => .bad := nr rfl
@[simp] theorem xSl_ap (op x lo hi e w) : xSl op x lo hi e w = (x e w).bind fun d w1 => (lo e w1).bind fun l w2 => (hi e w2).bind fun u w3 => op d l u w3 := nr rfl
@[simp] theorem oSlL_d (ds l u w) : oSlL (.d (.list ds)) l u w = .ok (.d (.list (cutL ds l u))) w := nr rfl
@[simp] theorem oSlS_d (z l u w) : oSlS (.d (.str z)) l u w = if z.length ≤ 100000 then .ok (.d (.str (cutS z l u))) w else .bad := nr rfl
@[simp] theorem oList_l (ds w) : oList [.d (.list ds)] w = .ok (.d (.list ds)) w := nr rfl
@[simp] theorem oList_t (ds w) : oList [.d (.tuple ds)] w = .ok (.d (.list ds)) w := nr rfl
@[simp] theorem xNeg_ap (x e w) : xNeg x e w = (x e w).bind fun d w1 => match d with
  | .d (.int i) => .ok (.d (.int (-i))) w1
  | _ => .bad := nr rfl
@[simp] theorem sFor_ap (g x s e w) : sFor g x s e w = (x e w).st e fun d w1 => match d with
  | .d (.list ds) => forD g s ds e w1
  | .loc l => match w1[l]? with
    | some (.lst xs) => forL g s l xs xs e w1
    | _ => .bad
  | _ => .bad := nr rfl
/-- a for over a list of things -/
theorem forM_spec {α β : Type} {g : TgM} {s : SM} (f : β → PyData) (env : α → En) (wd : α → Wd) (step : α → β → α) :
    ∀ (xs : List β) (a : α), (∀ a d, d ∈ xs → ∃ e1, g (.d (f d)) (env a) (wd a) = some e1 ∧ s e1 (wd a) = .ok (.nx (env (step a d))) (wd (step a d))) →
      forD g s (xs.map f) (env a) (wd a) = .ok (.nx (env (xs.foldl step a))) (wd (xs.foldl step a)) := by
  intro xs
  induction xs with
  | nil => intro a _; rfl
  | cons d ds ih =>
    intro a h
    obtain ⟨e1, h1, h2⟩ := h a d (List.mem_cons_self ..)
    have := ih (step a d) (fun a d' m => h a d' (List.mem_cons_of_mem _ m))
    rw [List.map_cons]
    unfold forD
    rw [h1]
    simp only [h2]
    exact this
/-! ### data that may be compared -/
structure Shp (n : Nat) (d : PyData) : Prop where
  lay : d.canLay0 = true
  dep : d.depth ≤ n
theorem Shp.int (n i) : Shp n (.int i) := ⟨rfl, Nat.zero_le _⟩
theorem Shp.bool (n i) : Shp n (.bool i) := ⟨rfl, Nat.zero_le _⟩
theorem Shp.none (n) : Shp n .none := ⟨rfl, Nat.zero_le _⟩
theorem shp_all {n : Nat} : ∀ {xs : List PyData}, (∀ x ∈ xs, Shp n x) → PyData.canLayAll0 xs = true ∧ PyData.depthAll xs ≤ n
  | [], _ => ⟨rfl, Nat.zero_le _⟩
  | x :: xs, h => by
    have h1 := h x (List.mem_cons_self ..)
    have h2 := shp_all (xs := xs) fun y m => h y (List.mem_cons_of_mem _ m)
    refine ⟨by rw [PyData.canLayAll0, h1.lay, h2.1]; rfl, ?_⟩
    rw [PyData.depthAll]
    exact Nat.max_le.mpr ⟨h1.dep, h2.2⟩
theorem Shp.list {n : Nat} {xs : List PyData} (h : ∀ x ∈ xs, Shp n x) : Shp (n + 1) (.list xs) := by
  obtain ⟨a, b⟩ := shp_all h
  refine ⟨a, ?_⟩
  rw [PyData.depth]
  omega
theorem Shp.tuple {n : Nat} {xs : List PyData} (h : ∀ x ∈ xs, Shp n x) : Shp (n + 1) (.tuple xs) := by
  obtain ⟨a, b⟩ := shp_all h
  refine ⟨a, ?_⟩
  rw [PyData.depth]
  omega
theorem Shp.mono {n m : Nat} {d : PyData} (h : Shp n d) (l : n ≤ m) : Shp m d := ⟨h.lay, Nat.le_trans h.dep l⟩
theorem Shp.ok {n : Nat} {d : PyData} (h : Shp n d) (l : n ≤ 64) : SeqAt.shaped d = true := by
  unfold SeqAt.shaped
  rw [h.lay, Bool.true_and, decide_eq_true_eq]
  exact Nat.le_trans h.dep l
theorem Shp.refl {n : Nat} {d : PyData} (h : Shp n d) : PyData.eqv d d = true := SeqAt.eqv_refl d h.lay
theorem shaped_refl {d : PyData} (h : SeqAt.shaped d = true) : PyData.eqv d d = true := SeqAt.eqv_refl d (Bool.and_eq_true_iff.mp h).1
theorem oEq_dd (x y w) (hx : SeqAt.shaped x = true) (hy : SeqAt.shaped y = true) : oEq (.d x) (.d y) w = .ok (.d (.bool (PyData.eqv x y))) w := by simp [oEq, hx, hy]
theorem oNe_dd (x y w) (hx : SeqAt.shaped x = true) (hy : SeqAt.shaped y = true) : oNe (.d x) (.d y) w = .ok (.d (.bool (!PyData.eqv x y))) w := by simp [oNe, hx, hy]
theorem oEq_same (x w) (hx : SeqAt.shaped x = true) : oEq (.d x) (.d x) w = .ok (.d (.bool true)) w := by rw [oEq_dd _ _ _ hx hx, shaped_refl hx]
theorem oNe_same (x w) (hx : SeqAt.shaped x = true) : oNe (.d x) (.d x) w = .ok (.d (.bool false)) w := by rw [oNe_dd _ _ _ hx hx, shaped_refl hx]; rfl
/-- a for over range, what it comes to left open -/
theorem forR_ex {α : Type} {g : TgM} {s : SM} (env : α → En) (wd : α → Wd) (P : Nat → α → Prop) (lo : Int) :
    ∀ (n k : Nat) (a : α), P k a →
      (∀ a j, k ≤ j → j < k + n → P j a → ∃ e1 a', g (.d (.int (lo + (j : Int)))) (env a) (wd a) = some e1 ∧ (s e1 (wd a) = .ok (.nx (env a')) (wd a') ∨ s e1 (wd a) = .ok (.ct (env a')) (wd a')) ∧ P (j + 1) a') →
      ∃ b, P (k + n) b ∧ forD g s ((List.range' k n).map fun (j : Nat) => .int (lo + (j : Int))) (env a) (wd a) = .ok (.nx (env b)) (wd b) := by
  intro n
  induction n with
  | zero => intro k a p _; exact ⟨a, p, rfl⟩
  | succ n ih =>
    intro k a p h
    obtain ⟨e1, a', h1, h2, h3⟩ := h a k (Nat.le_refl _) (by omega) p
    obtain ⟨b, pb, eb⟩ := ih (k + 1) a' h3 (fun a j h1 h2 p => h a j (by omega) (by omega) p)
    refine ⟨b, by rw [show k + (n + 1) = k + 1 + n by omega]; exact pb, ?_⟩
    rw [List.range'_succ, List.map_cons]
    unfold forD
    rw [h1]
    rcases h2 with h2 | h2 <;> simp only [h2, eb]
theorem forR0_ex {α : Type} {g : TgM} {s : SM} (env : α → En) (wd : α → Wd) (P : Nat → α → Prop) (n : Nat) (a : α) (h0 : P 0 a)
    (h : ∀ a j, j < n → P j a → ∃ e1 a', g (.d (.int (j : Int))) (env a) (wd a) = some e1 ∧ (s e1 (wd a) = .ok (.nx (env a')) (wd a') ∨ s e1 (wd a) = .ok (.ct (env a')) (wd a')) ∧ P (j + 1) a') :
    ∃ b, P n b ∧ forD g s (rngD 0 n) (env a) (wd a) = .ok (.nx (env b)) (wd b) := by
  obtain ⟨b, p, e⟩ := forR_ex (g := g) (s := s) env wd P 0 n 0 a h0 (fun a j _ h2 p => by rw [Int.zero_add]; exact h a j (by omega) p)
  rw [← rngD_eq] at e
  exact ⟨b, by simpa using p, e⟩
theorem ok_r (n : Int) (h1 : 0 ≤ n) (h2 : n ≤ 1000000) : okR n = true := by
  unfold okR
  simp
  omega
@[simp] theorem oIsi_tuple_tuple (ds : List PyData) (w : Wd) : oIsi "tuple" (.d (.tuple ds)) w = .ok (.d (.bool true)) w := nr rfl
@[simp] theorem oIsi_tuple_int (i : Int) (w : Wd) : oIsi "tuple" (.d (.int i)) w = .ok (.d (.bool false)) w := nr rfl
@[simp] theorem oIsi_tuple_bool (b : Bool) (w : Wd) : oIsi "tuple" (.d (.bool b)) w = .ok (.d (.bool false)) w := nr rfl
@[simp] theorem oIsi_tuple_list (ds : List PyData) (w : Wd) : oIsi "tuple" (.d (.list ds)) w = .ok (.d (.bool false)) w := nr rfl
@[simp] theorem oIsi_tuple_none  (w : Wd) : oIsi "tuple" (.d .none) w = .ok (.d (.bool false)) w := nr rfl
@[simp] theorem oIsi_tuple_str (z : Str) (w : Wd) : oIsi "tuple" (.d (.str z)) w = .ok (.d (.bool false)) w := nr rfl
@[simp] theorem oIsi_int_tuple (ds : List PyData) (w : Wd) : oIsi "int" (.d (.tuple ds)) w = .ok (.d (.bool false)) w := nr rfl
@[simp] theorem oIsi_int_int (i : Int) (w : Wd) : oIsi "int" (.d (.int i)) w = .ok (.d (.bool true)) w := nr rfl
@[simp] theorem oIsi_int_bool (b : Bool) (w : Wd) : oIsi "int" (.d (.bool b)) w = .ok (.d (.bool true)) w := nr rfl
@[simp] theorem oIsi_int_list (ds : List PyData) (w : Wd) : oIsi "int" (.d (.list ds)) w = .ok (.d (.bool false)) w := nr rfl
@[simp] theorem oIsi_int_none  (w : Wd) : oIsi "int" (.d .none) w = .ok (.d (.bool false)) w := nr rfl
@[simp] theorem oIsi_int_str (z : Str) (w : Wd) : oIsi "int" (.d (.str z)) w = .ok (.d (.bool false)) w := nr rfl
@[simp] theorem oIsi_bool_tuple (ds : List PyData) (w : Wd) : oIsi "bool" (.d (.tuple ds)) w = .ok (.d (.bool false)) w := nr rfl
@[simp] theorem oIsi_bool_int (i : Int) (w : Wd) : oIsi "bool" (.d (.int i)) w = .ok (.d (.bool false)) w := nr rfl
@[simp] theorem oIsi_bool_bool (b : Bool) (w : Wd) : oIsi "bool" (.d (.bool b)) w = .ok (.d (.bool true)) w := nr rfl
@[simp] theorem oIsi_bool_list (ds : List PyData) (w : Wd) : oIsi "bool" (.d (.list ds)) w = .ok (.d (.bool false)) w := nr rfl
@[simp] theorem oIsi_bool_none  (w : Wd) : oIsi "bool" (.d .none) w = .ok (.d (.bool false)) w := nr rfl
@[simp] theorem oIsi_bool_str (z : Str) (w : Wd) : oIsi "bool" (.d (.str z)) w = .ok (.d (.bool false)) w := nr rfl
@[simp] theorem oIsi_list_tuple (ds : List PyData) (w : Wd) : oIsi "list" (.d (.tuple ds)) w = .ok (.d (.bool false)) w := nr rfl
@[simp] theorem oIsi_list_int (i : Int) (w : Wd) : oIsi "list" (.d (.int i)) w = .ok (.d (.bool false)) w := nr rfl
@[simp] theorem oIsi_list_bool (b : Bool) (w : Wd) : oIsi "list" (.d (.bool b)) w = .ok (.d (.bool false)) w := nr rfl
@[simp] theorem oIsi_list_list (ds : List PyData) (w : Wd) : oIsi "list" (.d (.list ds)) w = .ok (.d (.bool true)) w := nr rfl
@[simp] theorem oIsi_list_none  (w : Wd) : oIsi "list" (.d .none) w = .ok (.d (.bool false)) w := nr rfl
@[simp] theorem oIsi_list_str (z : Str) (w : Wd) : oIsi "list" (.d (.str z)) w = .ok (.d (.bool false)) w := nr rfl
@[simp] theorem oIsi_str_tuple (ds : List PyData) (w : Wd) : oIsi "str" (.d (.tuple ds)) w = .ok (.d (.bool false)) w := nr rfl
@[simp] theorem oIsi_str_int (i : Int) (w : Wd) : oIsi "str" (.d (.int i)) w = .ok (.d (.bool false)) w := nr rfl
@[simp] theorem oIsi_str_bool (b : Bool) (w : Wd) : oIsi "str" (.d (.bool b)) w = .ok (.d (.bool false)) w := nr rfl
@[simp] theorem oIsi_str_list (ds : List PyData) (w : Wd) : oIsi "str" (.d (.list ds)) w = .ok (.d (.bool false)) w := nr rfl
@[simp] theorem oIsi_str_none  (w : Wd) : oIsi "str" (.d .none) w = .ok (.d (.bool false)) w := nr rfl
@[simp] theorem oIsi_str_str (z : Str) (w : Wd) : oIsi "str" (.d (.str z)) w = .ok (.d (.bool true)) w := nr rfl
/-! steps by hand -/
theorem callP_of {f : FP} {xs : AM} {e : En} {w w1 : Wd} {ds : List DV} {ps : List PyData} {d : PyData} (hx : xs e w = .ok ds w1) (ha : allD ds = some ps) (hf : f ps = .ok d) : xCallP f xs e w = .ok (.d d) w1 := by
  rw [xCallP_ap, hx, bind_ok, ha]
  simp only [hf]
theorem set_of {i : Nat} {x : XM} {e : En} {w w1 : Wd} {d : DV} (hx : x e w = .ok d w1) : sSet i x e w = .ok (.nx (e.set i (some d))) w1 := by rw [sSet_ap, hx, st_ok]
theorem seq_of {s t : SM} {e e1 : En} {w w1 : Wd} (h : s e w = .ok (.nx e1) w1) : sSeq s t e w = t e1 w1 := by rw [sSeq_ap, h, thenS_nx]
theorem seq_rt {s t : SM} {e : En} {w w1 : Wd} {d : DV} (h : s e w = .ok (.rt d) w1) : sSeq s t e w = .ok (.rt d) w1 := by rw [sSeq_ap, h, thenS_rt]
theorem if_of {x : XM} {s t : SM} {e : En} {w w1 : Wd} {b : Bool} (hx : x e w = .ok (.d (.bool b)) w1) : sIf x s t e w = (if b = true then s e w1 else t e w1) := by rw [sIf_ap, hx, st_ok]
theorem ret_of {x : XM} {e : En} {w w1 : Wd} {d : DV} (hx : x e w = .ok d w1) : sRet x e w = .ok (.rt d) w1 := by rw [sRet_ap, hx, st_ok]
theorem exp_of {x : XM} {e : En} {w w1 : Wd} {d : DV} (hx : x e w = .ok d w1) : sExp x e w = .ok (.nx e) w1 := by rw [sExp_ap, hx, st_ok]
theorem bin_of {op : DV → DV → Wd → Rs DV} {a b : XM} {e : En} {w w1 w2 : Wd} {x y : DV} {r : Rs DV} (ha : a e w = .ok x w1) (hb : b e w1 = .ok y w2) (ho : op x y w2 = r) : xBin op a b e w = r := by rw [xBin_ap, ha, bind_ok, hb, bind_ok, ho]
theorem or_of {a b : XM} {e : En} {w w1 w2 : Wd} {p q : Bool} (ha : a e w = .ok (.d (.bool p)) w1) (hb : p = false → b e w1 = .ok (.d (.bool q)) w1) (hw : w2 = w1) : xOr a b e w = .ok (.d (.bool (p || q))) w2 := by
  subst hw
  rw [xOr_ap, ha, bind_ok]
  cases p with
  | true => simp
  | false => simp [hb rfl]
theorem and_of {a b : XM} {e : En} {w w1 w2 : Wd} {p q : Bool} (ha : a e w = .ok (.d (.bool p)) w1) (hb : p = true → b e w1 = .ok (.d (.bool q)) w1) (hw : w2 = w1) : xAnd a b e w = .ok (.d (.bool (p && q))) w2 := by
  subst hw
  rw [xAnd_ap, ha, bind_ok]
  cases p with
  | true => simp [hb rfl]
  | false => simp
theorem not_of {a : XM} {e : En} {w w1 : Wd} {p : Bool} (ha : a e w = .ok (.d (.bool p)) w1) : xNot a e w = .ok (.d (.bool (!p))) w1 := by rw [xNot_ap, ha, bind_ok]
@[simp] theorem xLc_ap (st j x t s e w) : xLc st j x t s e w = (x e w).bind fun d w1 => match d with
  | .d (.list ds) => lcRun st j t s e ds w1
  | _ => .bad := nr rfl
@[simp] theorem xLcT_ap (st j x t s e w) : xLcT st j x t s e w = (x e w).bind fun d w1 => match d with
  | .d (.tuple ds) => lcRun st j t s e ds w1
  | _ => .bad := nr rfl
@[simp] theorem xLcR_ap (st j x t s e w) : xLcR st j x t s e w = (x e w).bind fun d w1 => match d with
  | .d (.int n) => if okR n = true then lcRun st j t s e (rngD 0 n.toNat) w1 else .bad
  | _ => .bad := nr rfl
/-- a comprehension over a list of things -/
theorem lcF_map {β : Type} {j : Nat} {t : Option XM} {s : XM} {e : En} {w : Wd} (f : β → PyData) (p : β → Bool) (g : β → PyData) : ∀ (xs : List β) (acc : List PyData),
    (∀ b ∈ xs, lcT t (e.set j (some (.d (f b)))) w = .ok (.d (.bool (p b))) w) → (∀ b ∈ xs, p b = true → s (e.set j (some (.d (f b)))) w = .ok (.d (g b)) w) → acc.length + xs.length ≤ 100000 →
    lcF j t s e (xs.map f) w acc = .ok (acc ++ (xs.filter p).map g) w := by
  intro xs
  induction xs with
  | nil => intro acc _ _ _; rw [List.map_nil, lcF]; simp
  | cons x xs ih =>
    intro acc h1 h2 h3
    rw [List.length_cons] at h3
    rw [List.map_cons, lcF, h1 x (List.mem_cons_self ..)]
    simp only
    by_cases hp : p x = true
    · rw [if_pos hp, h2 x (List.mem_cons_self ..) hp]
      simp only
      rw [if_pos (by omega), ih (acc ++ [g x]) (fun b m => h1 b (List.mem_cons_of_mem _ m)) (fun b m => h2 b (List.mem_cons_of_mem _ m)) (by rw [List.length_append, List.length_singleton]; omega), List.filter_cons_of_pos hp]
      simp
    · rw [if_neg hp, ih acc (fun b m => h1 b (List.mem_cons_of_mem _ m)) (fun b m => h2 b (List.mem_cons_of_mem _ m)) (by omega), List.filter_cons_of_neg hp]
theorem lcRun_map {β : Type} {j : Nat} {t : Option XM} {s : XM} {e : En} {w : Wd} (f : β → PyData) (p : β → Bool) (g : β → PyData) (xs : List β)
    (h1 : ∀ b ∈ xs, lcT t ((e.set j none).set j (some (.d (f b)))) w = .ok (.d (.bool (p b))) w) (h2 : ∀ b ∈ xs, p b = true → s ((e.set j none).set j (some (.d (f b)))) w = .ok (.d (g b)) w) (h3 : xs.length ≤ 100000) :
    lcRun false j t s e (xs.map f) w = .ok (.d (.list ((xs.filter p).map g))) w := by
  unfold lcRun
  rw [lcF_map f p g xs [] h1 h2 (by simpa using h3)]
  rfl
@[simp] theorem lcT_none (e w) : lcT none e w = .ok (.d (.bool true)) w := nr rfl
@[simp] theorem lcT_some (x e w) : lcT (some x) e w = x e w := nr rfl
@[simp] theorem oSumL_ints (ns : List Int) (w) : oSumL [.d (.list (ns.map .int))] w = .ok (.d (.int ns.sum)) w := by
  unfold oSumL itemsD
  simp only [intsOf_map]
@[simp] theorem oSortedL_ints (ns : List Int) (w) : oSortedL [.d (.list (ns.map .int))] w = .ok (.d (.list ((sortI ns).map .int))) w := by
  unfold oSortedL itemsD
  simp only [intsOf_map]
theorem sortI_perm (ns : List Int) : (sortI ns).Perm ns := List.mergeSort_perm _ _
theorem sortI_le (ns : List Int) : (sortI ns).Pairwise (· ≤ ·) := by
  have := List.pairwise_mergeSort (le := fun (a b : Int) => decide (a ≤ b)) (fun a b c h1 h2 => by simp only [decide_eq_true_eq] at *; omega) (fun a b => by simp only [Bool.or_eq_true, decide_eq_true_eq]; omega) ns
  exact this.imp fun h => of_decide_eq_true h
theorem sortI_3 (a b c : Int) : ∃ x y z, sortI [a, b, c] = [x, y, z] ∧ x ≤ y ∧ y ≤ z ∧ ∀ i ∈ [x, y, z], i ∈ [a, b, c] := by
  have p := sortI_perm [a, b, c]
  have l := sortI_le [a, b, c]
  generalize sortI [a, b, c] = q at p l
  have hl := p.length_eq
  match q, hl with
  | [x, y, z], _ =>
    refine ⟨x, y, z, rfl, ?_, ?_, fun i hi => p.mem_iff.mp hi⟩
    · exact (List.pairwise_cons.mp l).1 y (by simp)
    · exact (List.pairwise_cons.mp (List.pairwise_cons.mp l).2).1 z (by simp)
@[simp] theorem oCat_dd (xs ys w) : oCat (.d (.list xs)) (.d (.list ys)) w = if xs.length + ys.length ≤ 100000 then .ok (.d (.list (xs ++ ys))) w else .bad := nr rfl
end RK

set_option Elab.async false
set_option linter.all false
set_option maxRecDepth 100000
set_option maxHeartbeats 4000000
namespace LW
open PySem PySem.Spec PyProof.Rows L2 RK
def cell (ns : List Int) (k : Nat) : Int := (ns[k]?).getD 0
theorem cell_at (ns : List Int) (k : Nat) : f_law_cell_at [.list (ns.map .int), .int (k : Int)] = .ok (.int (cell ns k)) := by
  unfold f_law_cell_at sm_law_cell_at cell
  by_cases h : k < ns.length
  · have h2 : (k : Int) < (ns.length : Int) := by omega
    simp [h2, at_lit, h]
  · have h2 : ¬ (k : Int) < (ns.length : Int) := by omega
    simp [h2, h]
theorem c0 (ns : List Int) : f_law_cell_at [.list (ns.map .int), .int 0] = .ok (.int (cell ns 0)) := cell_at ns 0
theorem c1 (ns : List Int) : f_law_cell_at [.list (ns.map .int), .int 1] = .ok (.int (cell ns 1)) := cell_at ns 1
theorem c2 (ns : List Int) : f_law_cell_at [.list (ns.map .int), .int 2] = .ok (.int (cell ns 2)) := cell_at ns 2
theorem c3 (ns : List Int) : f_law_cell_at [.list (ns.map .int), .int 3] = .ok (.int (cell ns 3)) := cell_at ns 3
theorem c4 (ns : List Int) : f_law_cell_at [.list (ns.map .int), .int 4] = .ok (.int (cell ns 4)) := cell_at ns 4
theorem c5 (ns : List Int) : f_law_cell_at [.list (ns.map .int), .int 5] = .ok (.int (cell ns 5)) := cell_at ns 5
theorem at_mod {α : Type} (l : List α) (i : Int) (n : Int) (hn : n = l.length) (h0 : 0 < n) : ∃ x ∈ l, atI l (i % n) = some x := by
  have h1 := Int.emod_nonneg i (by omega : n ≠ 0)
  have h2 := Int.emod_lt_of_pos i h0
  have h3 : (i % n).toNat < l.length := by omega
  rw [at_pos _ _ h1, List.getElem?_eq_getElem h3]
  exact ⟨_, List.getElem_mem h3, rfl⟩
theorem at_modI (l : List Int) (i : Int) (n : Int) (hn : n = l.length) (h0 : 0 < n) : ∃ y ∈ l, atI (l.map PyData.int) (i % n) = some (.int y) := by
  obtain ⟨x, hx, e⟩ := at_mod (l.map PyData.int) i n (by simp [hn]) h0
  obtain ⟨y, hy, rfl⟩ := List.mem_map.mp hx
  exact ⟨y, hy, e⟩
end LW

set_option Elab.async false
set_option linter.all false
set_option maxRecDepth 100000
set_option maxHeartbeats 4000000
namespace LW
open PySem PySem.Spec PyProof.Rows L2 RK
def tup2 (p : Int × Int) : PyData := .tuple [.int p.1, .int p.2]
def optd : Option (Int × Int) → PyData
  | none => .none
  | some p => tup2 p
def hstep (d : Int) : Option (Int × Int) → Int × Int → Option (Int × Int)
  | none, p => if p.1 ≤ d then some p else none
  | some q, p => if p.1 ≤ d ∧ q.1 ≤ p.1 then some p else some q
/-- the pair that holds -/
def hld (rows : List (Int × Int)) (d : Int) : Option (Int × Int) := rows.foldl (hstep d) none
theorem shp_tup2 (p) : Shp 1 (tup2 p) := Shp.tuple (n := 0) fun x h => by
  simp only [List.mem_cons, List.not_mem_nil, or_false] at h
  rcases h with rfl | rfl <;> exact Shp.int _ _
theorem shp_optd (p) : Shp 1 (optd p) := by
  cases p with
  | none => exact Shp.none _
  | some p => exact shp_tup2 p
theorem shp_rows (rows : List (Int × Int)) : Shp 2 (.list (rows.map tup2)) := Shp.list fun x h => by
  obtain ⟨p, _, rfl⟩ := List.mem_map.mp h
  exact shp_tup2 p
@[simp] theorem sh_tup2 (p) : SeqAt.shaped (tup2 p) = true := (shp_tup2 p).ok (by decide)
@[simp] theorem sh_optd (p) : SeqAt.shaped (optd p) = true := (shp_optd p).ok (by decide)
@[simp] theorem sh_rows (rows : List (Int × Int)) : SeqAt.shaped (.list (rows.map tup2)) = true := (shp_rows rows).ok (by decide)
@[simp] theorem isNon_optd (p) : isNon (.d (optd p)) = p.isNone := by cases p <;> rfl
def phEnv (rows : List (Int × Int)) (d : Int) (a : Option (Int × Int) × Option DV) : En := [some (.d (.list (rows.map tup2))), some (.d (.int d)), some (.d (optd a.1)), a.2]
theorem ph_loop (rows : List (Int × Int)) (d : Int) (xs : List (Int × Int)) (a : Option (Int × Int) × Option DV) :
    forD (gNm 3) sm_pair_held_l1 (xs.map tup2) (phEnv rows d a) [] = .ok (.nx (phEnv rows d (xs.foldl (fun a p => (hstep d a.1 p, some (.d (tup2 p)))) a))) [] := by
  refine forM_spec tup2 (phEnv rows d) (fun _ => []) (fun a p => (hstep d a.1 p, some (.d (tup2 p)))) xs a ?_
  intro ⟨b, k⟩ p _
  refine ⟨_, rfl, ?_⟩
  unfold sm_pair_held_l1 phEnv
  by_cases h : p.1 ≤ d
  · cases b with
    | none => simp [hstep, h, tup2, optd]
    | some q =>
      by_cases h2 : q.1 ≤ p.1 <;> simp [hstep, h, h2, tup2, optd]
  · cases b with
    | none => simp [hstep, h, tup2, optd]
    | some q => simp [hstep, h, tup2, optd]
theorem fold_fst (d : Int) (xs : List (Int × Int)) : ∀ a : Option (Int × Int) × Option DV, (xs.foldl (fun a p => (hstep d a.1 p, some (DV.d (tup2 p)))) a).1 = xs.foldl (hstep d) a.1 := by
  induction xs with
  | nil => intro a; rfl
  | cons x xs ih => intro a; rw [List.foldl_cons, List.foldl_cons, ih]
theorem pair_held_ok (rows : List (Int × Int)) (d : Int) : f_pair_held [.list (rows.map tup2), .int d] = .ok (optd (hld rows d)) := by
  have e := ph_loop rows d rows (none, none)
  have f := fold_fst d rows (none, none)
  unfold f_pair_held sm_pair_held
  unfold phEnv at e
  simp only [f] at e
  simp
  simp [show (PyData.none) = optd none from rfl, e, hld]
theorem held_ok (rows : List (Int × Int)) (d : Int) : f_held [.list (rows.map tup2), .int d] = .ok (match hld rows d with | none => .none | some p => .int p.2) := by
  unfold f_held sm_held
  cases h : hld rows d with
  | none => simp [pair_held_ok, h, optd]
  | some p => simp [pair_held_ok, h, optd, tup2]
end LW

set_option Elab.async false
set_option linter.all false
set_option maxRecDepth 100000
set_option maxHeartbeats 4000000
namespace LW
open PySem PySem.Spec PyProof.Rows L2 RK
def mix1 (a k : Int) : Int := (a * 48271 + k * 69621 + 11) % 1000003
def mix (a k : Int) : Int := (mix1 a k * mix1 a k + 7 * mix1 a k + k) % 999983
theorem mix_ok (a k : Int) : f_law_mix [.int a, .int k] = .ok (.int (mix a k)) := by
  have h1 : 0 ≤ mix1 a k := by unfold mix1; omega
  have h2 : mix1 a k < 1000003 := by unfold mix1; omega
  have h3 : -18446744073709551616 < mix1 a k := by omega
  have h4 : mix1 a k < 18446744073709551616 := by omega
  have e : mix1 a k = (a * 48271 + k * 69621 + 11) % 1000003 := rfl
  unfold f_law_mix sm_law_mix mix
  simp [← e, h3, h4]
theorem mix_0 (a k : Int) : 0 ≤ mix a k := by unfold mix; omega
theorem mix_lt (a k : Int) : mix a k < 999983 := by unfold mix; omega
end LW

set_option Elab.async false
set_option linter.all false
set_option maxRecDepth 100000
set_option maxHeartbeats 4000000
namespace LW
open PySem PySem.Spec PyProof.Rows L2 RK
/-- what a gauge row tells on a day -/
def gv (G : List (Int × Int)) (d : Int) : Int := match hld G d with
  | some q => q.2
  | none => 0
theorem hfold_mem (d : Int) : ∀ (xs : List (Int × Int)) (b : Option (Int × Int)) (p : Int × Int), xs.foldl (hstep d) b = some p → p ∈ xs ∨ b = some p
  | [], b, p, h => .inr h
  | x :: xs, b, p, h => by
    rw [List.foldl_cons] at h
    rcases hfold_mem d xs _ p h with h | h
    · exact .inl (List.mem_cons_of_mem _ h)
    · cases b with
      | none =>
        simp only [hstep] at h
        split at h
        · cases h
          exact .inl (List.mem_cons_self ..)
        · cases h
      | some q =>
        simp only [hstep] at h
        split at h
        · cases h
          exact .inl (List.mem_cons_self ..)
        · exact .inr h
theorem hld_mem {rows : List (Int × Int)} {d : Int} {p : Int × Int} (h : hld rows d = some p) : p ∈ rows := by
  rcases hfold_mem d rows none p h with h | h
  · exact h
  · cases h
theorem hfold_some (d : Int) : ∀ (xs : List (Int × Int)) (p : Int × Int), ∃ q, xs.foldl (hstep d) (some p) = some q
  | [], p => ⟨p, rfl⟩
  | x :: xs, p => by
    rw [List.foldl_cons]
    simp only [hstep]
    split
    · exact hfold_some d xs _
    · exact hfold_some d xs _
theorem hld_zero (n : Int) (r : List (Int × Int)) (d : Int) (h : 0 ≤ d) : ∃ q, hld ((0, n) :: r) d = some q := by
  unfold hld
  rw [List.foldl_cons]
  simp only [hstep, if_pos h]
  exact hfold_some d r _
theorem cut_mem {α : Type} {xs : List α} {l u : Option Int} {x : α} (h : x ∈ cutL xs l u) : x ∈ xs := by
  unfold cutL at h
  exact List.mem_of_mem_drop (List.mem_of_mem_take h)
theorem cut_map {α β : Type} (f : α → β) (xs : List α) (l u : Option Int) : cutL (xs.map f) l u = (cutL xs l u).map f := by
  unfold cutL
  rw [List.length_map, List.map_take, List.map_drop]
theorem cut_1 {α : Type} (x : α) (xs : List α) : cutL (x :: xs) none (some 1) = [x] := by
  unfold cutL
  have e : HT.sIx (x :: xs).length (x :: xs).length (some 1) = 1 := by
    show (if (1 : Int) < 0 then ((1 : Int) + (((x :: xs).length : Nat) : Int)).toNat else min (1 : Int).toNat (x :: xs).length) = 1
    rw [if_neg (by omega), List.length_cons]
    show min 1 (xs.length + 1) = 1
    omega
  rw [e]
  rfl
end LW

set_option Elab.async false
set_option linter.all false
set_option maxRecDepth 100000
set_option maxHeartbeats 4000000
namespace LW
open PySem PySem.Spec PyProof.Rows L2 RK
def ustep (d : Int) (l : Int) (p : Int × Int) : Int := if d < p.1 ∧ p.1 ≤ l then p.1 - 1 else l
def unch (rows : List (Int × Int)) (d l : Int) : Int := rows.foldl (ustep d) l
theorem ufold (d : Int) : ∀ (xs : List (Int × Int)) (l : Int), d ≤ l → d ≤ xs.foldl (ustep d) l ∧ xs.foldl (ustep d) l ≤ l ∧ ∀ p ∈ xs, ¬ (d < p.1 ∧ p.1 ≤ xs.foldl (ustep d) l)
  | [], l, h => ⟨h, Int.le_refl _, fun p m => by cases m⟩
  | x :: xs, l, h => by
    rw [List.foldl_cons]
    have h1 : d ≤ ustep d l x ∧ ustep d l x ≤ l ∧ ¬ (d < x.1 ∧ x.1 ≤ ustep d l x) := by
      unfold ustep
      split <;> omega
    obtain ⟨a, b, c⟩ := ufold d xs (ustep d l x) h1.1
    refine ⟨a, by omega, fun p m => ?_⟩
    rcases List.mem_cons.mp m with rfl | m
    · omega
    · exact c p m
def ucEnv (rows : List (Int × Int)) (d : Int) (a : Int × Option DV) : En := [some (.d (.list (rows.map tup2))), some (.d (.int d)), some (.d (.int a.1)), a.2]
theorem uc_loop (rows : List (Int × Int)) (d : Int) (xs : List (Int × Int)) (a : Int × Option DV) :
    forD (gNm 3) sm_unchanged_through_l1 (xs.map tup2) (ucEnv rows d a) [] = .ok (.nx (ucEnv rows d (xs.foldl (fun a p => (ustep d a.1 p, some (.d (tup2 p)))) a))) [] := by
  refine forM_spec tup2 (ucEnv rows d) (fun _ => []) (fun a p => (ustep d a.1 p, some (.d (tup2 p)))) xs a ?_
  intro ⟨b, k⟩ p _
  refine ⟨_, rfl, ?_⟩
  unfold sm_unchanged_through_l1 ucEnv ustep
  by_cases h : d < p.1
  · by_cases h2 : p.1 ≤ b <;> simp [h, h2, tup2]
  · simp [h, tup2]
theorem ufold_fst (d : Int) (xs : List (Int × Int)) : ∀ a : Int × Option DV, (xs.foldl (fun a p => (ustep d a.1 p, some (DV.d (tup2 p)))) a).1 = xs.foldl (ustep d) a.1 := by
  induction xs with
  | nil => intro a; rfl
  | cons x xs ih => intro a; rw [List.foldl_cons, List.foldl_cons, ih]
theorem unch_ok (rows : List (Int × Int)) (d l : Int) : f_unchanged_through [.list (rows.map tup2), .int d, .int l] = .ok (.int (unch rows d l)) := by
  have e := uc_loop rows d rows (l, none)
  have f := ufold_fst d rows (l, none)
  unfold f_unchanged_through sm_unchanged_through unch
  unfold ucEnv at e
  simp only [f] at e
  simp [e]
theorem hfold_same (d e : Int) : ∀ (xs : List (Int × Int)) (b : Option (Int × Int)), (∀ p ∈ xs, (p.1 ≤ d ↔ p.1 ≤ e)) → xs.foldl (hstep e) b = xs.foldl (hstep d) b
  | [], b, _ => rfl
  | x :: xs, b, h => by
    have h1 := h x (List.mem_cons_self ..)
    rw [List.foldl_cons, List.foldl_cons, hfold_same d e xs _ fun p m => h p (List.mem_cons_of_mem _ m)]
    congr 1
    cases b with
    | none => simp only [hstep, h1]
    | some q => simp only [hstep, h1]
theorem hld_same (rows : List (Int × Int)) (d e u : Int) (h1 : d ≤ e) (h2 : e ≤ u) (h : ∀ p ∈ rows, ¬ (d < p.1 ∧ p.1 ≤ u)) : hld rows e = hld rows d := by
  refine hfold_same d e rows none fun p m => ?_
  have := h p m
  omega
end LW

set_option Elab.async false
set_option linter.all false
set_option maxRecDepth 100000
set_option maxHeartbeats 4000000
namespace LW
open PySem PySem.Spec PyProof.Rows L2 RK
def sumF (F : Nat → Int) (k : Nat) : Nat → Int
  | 0 => 0
  | n + 1 => sumF F k n + F (k + n)
theorem sumF_add (F : Nat → Int) (k x : Nat) : ∀ y, sumF F k (x + y) = sumF F k x + sumF F (k + x) y
  | 0 => by simp [sumF]
  | y + 1 => by
    rw [← Nat.add_assoc]
    show sumF F k (x + y) + _ = _ + (sumF F (k + x) y + _)
    rw [sumF_add F k x y, Nat.add_assoc k x y, Int.add_assoc]
theorem sumF_const (F : Nat → Int) (k : Nat) (c : Int) : ∀ n : Nat, (∀ j, j < n → F (k + j) = c) → sumF F k n = c * n
  | 0, _ => by simp [sumF]
  | n + 1, h => by
    show sumF F k n + F (k + n) = _
    rw [sumF_const F k c n fun j hj => h j (by omega), h n (by omega), show ((n + 1 : Nat) : Int) = (n : Int) + 1 by omega, Int.mul_add, Int.mul_one]
theorem sumF_cut (F : Nat → Int) (b n : Nat) (h : ∀ d, d < b → F d = 0) : sumF F 0 n = sumF F b (n - b) := by
  by_cases c : n ≤ b
  · rw [show n - b = 0 by omega, sumF_const F 0 0 n fun j hj => by rw [Nat.zero_add]; exact h j (by omega)]
    simp [sumF]
  · have e : n = b + (n - b) := by omega
    rw [e, sumF_add, sumF_const F 0 0 b fun j hj => by rw [Nat.zero_add]; exact h j hj]
    simp
def bal (M : List (Int × Int)) (d : Int) : Int := ((M.filter fun p => decide (p.1 ≤ d)).map (·.2)).sum
structure ROk (R : List (Int × Int)) : Prop where
  h : ∀ d, 0 ≤ d → ∃ q, hld R d = some q
  b : ∀ p ∈ R, 0 ≤ p.2 ∧ p.2 ≤ 10000
theorem rok_zero (n : Int) (r : List (Int × Int)) (h : ∀ p ∈ (0, n) :: r, 0 ≤ p.2 ∧ p.2 ≤ 10000) : ROk ((0, n) :: r) := ⟨fun d => hld_zero n r d, h⟩
theorem rv_b {R : List (Int × Int)} (g : ROk R) (d : Int) (h : 0 ≤ d) : 0 ≤ gv R d ∧ gv R d ≤ 10000 := by
  obtain ⟨q, e⟩ := g.h d h
  unfold gv
  rw [e]
  exact g.b q (hld_mem e)
theorem held_r {R : List (Int × Int)} (g : ROk R) (d : Int) (h : 0 ≤ d) : f_held [.list (R.map tup2), .int d] = .ok (.int (gv R d)) := by
  rw [held_ok]
  obtain ⟨q, e⟩ := g.h d h
  unfold gv
  rw [e]
def growD (M R : List (Int × Int)) (d : Nat) : Int := bal M d * gv R d
theorem balance_ok (M : List (Int × Int)) (hM : M.length ≤ 100000) (d : Int) : f_balance [.list (M.map tup2), .int d] = .ok (.int (bal M d)) := by
  have lc : lcRun false 2 (some (xBin oLe (xBin oIxT (xVar 2) (xLit (.int 0))) (xVar 1))) (xBin oIxT (xVar 2) (xLit (.int 1))) [some (.d (.list (M.map tup2))), some (.d (.int d)), none] (M.map tup2) [] = .ok (.d (.list (((M.filter fun p => decide (p.1 ≤ d)).map (·.2)).map .int))) [] := by
    rw [List.map_map]
    refine lcRun_map tup2 (fun p => decide (p.1 ≤ d)) (fun p => .int p.2) M (fun b _ => ?_) (fun b _ _ => ?_) hM
    · simp [tup2]
    · simp [tup2]
  have h : sm_balance (initE 3 [.d (.list (M.map tup2)), .d (.int d)]) [] = .ok (.rt (.d (.int (bal M d)))) [] := by
    unfold sm_balance
    rw [ret_of (d := .d (.int (bal M d))) (w1 := [])]
    rw [xCall_ap, xCons_ap, xLc_ap, show (xVar 0) (initE 3 [.d (.list (M.map tup2)), .d (.int d)]) [] = .ok (.d (.list (M.map tup2))) [] from rfl, bind_ok]
    simp only
    rw [show initE 3 [.d (.list (M.map tup2)), .d (.int d)] = [some (.d (.list (M.map tup2))), some (.d (.int d)), none] from rfl, lc, bind_ok, xNil_ap, bind_ok, bind_ok, oSumL_ints]
    rfl
  show finP (sm_balance (initE 3 [.d (.list (M.map tup2)), .d (.int d)]) []) = _
  rw [h]
  rfl
theorem bal_same (M : List (Int × Int)) (d e u : Int) (h1 : d ≤ e) (h2 : e ≤ u) (h : ∀ p ∈ M, ¬ (d < p.1 ∧ p.1 ≤ u)) : bal M e = bal M d := by
  unfold bal
  congr 2
  refine List.filter_congr fun p m => ?_
  have := h p m
  rw [Bool.eq_iff_iff, decide_eq_true_eq, decide_eq_true_eq]
  omega
theorem bal_none (M : List (Int × Int)) (d : Int) (h : ∀ p ∈ M, d < p.1) : bal M d = 0 := by
  unfold bal
  rw [List.filter_eq_nil_iff.mpr fun p m => by have := h p m; simp; omega]
  rfl
def gwEnv (M R : List (Int × Int)) (b : Int) (x : Int × Int × Option DV) : En := [some (.d (.list (M.map tup2))), some (.d (.list (R.map tup2))), some (.d (.int b)), some (.d (.int x.1)), some (.d (.int x.2.1)), x.2.2]
def gwU (M R : List (Int × Int)) (b d : Int) : Int := unch R d (unch M d b)
def gwStep (M R : List (Int × Int)) (b : Int) (x : Int × Int × Option DV) : Int × Int × Option DV :=
  (x.1 + bal M x.2.1 * gv R x.2.1 * (gwU M R b x.2.1 - x.2.1 + 1), gwU M R b x.2.1 + 1, some (.d (.int (gwU M R b x.2.1))))
theorem gw_body (M : List (Int × Int)) (hM : M.length ≤ 100000) {R : List (Int × Int)} (g : ROk R) (b : Int) (x : Int × Int × Option DV) (h0 : 0 ≤ x.2.1) (h1 : gwU M R b x.2.1 ≤ 99999) (h2 : x.2.1 ≤ gwU M R b x.2.1) : sm_grown_l1 (gwEnv M R b x) [] = .ok (.nx (gwEnv M R b (gwStep M R b x))) [] := by
  have r := held_r g x.2.1 h0
  obtain ⟨r0, r1⟩ := rv_b g x.2.1 h0
  have bb := balance_ok M hM x.2.1
  have x1 : -18446744073709551616 < gv R x.2.1 := by omega
  have x2 : gv R x.2.1 < 18446744073709551616 := by omega
  have x3 : -18446744073709551616 < unch R x.2.1 (unch M x.2.1 b) - x.2.1 + 1 := by unfold gwU at h1 h2; omega
  have x4 : unch R x.2.1 (unch M x.2.1 b) - x.2.1 + 1 < 18446744073709551616 := by unfold gwU at h1 h2; omega
  unfold sm_grown_l1 gwEnv gwStep gwU
  simp [unch_ok, r, bb, x1, x2, x3, x4]
theorem grown_ok (M : List (Int × Int)) (hM : M.length ≤ 100000) {R : List (Int × Int)} (g : ROk R) (b : Int) (hb : b ≤ 99999) : f_grown [.list (M.map tup2), .list (R.map tup2), .int b] = .ok (.int (sumF (growD M R) 0 (b + 1).toNat / 3650000)) := by
  obtain ⟨x, ⟨p1, p2, p3⟩, t, e⟩ := while_spec (x := sm_grown_l2) (s := sm_grown_l1) (w := []) (gwEnv M R b) (fun x => 0 ≤ x.2.1 ∧ (x.2.1 ≤ b + 1 ∨ x.2.1 = 0) ∧ x.1 = sumF (growD M R) 0 x.2.1.toNat) (fun x => decide (x.2.1 ≤ b)) (gwStep M R b) (fun x => (b + 1 - x.2.1).toNat)
    (by
      intro x _
      unfold sm_grown_l2 gwEnv
      simp)
    (by
      intro ⟨T, d, u⟩ ⟨p1, p2, p3⟩ t
      have t := of_decide_eq_true t
      simp only at p1 p2 p3 t
      have f1 := ufold d M b t
      have f2 := ufold d R _ f1.1
      have hu : gwU M R b d = List.foldl (ustep d) (List.foldl (ustep d) b M) R := rfl
      rw [← hu] at f2
      obtain ⟨f21, f22, f23⟩ := f2
      obtain ⟨f11, f12, f13⟩ := f1
      have hS : ∀ p ∈ M, ¬ (d < p.1 ∧ p.1 ≤ gwU M R b d) := fun p hp => by
        have := f13 p hp
        omega
      refine ⟨gw_body M hM g b (T, d, u) p1 (by simp only; omega) f21, ⟨?_, .inl ?_, ?_⟩, ?_⟩
      · show 0 ≤ gwU M R b d + 1
        omega
      · show gwU M R b d + 1 ≤ b + 1
        omega
      · show T + bal M d * gv R d * (gwU M R b d - d + 1) = sumF (growD M R) 0 (gwU M R b d + 1).toNat
        have e1 : (gwU M R b d + 1).toNat = d.toNat + (gwU M R b d + 1 - d).toNat := by omega
        rw [e1, sumF_add, Nat.zero_add, p3, sumF_const (growD M R) d.toNat (bal M d * gv R d) _ fun j hj => by
          have hj2 : ((d.toNat + j : Nat) : Int) = d + j := by omega
          unfold growD
          rw [hj2, bal_same M d (d + j) (gwU M R b d) (by omega) (by omega) hS]
          unfold gv
          rw [hld_same R d (d + j) (gwU M R b d) (by omega) (by omega) f23]]
        rw [show (((gwU M R b d + 1 - d).toNat : Nat) : Int) = gwU M R b d - d + 1 by omega]
      · show (b + 1 - (gwU M R b d + 1)).toNat < (b + 1 - d).toNat
        omega) 100001 (0, 0, none) ⟨Int.le_refl _, .inr rfl, rfl⟩ (by show (b + 1 - 0).toNat < 100001; omega)
  obtain ⟨T, d, u⟩ := x
  simp only at p1 p2 p3
  have t : b < d := by simpa using t
  have ex : sumF (growD M R) 0 (b + 1).toNat = T := by
    rw [p3]
    congr 1
    omega
  have hd : sm_grown (initE 6 [.d (.list (M.map tup2)), .d (.list (R.map tup2)), .d (.int b)]) [] = .ok (.rt (.d (.int (T / 3650000)))) [] := by
    unfold gwEnv at e
    unfold sm_grown
    simp at e
    simp [e]
  show finP (sm_grown (initE 6 [.d (.list (M.map tup2)), .d (.list (R.map tup2)), .d (.int b)]) []) = _
  rw [hd, ex]
  rfl
end LW

set_option Elab.async false
set_option linter.all false
set_option maxRecDepth 100000
set_option maxHeartbeats 4000000
namespace LW
open PySem PySem.Spec PyProof.Rows L2 RK
@[simp] theorem whole_law (i) : f_law_whole [.int i] = .ok (.bool true) := nr rfl
theorem law_base_ok (c : Int) : ∃ r : Nat, r ≤ 99600 ∧ f_law_base [.int c] = .ok (.int (r : Int)) := by
  have key : ∃ r : Int, 0 ≤ r ∧ r ≤ 99600 ∧ f_law_base [.int c] = .ok (.int r) := by
    unfold f_law_base sm_law_base
    by_cases h : c % 3 = 1
    · obtain ⟨y, hy, e⟩ := at_modI [0, 20, 50, 360, 1140, 36500, 36560, 73040, 99600] (c / 3) 9 rfl (by omega)
      simp only [List.map] at e
      refine ⟨y, ?_, ?_, ?_⟩
      · simp only [List.mem_cons, List.not_mem_nil, or_false] at hy
        omega
      · simp only [List.mem_cons, List.not_mem_nil, or_false] at hy
        omega
      · simp [h, e]
    · exact ⟨c / 3 % 99600, by omega, by omega, by simp [h]⟩
  obtain ⟨d, h1, h2, e⟩ := key
  exact ⟨d.toNat, by omega, by rw [Int.toNat_of_nonneg h1]; exact e⟩
theorem law_held_eq : f_law_held = f_pair_held := rfl
theorem law_held_ok (rows : List (Int × Int)) (d : Int) : f_law_held [.list (rows.map tup2), .int d] = .ok (optd (hld rows d)) := by
  rw [law_held_eq]
  exact pair_held_ok rows d
theorem shp_hand (S G : List (Int × Int)) : SeqAt.shaped (.tuple [.list (S.map tup2), .list (G.map tup2)]) = true := (Shp.tuple (n := 2) fun x h => by
  simp only [List.mem_cons, List.not_mem_nil, or_false] at h
  rcases h with rfl | rfl <;> exact shp_rows _).ok (by decide)
/-! the moves -/
structure MvS where
  acc : List (Int × Int)
  k : Option DV
  m : Option DV
  c : Option DV
def mvEnv (S : DV) (b v : Int) (a : MvS) : En := [some S, some (.d (.int b)), some (.d (.int v)), some (.loc 0), a.k, a.m, a.c]
def mvWd (a : MvS) : Wd := [.lst ((a.acc.map tup2).map .d)]
theorem moves_loop (ns : List Int) (b v : Int) (n : Nat) (hn : n ≤ 100) : ∃ x : MvS, (x.acc.length = n ∧ ∀ p ∈ x.acc, b ≤ p.1) ∧ forD (gNm 4) sm_law_moves_l1 (rngD 0 n) (mvEnv (.d (.list (ns.map .int))) b v ⟨[], none, none, none⟩) (mvWd ⟨[], none, none, none⟩) = .ok (.nx (mvEnv (.d (.list (ns.map .int))) b v x)) (mvWd x) := by
  refine forR0_ex (mvEnv (.d (.list (ns.map .int))) b v) mvWd (fun k a => a.acc.length = k ∧ ∀ p ∈ a.acc, b ≤ p.1) n _ ⟨rfl, fun p h => by cases h⟩ ?_
  intro ⟨acc, k, m, c⟩ j hj ⟨p, q⟩
  have p : acc.length = j := p
  have hl : acc.length < 100000 := by omega
  obtain ⟨y, hy, ey⟩ := at_modI [mix (cell ns 2) j / 50 % 90000, 1000000000, mix (mix (cell ns 2) j) 4 * 997 % 1000000001] (mix (cell ns 2) j / 7) 3 rfl (by omega)
  simp only [List.map] at ey
  have x1 : -18446744073709551616 < 1 - 2 * (mix (cell ns 2) j / 11 % 2) := by omega
  have x2 : 1 - 2 * (mix (cell ns 2) j / 11 % 2) < 18446744073709551616 := by omega
  refine ⟨_, ⟨acc ++ [(b + mix (cell ns 2) j % 50, y * (1 - 2 * (mix (cell ns 2) j / 11 % 2)))], some (.d (.int j)), some (.d (.int (mix (cell ns 2) j))), some (.d (.int y))⟩, rfl, .inl ?_, ?_, fun x hx => ?_⟩
  · unfold sm_law_moves_l1 mvEnv mvWd
    simp [c2, mix_ok, hl, tup2, ey, x1, x2]
  · simp [p]
  · rcases List.mem_append.mp hx with h | h
    · exact q x h
    · rw [List.mem_singleton] at h
      subst h
      simp only
      omega
theorem law_moves_ok (ns : List Int) (b : Int) : ∃ M : List (Int × Int), M.length ≤ 100 ∧ (∀ p ∈ M, b ≤ p.1) ∧ f_law_moves [.list (ns.map .int), .int b] = .ok (.list (M.map tup2)) := by
  obtain ⟨v, hv, ev⟩ : ∃ v : Nat, v ≤ 100 ∧ (if cell ns 1 / 6 % 8 = 1 then cell ns 1 % 6 * 8 else cell ns 1 % 6) = (v : Int) := by
    refine ⟨(if cell ns 1 / 6 % 8 = 1 then cell ns 1 % 6 * 8 else cell ns 1 % 6).toNat, ?_, ?_⟩ <;> split <;> omega
  obtain ⟨x, ⟨hx1, hx2⟩, e⟩ := moves_loop ns b v v hv
  have hr := ok_r (v : Int) (by omega) (by omega)
  refine ⟨x.acc, by omega, hx2, ?_⟩
  have hf : sm_law_moves_t2 [some (.d (.list (ns.map .int))), some (.d (.int b)), some (.d (.int (v : Int))), none, none, none, none] [] = .ok (.rt (.loc 0)) (mvWd x) := by
    have h1 : sSet 3 (xLstS xNil) [some (.d (.list (ns.map .int))), some (.d (.int b)), some (.d (.int (v : Int))), none, none, none, none] [] = .ok (.nx (mvEnv (.d (.list (ns.map .int))) b v ⟨[], none, none, none⟩)) (mvWd ⟨[], none, none, none⟩) := rfl
    have h2 : (xVar 2) (mvEnv (.d (.list (ns.map .int))) b v ⟨[], none, none, none⟩) (mvWd ⟨[], none, none, none⟩) = .ok (.d (.int (v : Int))) (mvWd ⟨[], none, none, none⟩) := rfl
    unfold sm_law_moves_t2
    rw [seq_of h1]
    unfold sm_law_moves_t3
    rw [sSeq_ap, sForR1_ap, h2, st_ok]
    simp only [hr, if_true, Int.toNat_natCast]
    rw [e, thenS_nx]
    rfl
  have hd : sm_law_moves (initE 7 [.d (.list (ns.map .int)), .d (.int b)]) [] = sm_law_moves_t2 [some (.d (.list (ns.map .int))), some (.d (.int b)), some (.d (.int (v : Int))), none, none, none, none] [] := by
    unfold sm_law_moves sm_law_moves_t1
    by_cases g : cell ns 1 / 6 % 8 = 1
    · rw [if_pos g] at ev
      simp [c1, g, ev]
    · rw [if_neg g] at ev
      simp [c1, g, ev]
  show finP (sm_law_moves (initE 7 [.d (.list (ns.map .int)), .d (.int b)]) []) = _
  rw [hd, hf, finP_rt, toD_lst 5 _ 0 (x.acc.map tup2) rfl]
/-! the rates -/
structure RtS where
  acc : List (Int × Int)
  k : Option DV
  m : Option DV
def rtEnv (S : DV) (b : Int) (a : RtS) : En := [some S, some (.d (.int b)), some (.loc 0), a.k, a.m]
def rtWd (a : RtS) : Wd := [.lst ((a.acc.map tup2).map .d)]
theorem rates_loop (ns : List Int) (b n0 : Int) (h01 : 0 ≤ n0) (h02 : n0 ≤ 10000) (n : Nat) (hn : n ≤ 100) : ∃ x : RtS, (x.acc.length = n + 1 ∧ (∃ r, x.acc = (0, n0) :: r) ∧ ∀ p ∈ x.acc, 0 ≤ p.2 ∧ p.2 ≤ 10000) ∧ forD (gNm 3) sm_law_rates_l1 (rngD 0 n) (rtEnv (.d (.list (ns.map .int))) b ⟨[(0, n0)], none, none⟩) (rtWd ⟨[(0, n0)], none, none⟩) = .ok (.nx (rtEnv (.d (.list (ns.map .int))) b x)) (rtWd x) := by
  refine forR0_ex (rtEnv (.d (.list (ns.map .int))) b) rtWd (fun k a => a.acc.length = k + 1 ∧ (∃ r, a.acc = (0, n0) :: r) ∧ ∀ p ∈ a.acc, 0 ≤ p.2 ∧ p.2 ≤ 10000) n _ ⟨rfl, ⟨[], rfl⟩, fun p h => by
    rw [List.mem_singleton] at h
    subst h
    exact ⟨h01, h02⟩⟩ ?_
  intro ⟨acc, k, m⟩ j hj ⟨p, ⟨r0, q0⟩, q⟩
  have p : acc.length = j + 1 := p
  have hl : acc.length < 100000 := by omega
  refine ⟨_, ⟨acc ++ [(if b - 4 + mix (cell ns 3) (30 + j) % 54 > 0 then b - 4 + mix (cell ns 3) (30 + j) % 54 else 0, mix (cell ns 3) (30 + j) / 54 % 10001)], some (.d (.int j)), some (.d (.int (mix (cell ns 3) (30 + j))))⟩, rfl, .inl ?_, ?_, ⟨r0 ++ [(if b - 4 + mix (cell ns 3) (30 + j) % 54 > 0 then b - 4 + mix (cell ns 3) (30 + j) % 54 else 0, mix (cell ns 3) (30 + j) / 54 % 10001)], ?_⟩, fun x hx => ?_⟩
  · unfold sm_law_rates_l1 rtEnv rtWd
    simp [c3, mix_ok, hl, tup2]
  · simp [p]
  · have q0 : acc = (0, n0) :: r0 := q0
    rw [q0]
    rfl
  · rcases List.mem_append.mp hx with h | h
    · exact q x h
    · rw [List.mem_singleton] at h
      subst h
      simp only
      omega
theorem law_rates_ok (ns : List Int) (b : Int) : ∃ R : List (Int × Int), ROk R ∧ R.length ≤ 10 ∧ f_law_rates [.list (ns.map .int), .int b] = .ok (.list (R.map tup2)) := by
  obtain ⟨n, hn, en⟩ : ∃ n : Nat, n ≤ 9 ∧ cell ns 3 / 4 % 5 = (n : Int) := ⟨(cell ns 3 / 4 % 5).toNat, by omega, by omega⟩
  obtain ⟨n0, hn0, e0⟩ := at_modI [0, 1, 10000, 350] (cell ns 3) 4 rfl (by omega)
  simp only [List.map] at e0
  have h0 : 0 ≤ n0 ∧ n0 ≤ 10000 := by
    simp only [List.mem_cons, List.not_mem_nil, or_false] at hn0
    omega
  obtain ⟨x, ⟨hx1, ⟨r, hx2⟩, hx3⟩, e⟩ := rates_loop ns b n0 h0.1 h0.2 n (by omega)
  have hr := ok_r (n : Int) (by omega) (by omega)
  refine ⟨x.acc, ?_, by omega, ?_⟩
  · rw [hx2]
    exact rok_zero n0 r fun p h => hx3 p (by rw [hx2]; exact h)
  have hf : sm_law_rates (initE 5 [.d (.list (ns.map .int)), .d (.int b)]) [] = .ok (.rt (.loc 0)) (rtWd x) := by
    unfold rtEnv rtWd at e
    unfold sm_law_rates rtWd
    simp [tup2] at e
    simp [c3, en, e0, hr, e, tup2]
  show finP (sm_law_rates (initE 5 [.d (.list (ns.map .int)), .d (.int b)]) []) = _
  rw [hf, finP_rt, toD_lst 5 _ 0 (x.acc.map tup2) rfl]
/-! the law's own reckoning -/
theorem lb_fold (d : Int) : ∀ (xs : List (Int × Int)) (a : Int × Option DV), (xs.foldl (fun (a : Int × Option DV) p => (if p.1 ≤ d then a.1 + p.2 else a.1, some (DV.d (tup2 p)))) a).1 = a.1 + bal xs d
  | [], a => by simp [bal]
  | x :: xs, a => by
    rw [List.foldl_cons, lb_fold d xs]
    unfold bal
    by_cases h : x.1 ≤ d
    · rw [List.filter_cons_of_pos (by simpa using h)]
      simp [h]
      omega
    · rw [List.filter_cons_of_neg (by simpa using h)]
      simp [h]
theorem law_balance_ok (M : List (Int × Int)) (d : Int) : f_law_balance [.list (M.map tup2), .int d] = .ok (.int (bal M d)) := by
  have e := forM_spec (g := gNm 3) (s := sm_law_balance_l1) tup2 (fun a : Int × Option DV => [some (.d (.list (M.map tup2))), some (.d (.int d)), some (.d (.int a.1)), a.2]) (fun _ => []) (fun a p => (if p.1 ≤ d then a.1 + p.2 else a.1, some (.d (tup2 p)))) M (0, none) (by
    intro ⟨a, k⟩ p _
    refine ⟨_, rfl, ?_⟩
    unfold sm_law_balance_l1
    by_cases h : p.1 ≤ d <;> simp [h, tup2])
  have f := lb_fold d M (0, none)
  simp only [f, Int.zero_add] at e
  unfold f_law_balance sm_law_balance
  simp [e]
theorem law_grown_ok (M : List (Int × Int)) {R : List (Int × Int)} (g : ROk R) (b : Nat) (hb : b ≤ 99999) (c : Int) (hc : c ≤ 99999) (hc0 : 0 ≤ c) (hM : ∀ p ∈ M, (b : Int) ≤ p.1) : f_law_grown [.list (M.map tup2), .list (R.map tup2), .int (b : Int), .int c] = .ok (.int (sumF (growD M R) 0 (c + 1).toNat / 3650000)) := by
  obtain ⟨⟨x, k⟩, p, e⟩ := forR_ex (g := gNm 5) (s := sm_law_grown_l1) (fun a : Int × Option DV => [some (.d (.list (M.map tup2))), some (.d (.list (R.map tup2))), some (.d (.int (b : Int))), some (.d (.int c)), some (.d (.int a.1)), a.2]) (fun _ => []) (fun j x => x.1 = sumF (growD M R) b j) (b : Int) (c + 1 - b).toNat 0 (0, none) rfl (by
    intro ⟨x, k⟩ j _ hj p
    have p : x = sumF (growD M R) b j := p
    obtain ⟨q, eq⟩ := g.h ((b : Int) + j) (by omega)
    have v : gv R ((b : Int) + j) = q.2 := by unfold gv; rw [eq]
    obtain ⟨r0, r1⟩ := g.b q (hld_mem eq)
    have x1 : -18446744073709551616 < q.2 := by omega
    have x2 : q.2 < 18446744073709551616 := by omega
    refine ⟨_, (x + bal M ((b : Int) + j) * q.2, some (.d (.int ((b : Int) + j)))), rfl, .inl ?_, ?_⟩
    · unfold sm_law_grown_l1
      simp [law_balance_ok, law_held_ok, eq, optd, tup2, x1, x2]
    · show x + _ = sumF (growD M R) b j + growD M R (b + j)
      have gd : growD M R (b + j) = bal M ((b : Int) + j) * q.2 := by
        unfold growD
        rw [show ((b + j : Nat) : Int) = (b : Int) + j by omega, v]
      rw [p, gd])
  rw [← rngD_eq] at e
  have p : x = sumF (growD M R) b (c + 1 - b).toNat := by
    have p : x = sumF (growD M R) b (0 + (c + 1 - b).toNat) := p
    rw [p, Nat.zero_add]
  have hr1 := ok_r (b : Int) (by omega) (by omega)
  have hr2 := ok_r (c + 1) (by omega) (by omega)
  have hz := sumF_cut (growD M R) b (c + 1).toNat fun d hd => by
    unfold growD
    rw [bal_none M d fun p hp => by have := hM p hp; omega, Int.zero_mul]
  rw [hz, show (c + 1).toNat - b = (c + 1 - b).toNat by omega, ← p]
  have hd : sm_law_grown (initE 6 [.d (.list (M.map tup2)), .d (.list (R.map tup2)), .d (.int (b : Int)), .d (.int c)]) [] = .ok (.rt (.d (.int (x / 3650000)))) [] := by
    unfold sm_law_grown
    simp at e
    simp [hr1, hr2, e]
  show finP (sm_law_grown (initE 6 [.d (.list (M.map tup2)), .d (.list (R.map tup2)), .d (.int (b : Int)), .d (.int c)]) []) = _
  rw [hd]
  rfl
end LW

set_option Elab.async false
set_option linter.all false
set_option maxRecDepth 100000
set_option maxHeartbeats 4000000
namespace LW
open PySem PySem.Spec PyProof.Rows L2 RK
def lEnv (L : DV) (b : Int) (M R : List (Int × Int)) (c : Int) (f d m : Option DV) : En :=
  [some L, some (.d (.int b)), some (.d (.list (M.map tup2))), some (.d (.list (R.map tup2))), some (.d (.int c)), some (.loc 2), f, d, m, none, none, none]
def lWd (M R : List (Int × Int)) : Wd := [.lst ((M.map tup2).map .d), .lst ((R.map tup2).map .d), .tup [.loc 0, .loc 1]]
def gr (M R : List (Int × Int)) (c : Int) : Int := sumF (growD M R) 0 (c + 1).toNat / 3650000
theorem call_grown (L : DV) (b : Int) (M R : List (Int × Int)) (M' : List (Int × Int)) {R' : List (Int × Int)} (hM : M'.length ≤ 100000) (g : ROk R') (c : Int) (hc : c ≤ 99999) (f d m : Option DV) :
    xCallS f_grown (xCons (xBin oIxT (xVar 5) (xLit (.int 0))) (xCons (xBin oIxT (xVar 5) (xLit (.int 1))) (xCons (xVar 4) xNil))) (lEnv L b M R c f d m) (lWd M' R') = .ok (.d (.int (gr M' R' c))) (lWd M' R') := by
  have hx : xCons (xBin oIxT (xVar 5) (xLit (.int 0))) (xCons (xBin oIxT (xVar 5) (xLit (.int 1))) (xCons (xVar 4) xNil)) (lEnv L b M R c f d m) (lWd M' R') = .ok [.loc 0, .loc 1, .d (.int c)] (lWd M' R') := rfl
  rw [xCallS_ap, hx, bind_ok]
  have mm : mapO (toD 6 (lWd M' R')) [.loc 0, .loc 1, .d (.int c)] = some [.list (M'.map tup2), .list (R'.map tup2), .int c] := by
    rw [mapO_cons, toD_lst 5 (lWd M' R') 0 (M'.map tup2) rfl, mapO_cons, toD_lst 5 (lWd M' R') 1 (R'.map tup2) rfl]
    rfl
  rw [mm]
  simp only [grown_ok M' hM g c hc]
  rfl
theorem call_bal (L : DV) (b : Int) (M R : List (Int × Int)) (hM : M.length ≤ 100000) (c : Int) (f d m : Option DV) :
    xCallS f_balance (xCons (xBin oIxT (xVar 5) (xLit (.int 0))) (xCons (xVar 4) xNil)) (lEnv L b M R c f d m) (lWd M R) = .ok (.d (.int (bal M c))) (lWd M R) := by
  have hx : xCons (xBin oIxT (xVar 5) (xLit (.int 0))) (xCons (xVar 4) xNil) (lEnv L b M R c f d m) (lWd M R) = .ok [.loc 0, .d (.int c)] (lWd M R) := rfl
  rw [xCallS_ap, hx, bind_ok]
  have mm : mapO (toD 6 (lWd M R)) [.loc 0, .d (.int c)] = some [.list (M.map tup2), .int c] := by
    rw [mapO_cons, toD_lst 5 (lWd M R) 0 (M.map tup2) rfl]
    rfl
  rw [mm]
  simp only [balance_ok M hM c]
  rfl
theorem law_last (ns : List Int) (b : Nat) (hb : b ≤ 99600) (M R : List (Int × Int)) (c : Int) (f d m : Option DV) (w : Wd) : finP (sm_law_t14 (lEnv (.d (.list (ns.map .int))) b M R c f d m) w) = .ok (.bool true) := by
  obtain ⟨C, hC1, hC2, eC⟩ : ∃ C : Int, 1 ≤ C ∧ C ≤ 1000000000 ∧ 1 + mix (cell ns 5) 6 * 1009 % 1000000000 = C := ⟨_, by omega, by omega, rfl⟩
  obtain ⟨r, hr1, hr2, er⟩ : ∃ r : Int, 0 ≤ r ∧ r ≤ 10000 ∧ cell ns 5 % 10001 = r := ⟨_, by omega, by omega, rfl⟩
  have p1 : (0 : Int) < 100000 - b := by omega
  have p2 := Int.emod_nonneg (mix (cell ns 5) 7) (show (100000 : Int) - b ≠ 0 by omega)
  have p3 := Int.emod_lt_of_pos (mix (cell ns 5) 7) p1
  have p1' : (b : Int) < 100000 := by omega
  obtain ⟨F, hF1, hF2, eF⟩ : ∃ F : Int, (b : Int) ≤ F ∧ F ≤ 99999 ∧ (b : Int) + mix (cell ns 5) 7 % (100000 - b) = F := ⟨_, by omega, by omega, rfl⟩
  have gk : ROk [(0, r)] := rok_zero r [] fun p hp => by
    rw [List.mem_singleton] at hp
    subst hp
    exact ⟨hr1, hr2⟩
  have gw := grown_ok [((b : Int), C)] (by simp) gk F hF2
  have hz := sumF_cut (growD [((b : Int), C)] [(0, r)]) b (F + 1).toNat fun d hd => by
    unfold growD
    rw [bal_none _ d fun p hp => by
      rw [List.mem_singleton] at hp
      subst hp
      simp only
      omega, Int.zero_mul]
  have hc := sumF_const (growD [((b : Int), C)] [(0, r)]) b (C * r) ((F + 1).toNat - b) fun j hj => by
    have h1 : (b : Int) ≤ ((b + j : Nat) : Int) := by omega
    have h2 : (0 : Int) ≤ ((b + j : Nat) : Int) := by omega
    simp only [growD, bal, gv, hld, hstep, List.foldl, List.filter, h1, h2, decide_true, if_true, List.map, List.sum_cons, List.sum_nil, Int.add_zero]
  rw [hz, hc, show (((F + 1).toNat - b : Nat) : Int) = F - b + 1 by omega] at gw
  simp only [List.map, tup2] at gw
  have x1 : -18446744073709551616 < C := by omega
  have x2 : C < 18446744073709551616 := by omega
  have x3 : -18446744073709551616 < F - b + 1 := by omega
  have x4 : F - b + 1 < 18446744073709551616 := by omega
  unfold sm_law_t14 sm_law_t15 sm_law_t16 sm_law_t17 lEnv
  simp [c5, mix_ok, eC, er, p1', eF, gw, x1, x2, x3, x4]
theorem law_mid (ns : List Int) (b : Nat) (hb : b ≤ 99600) (M : List (Int × Int)) {R : List (Int × Int)} (hM : M.length ≤ 100) (hMb : ∀ p ∈ M, (b : Int) ≤ p.1) (g : ROk R) (c : Int) (hc : c ≤ 99999) (hc0 : 0 ≤ c) :
    finP (sm_law_t4 [some (.d (.list (ns.map .int))), some (.d (.int (b : Int))), some (.d (.list (M.map tup2))), some (.d (.list (R.map tup2))), some (.d (.int c)), none, none, none, none, none, none, none] []) = .ok (.bool true) := by
  have fin := law_last ns b hb M R c
  generalize (DV.d (.list (ns.map .int))) = L at fin ⊢
  have k4 : sm_law_t4 [some L, some (.d (.int (b : Int))), some (.d (.list (M.map tup2))), some (.d (.list (R.map tup2))), some (.d (.int c)), none, none, none, none, none, none, none] [] = sm_law_t5 (lEnv L b M R c none none none) (lWd M R) := by
    unfold sm_law_t4
    rw [seq_of (e1 := lEnv L b M R c none none none) (w1 := lWd M R) rfl]
  rw [k4]
  generalize hF : PyData.tuple [.int (bal M c), .int (gr M R c)] = fnd
  have cb := call_bal L b M R (by omega) c none none none
  have cg := call_grown L b M R M (by omega) g c hc none none none
  have k5 : sm_law_t5 (lEnv L b M R c none none none) (lWd M R) = sm_law_t6 (lEnv L b M R c (some (.d fnd)) none none) (lWd M R) := by
    unfold sm_law_t5
    have x : xTup (xCons (xCallS f_balance (xCons (xBin oIxT (xVar 5) (xLit (.int 0))) (xCons (xVar 4) xNil))) (xCons (xCallS f_grown (xCons (xBin oIxT (xVar 5) (xLit (.int 0))) (xCons (xBin oIxT (xVar 5) (xLit (.int 1))) (xCons (xVar 4) xNil)))) xNil)) (lEnv L b M R c none none none) (lWd M R) = .ok (.d fnd) (lWd M R) := by
      rw [xTup_ap, xCons_ap, cb, bind_ok, xCons_ap, cg, bind_ok, xNil_ap, bind_ok, bind_ok, bind_ok, ← hF]
      rfl
    rw [seq_of (set_of x)]
    rfl
  rw [k5]
  have n1 : xBin oNe (xVar 5) (xTup (xCons (xVar 2) (xCons (xVar 3) xNil))) (lEnv L b M R c (some (.d fnd)) none none) (lWd M R) = .ok (.d (.bool false)) (lWd M R) := by
    refine bin_of (x := .loc 2) (y := .d (.tuple [.list (M.map tup2), .list (R.map tup2)])) (w1 := lWd M R) (w2 := lWd M R) rfl rfl ?_
    have t : toD 6 (lWd M R) (.loc 2) = some (.tuple [.list (M.map tup2), .list (R.map tup2)]) := by
      show (mapO (toD 5 (lWd M R)) [.loc 0, .loc 1]).map PyData.tuple = _
      rw [mapO_cons, toD_lst 4 (lWd M R) 0 (M.map tup2) rfl, mapO_cons, toD_lst 4 (lWd M R) 1 (R.map tup2) rfl]
      rfl
    unfold oNe
    rw [t, toD_d]
    simp only [shp_hand, Bool.and_self, if_true, shaped_refl (shp_hand M R), Bool.not_true]
  have k6 : sm_law_t6 (lEnv L b M R c (some (.d fnd)) none none) (lWd M R) = sm_law_t7 (lEnv L b M R c (some (.d fnd)) none none) (lWd M R) := by
    unfold sm_law_t6
    have a1 : xCons (xBin oIxT (xVar 6) (xLit (.int 0))) xNil (lEnv L b M R c (some (.d fnd)) none none) (lWd M R) = .ok [.d (.int (bal M c))] (lWd M R) := by rw [← hF]; rfl
    have a2 : xCons (xBin oIxT (xVar 6) (xLit (.int 1))) xNil (lEnv L b M R c (some (.d fnd)) none none) (lWd M R) = .ok [.d (.int (gr M R c))] (lWd M R) := by rw [← hF]; rfl
    rw [sSeq_ap, if_of (or_of n1 (fun _ => or_of (not_of (callP_of (d := .bool true) a1 rfl (whole_law _))) (fun _ => not_of (callP_of (d := .bool true) a2 rfl (whole_law _))) rfl) rfl)]
    simp
  rw [k6]
  have lb := law_balance_ok M c
  have lg := law_grown_ok M g b (by omega) c hc hc0 hMb
  have k7 : sm_law_t7 (lEnv L b M R c (some (.d fnd)) none none) (lWd M R) = sm_law_t8 (lEnv L b M R c (some (.d fnd)) (some (.d fnd)) none) (lWd M R) := by
    unfold sm_law_t7
    have x : xTup (xCons (xCallP f_law_balance (xCons (xVar 2) (xCons (xVar 4) xNil))) (xCons (xCallP f_law_grown (xCons (xVar 2) (xCons (xVar 3) (xCons (xVar 1) (xCons (xVar 4) xNil))))) xNil)) (lEnv L b M R c (some (.d fnd)) none none) (lWd M R) = .ok (.d fnd) (lWd M R) := by
      rw [xTup_ap, xCons_ap, callP_of (ds := [.d (.list (M.map tup2)), .d (.int c)]) rfl rfl lb, bind_ok, xCons_ap, callP_of (ds := [.d (.list (M.map tup2)), .d (.list (R.map tup2)), .d (.int b), .d (.int c)]) rfl rfl lg, bind_ok, xNil_ap, bind_ok, bind_ok, bind_ok, ← hF]
      rfl
    rw [seq_of (set_of x)]
    rfl
  rw [k7]
  have shf : SeqAt.shaped fnd = true := by
    rw [← hF]
    exact (Shp.tuple (n := 0) fun x h => by
      simp only [List.mem_cons, List.not_mem_nil, or_false] at h
      rcases h with rfl | rfl <;> exact Shp.int _ _).ok (by decide)
  have k8 : sm_law_t8 (lEnv L b M R c (some (.d fnd)) (some (.d fnd)) none) (lWd M R) = sm_law_t9 (lEnv L b M R c (some (.d fnd)) (some (.d fnd)) none) (lWd M R) := by
    unfold sm_law_t8
    rw [sSeq_ap, if_of (bin_of (op := oNe) (x := .d fnd) (y := .d fnd) (w1 := lWd M R) (w2 := lWd M R) rfl rfl (oNe_same fnd _ shf))]
    simp
  rw [k8]
  have h100 : (M.map tup2).length + [tup2 ((b : Int), 3650000)].length ≤ 100000 := by simp; omega
  have k9 : sm_law_t9 (lEnv L b M R c (some (.d fnd)) (some (.d fnd)) none) (lWd M R) = sm_law_t10 (lEnv L b M R c (some (.d fnd)) (some (.d fnd)) (some (.d (.list ((M ++ [((b : Int), 3650000)]).map tup2))))) (lWd M R) := by
    unfold sm_law_t9
    have x : xBin oCat (xVar 2) (xLst (xCons (xTup (xCons (xVar 1) (xCons (xBin oMul (xLit (.int 365)) (xBin oPow (xLit (.int 10)) (xLit (.int 4)))) xNil))) xNil)) (lEnv L b M R c (some (.d fnd)) (some (.d fnd)) none) (lWd M R) = .ok (.d (.list ((M ++ [((b : Int), 3650000)]).map tup2))) (lWd M R) := by
      refine bin_of (x := .d (.list (M.map tup2))) (y := .d (.list [tup2 ((b : Int), 3650000)])) (w1 := lWd M R) (w2 := lWd M R) rfl ?_ ?_
      · unfold lEnv
        simp [tup2]
      · show (if (M.map tup2).length + [tup2 ((b : Int), 3650000)].length ≤ 100000 then Rs.ok (DV.d (.list (M.map tup2 ++ [tup2 ((b : Int), 3650000)]))) (lWd M R) else .bad) = _
        rw [if_pos h100, List.map_append]
        rfl
    rw [seq_of (set_of x)]
    rfl
  rw [k9]
  generalize hN : M ++ [((b : Int), 3650000)] = N
  have hNl : N.length ≤ 200 := by rw [← hN]; simp; omega
  have hNb : ∀ p ∈ N, (b : Int) ≤ p.1 := fun p hp => by
    rw [← hN] at hp
    rcases List.mem_append.mp hp with h | h
    · exact hMb p h
    · rw [List.mem_singleton] at h
      subst h
      exact Int.le_refl _
  have k10 : sm_law_t10 (lEnv L b M R c (some (.d fnd)) (some (.d fnd)) (some (.d (.list (N.map tup2))))) (lWd M R) = sm_law_t11 (lEnv L b M R c (some (.d fnd)) (some (.d fnd)) (some (.d (.list (N.map tup2))))) (lWd N R) := by
    unfold sm_law_t10
    have x : xApp (xBin oIxT (xVar 5) (xLit (.int 0))) (xBin oIxL (xVar 8) (xNeg (xLit (.int 1)))) (lEnv L b M R c (some (.d fnd)) (some (.d fnd)) (some (.d (.list (N.map tup2))))) (lWd M R) = .ok (.d .none) (lWd N R) := by
      have h : (((M.map tup2).map DV.d).length < 100000) := by simp; omega
      have h2 : (lWd M R).set 0 (.lst ((M.map tup2).map DV.d ++ [DV.d (tup2 ((b : Int), 3650000))])) = lWd N R := by
        rw [← hN]
        unfold lWd
        rw [List.map_append, List.map_append]
        rfl
      have ix : xBin oIxL (xVar 8) (xNeg (xLit (.int 1))) (lEnv L b M R c (some (.d fnd)) (some (.d fnd)) (some (.d (.list (N.map tup2))))) (lWd M R) = .ok (.d (tup2 ((b : Int), 3650000))) (lWd M R) := by
        refine bin_of (x := .d (.list (N.map tup2))) (y := .d (.int (-1))) (w1 := lWd M R) (w2 := lWd M R) rfl rfl ?_
        have a : atI (N.map tup2) (-1) = some (tup2 ((b : Int), 3650000)) := by
          unfold atI ixN
          rw [← hN]
          have z1 : (1 : Int) ≤ (M.length : Int) + 1 := by omega
          have z2 : (-1 + ((M.length : Int) + 1)).toNat = M.length := by omega
          simp [z1, z2]
        rw [oIxL_d, a]
      rw [xApp_ap, show xBin oIxT (xVar 5) (xLit (.int 0)) (lEnv L b M R c (some (.d fnd)) (some (.d fnd)) (some (.d (.list (N.map tup2))))) (lWd M R) = .ok (.loc 0) (lWd M R) from rfl, bind_ok,
        show lstAt (lWd M R) (.loc 0) = some (0, (M.map tup2).map .d) from rfl]
      simp only
      rw [ix, bind_ok, show lstAt (lWd M R) (.loc 0) = some (0, (M.map tup2).map .d) from rfl]
      simp only
      rw [if_pos h, h2]
    rw [seq_of (exp_of x)]
  rw [k10]
  have cg2 := call_grown L b M R N (by omega) g c hc (some (.d fnd)) (some (.d fnd)) (some (.d (.list (N.map tup2))))
  have lg2 := law_grown_ok N g b (by omega) c hc hc0 hNb
  have k11 : sm_law_t11 (lEnv L b M R c (some (.d fnd)) (some (.d fnd)) (some (.d (.list (N.map tup2))))) (lWd N R) = sm_law_t12 (lEnv L b M R c (some (.d fnd)) (some (.d fnd)) (some (.d (.list (N.map tup2))))) (lWd N R) := by
    unfold sm_law_t11
    have ar : xCons (xVar 8) (xCons (xVar 3) (xCons (xVar 1) (xCons (xVar 4) xNil))) (lEnv L b M R c (some (.d fnd)) (some (.d fnd)) (some (.d (.list (N.map tup2))))) (lWd N R) = .ok [.d (.list (N.map tup2)), .d (.list (R.map tup2)), .d (.int b), .d (.int c)] (lWd N R) := rfl
    rw [sSeq_ap, if_of (bin_of (op := oNe) cg2 (callP_of ar rfl lg2) (oNe_int _ _ _))]
    simp [gr]
  rw [k11]
  have k12 : sm_law_t12 (lEnv L b M R c (some (.d fnd)) (some (.d fnd)) (some (.d (.list (N.map tup2))))) (lWd N R) = sm_law_t13 (lEnv L b M R c (some (.d fnd)) (some (.d fnd)) (some (.d (.list (N.map tup2))))) (lWd M R) := by
    unfold sm_law_t12
    have x : xPopL (xBin oIxT (xVar 5) (xLit (.int 0))) (lEnv L b M R c (some (.d fnd)) (some (.d fnd)) (some (.d (.list (N.map tup2))))) (lWd N R) = .ok (.d (tup2 ((b : Int), 3650000))) (lWd M R) := by
      have h1 : ((N.map tup2).map DV.d)[((N.map tup2).map DV.d).length - 1]? = some (DV.d (tup2 ((b : Int), 3650000))) := by rw [← hN]; simp
      have h2 : (lWd N R).set 0 (.lst (((N.map tup2).map DV.d).dropLast)) = lWd M R := by
        rw [← hN, List.map_append, List.map_append]
        show [AO.lst (((M.map tup2).map DV.d ++ [DV.d (tup2 ((b : Int), 3650000))]).dropLast), _, _] = _
        rw [List.dropLast_concat]
        rfl
      show (match ((N.map tup2).map DV.d)[((N.map tup2).map DV.d).length - 1]? with
        | some y => Rs.ok y ((lWd N R).set 0 (.lst (((N.map tup2).map DV.d).dropLast)))
        | none => .bad) = _
      rw [h1, h2]
    rw [seq_of (exp_of x)]
  rw [k12]
  have cg3 := call_grown L b M R M (by omega) g c hc (some (.d fnd)) (some (.d fnd)) (some (.d (.list (N.map tup2))))
  have k13 : sm_law_t13 (lEnv L b M R c (some (.d fnd)) (some (.d fnd)) (some (.d (.list (N.map tup2))))) (lWd M R) = sm_law_t14 (lEnv L b M R c (some (.d fnd)) (some (.d fnd)) (some (.d (.list (N.map tup2))))) (lWd M R) := by
    unfold sm_law_t13
    have a2 : xBin oIxT (xVar 7) (xLit (.int 1)) (lEnv L b M R c (some (.d fnd)) (some (.d fnd)) (some (.d (.list (N.map tup2))))) (lWd M R) = .ok (.d (.int (gr M R c))) (lWd M R) := by rw [← hF]; rfl
    rw [sSeq_ap, if_of (bin_of (op := oNe) cg3 a2 (oNe_int _ _ _))]
    simp
  rw [k13]
  exact fin _ _ _ _
theorem law_true : ∀ ns : List Int, ns.length ≤ 63 → f_law [.list (ns.map .int)] = .ok (.bool true) := by
  intro ns _
  obtain ⟨b, hb, eb⟩ := law_base_ok (cell ns 0)
  obtain ⟨M, hM, hMb, eM⟩ := law_moves_ok ns b
  obtain ⟨R, g, hR, eR⟩ := law_rates_ok ns b
  obtain ⟨c, hc0, hc, ec⟩ : ∃ c : Int, 0 ≤ c ∧ c ≤ 99999 ∧ (if (if (b : Int) - 2 + cell ns 4 % 83 > 0 then (b : Int) - 2 + cell ns 4 % 83 else 0) < 99999 then (if (b : Int) - 2 + cell ns 4 % 83 > 0 then (b : Int) - 2 + cell ns 4 % 83 else 0) else 99999) = c := ⟨_, by split <;> (try split) <;> omega, by split <;> (try split) <;> omega, rfl⟩
  have hd : sm_law (initE 12 [.d (.list (ns.map .int))]) [] = sm_law_t4 [some (.d (.list (ns.map .int))), some (.d (.int (b : Int))), some (.d (.list (M.map tup2))), some (.d (.list (R.map tup2))), some (.d (.int c)), none, none, none, none, none, none, none] [] := by
    unfold sm_law sm_law_t1 sm_law_t2 sm_law_t3
    simp [c0, c4, eb, eM, eR, ec]
  show finP (sm_law (initE 12 [.d (.list (ns.map .int))]) []) = _
  rw [hd]
  exact law_mid ns b hb M hM hMb g c hc hc0
end LW

set_option Elab.async false
set_option linter.all false
set_option maxRecDepth 100000
set_option maxHeartbeats 4000000
namespace LW
open PySem PySem.Spec PyProof.Rows L2 RK
theorem fin_law {P : Program} {w : World} {K : PySem.W.Frag} {mg : Str → Option Value} {f : Addr} (T : Txt K mg) (hf : mg ("law" : Str) = some (.ref f)) :
    ∃ (fd : FuncData) (sp : Sp), (∀ (s : Shared) (v : Value), BindsTo s fd ⟨[v], []⟩ [((PySem.Str.ofString "_law_script"), v)]) ∧ (∀ base : Heap, K.In base → base.Ns mainGlobals mg → FnOk P w K mg base (L2.CX P w) 4 f fd [(PySem.Str.ofString "_law_script")] sp) ∧
      ∀ (H : Hp) (a : Addr) (ns : List Int), ns.length ≤ 63 → SqL K H a (ns.map V.int) → sp [.ref a] H (fun v _ => v = .bl true) fun _ _ _ => False := by
  have e := hf.symm.trans T.g_law
  cases e
  obtain ⟨fd, F⟩ := T.F_law
  refine ⟨fd, spP K 1 f_law, fun s v => FunD.bindsA (ps := p_law) F (fun _ _ _ _ _ _ us hl => match us, hl with | [_], _ => rfl) s [v] rfl, fun base _ _ => fnok_law T F, fun H a ns hl hS => law_sp (law_true ns hl) hS⟩
end LW
open PySem PySem.W PySem.Calls PyProof.Rows
set_option maxRecDepth 100000 in
set_option maxHeartbeats 0 in
theorem PySem.Challenge.cw_rentroll_k08_balance_and_growth_holds : PySem.Challenge.rw_rentroll_k08_balance_and_growth.Holds := by
  w_on; o_law
  refine HandSHeadRun.head_any (r := OpenLaw.row PySem.Challenge.rw_rentroll_k08_balance_and_growth) (q := view (OpenLaw.row PySem.Challenge.rw_rentroll_k08_balance_and_growth).prog [18]) (H := LW.hk) (ob := LW.ob) (M := 6000) (loose := LW.loose) (d := HandSHeadRun.topDef (OpenLaw.row PySem.Challenge.rw_rentroll_k08_balance_and_growth).prog 18) (kwd := []) LW.ob_eq
    (by kernel_rfl) (fun s => by kernel_rfl) LW.run (by kernel_rfl) (by kernel_rfl) (by kernel_rfl) (by rfl) (by first | assumption | decide +kernel) (by decide +kernel) ⟨rfl, rfl, rfl, rfl, rfl, by decide +kernel⟩ ?hw ?hc
  case hw => w_witness2
  case hc =>
    refine RK.law_end (lw := PySem.Challenge.rw_rentroll_k08_balance_and_growth) (many := 63) (lev := 4) (arg := (PySem.Str.ofString "_law_script")) rfl (by decide) (by kernel_rfl) ⟨rfl, by decide, by decide⟩ ?F
    intro w mg fa h Y G hmg0
    obtain ⟨K, KX, c⟩ := Y
    have hmg : mg ("law" : PySem.Str) = some (.ref fa) := by
      have e : (HandSHeadRun.topDef (OpenLaw.row PySem.Challenge.rw_rentroll_k08_balance_and_growth).prog 18).name = ("law" : PySem.Str) := by kernel_rfl
      rw [← e]
      exact hmg0
    obtain ⟨fd, sp, hb, hF, hsp⟩ := LW.fin_law (P := (PySem.Challenge.rw_rentroll_k08_balance_and_growth).prog) (w := w) (LW.txt_of KX G c.t.d c.more) hmg
    exact ⟨K, fd, sp, KX, hb, fun H a ns hl hS => hsp H a ns hl hS, hF⟩
