import PyProof.Rows.All
import Wide.All
import OpenK.AllK
import Wide.FinOn
import KE.KStateDown
import Lean
import HandS.Base
import HandS.Call
import HandS.List
import HandS.Ends
import HandS.Comp
import HandS.Deep
import HandS.Dict
import HandS.Iter
import HandS.Text
import HandS.More
import HandS.Exc
import HandS.TryOnly
import HandS.TryMany
import HandS.ExcOwn
import HandS.ExcIs
import HandS.IsInst
import HandS.Evl
import HandS.Words
import HandS.WordsList
import HandS.WordsExc
import HandS.Defaults
import HandS.Head0
import HandS.Head1
import HandS.Head2
import HandS.HeadEnd
import HandS.HeadHook1
import HandS.HeadHook2
import HandS.HeadHook3
import HandS.HeadHook4
import HandS.Style
import HandS.SortInts
import HandS.SetKeys
import PySem.Challenge.RW_rentroll_k14_whole_told_late
set_option Elab.async false
set_option linter.all false
set_option maxRecDepth 100000
set_option maxHeartbeats 4000000
/-! RKit, part A: a small machine of values and stores, and how the layer's heaps stand for it. -/
namespace RK
open PySem PySem.Spec PyProof.Rows L2

/-- a value of the machine: plain data, an object of the store, the caught exception -/
inductive DV where
  | d (x : PyData)
  | loc (l : Nat)
  | exc (c : Str)
inductive AO where
  | lst (xs : List DV)
  | tup (xs : List DV)
  | dct (kvs : List (Key × DV))
  | dcT (kvs : List (List Key × DV))
  | ins (c : Str) (fs : List (Str × DV))
abbrev Wd := List AO
abbrev En := List (Option DV)
inductive Rs (α : Type) where
  | ok (a : α) (w : Wd)
  | ex (c : Str) (w : Wd)
  | bad
def Rs.bind {α β : Type} (r : Rs α) (f : α → Wd → Rs β) : Rs β :=
  match r with
  | .ok a w => f a w
  | .ex c w => .ex c w
  | .bad => .bad
inductive Ct where
  | nx (e : En)
  | rt (d : DV)
  | bk (e : En)
  | ct (e : En)
inductive Rt where
  | ok (c : Ct) (w : Wd)
  | ex (c : Str) (e : En) (w : Wd)
  | bad
abbrev XM := En → Wd → Rs DV
abbrev AM := En → Wd → Rs (List DV)
abbrev SM := En → Wd → Rt

abbrev Ex := Evl.Ex
mutual
theorem dp_mono {K : PySem.W.Frag} {H H' : Hp} (e : Ex H H') : ∀ (d : PyData) (v : V), Dp K H v d → Dp K H' v d
  | .none, _, h => by cases h; exact .non
  | .bool b, _, h => by cases h; exact .bl b
  | .int i, _, h => by cases h; exact .int i
  | .str x, _, h => by cases h; exact .str x
  | .list ds, _, h => by
    cases h with
    | lst hs ha => exact .lst (Evl.ex_l e hs) (dp_monos e ds _ ha)
  | .tuple ds, _, h => by
    cases h with
    | tup hs ha => exact .tup (Evl.ex_t e hs) (dp_monos e ds _ ha)
  | .dict _, _, h => by cases h
theorem dp_monos {K : PySem.W.Frag} {H H' : Hp} (e : Ex H H') : ∀ (ds : List PyData) (vs : List V), DpAll K H vs ds → DpAll K H' vs ds
  | [], _, h => by cases h; exact .nil
  | d :: ds, _, h => by
    cases h with
    | cons h1 h2 => exact .cons (dp_mono e d _ h1) (dp_monos e ds _ h2)
end

section
variable {K : PySem.W.Frag} {α : Addr × Str}
/-- a value of the layer stands for a value of the machine -/
def RD (K : PySem.W.Frag) (ι : List Addr) (G : Hp) (v : V) : DV → Prop
  | .d x => Dp K G v x
  | .loc l => ∃ a, ι[l]? = some a ∧ v = .ref a
  | .exc _ => False
abbrev RDs (K : PySem.W.Frag) (ι : List Addr) (G : Hp) : List V → List DV → Prop := Paired (RD K ι G)
def RKv {κ : Type} (K : PySem.W.Frag) (ι : List Addr) (G : Hp) : List (κ × V) → List (κ × DV) → Prop := Paired fun p q => p.1 = q.1 ∧ RD K ι G p.2 q.2
/-- an object of the heap stands for an object of the store -/
def OR (K : PySem.W.Frag) (ι : List Addr) (G : Hp) (h : Option HO) : AO → Prop
  | .lst xs => ∃ vs, h = some (.lst vs) ∧ RDs K ι G vs xs
  | .tup xs => ∃ vs, h = some (.tup vs) ∧ RDs K ι G vs xs
  | .dct kvs => ∃ ks, h = some (.dK ks) ∧ RKv K ι G ks kvs
  | .dcT kvs => ∃ ks, h = some (.dT ks) ∧ RKv K ι G ks kvs
  | .ins c fs => ∃ dx gs, h = some (.ins (He.ga K c) dx gs) ∧ RKv K ι G gs fs
structure WS (K : PySem.W.Frag) (ι : List Addr) (G H : Hp) (w : Wd) : Prop where
  sub : Ex G H
  nd : ι.Nodup
  len : ι.length = w.length
  out : ∀ a ∈ ι, G a = none
  ob : ∀ (l : Nat) (a : Addr) (o : AO), ι[l]? = some a → w[l]? = some o → OR K ι G (H a) o
/-- a slot: its value, or the caught exception (which stands at α) -/
def SlotR (K : PySem.W.Frag) (α : Addr × Str) (ι : List Addr) (G : Hp) (s : Option V) : Option DV → Prop
  | none => True
  | some (.exc c) => s = some (.ref α.1) ∧ c = α.2
  | some x => ∃ v, s = some v ∧ RD K ι G v x
def EnvR (K : PySem.W.Frag) (α : Addr × Str) (ι : List Addr) (G : Hp) : L2.St → En → Prop := Paired (SlotR K α ι G)
structure Evo (ι : List Addr) (G H : Hp) (ι' : List Addr) (G' H' : Hp) : Prop where
  pre : ∃ new, ι' = ι ++ new ∧ ∀ a ∈ new, H a = none
  g : Ex G G'
  gn : ∀ a, H a ≠ none → G' a = G a
  h : ∀ a o, a ∉ ι → H a = some o → H' a = some o
  dom : ∀ a, H a ≠ none → H' a ≠ none

variable {ι ι' ι'' : List Addr} {G G' G'' H H' H'' : Hp} {w w' : Wd} {v : V} {x : DV}
theorem Evo.refl : Evo ι G H ι G H := ⟨⟨[], by simp, fun a h => by cases h⟩, Evl.Ex.refl _, fun _ _ => rfl, fun _ _ _ e => e, fun _ h => h⟩
theorem Evo.trans (a : Evo ι G H ι' G' H') (b : Evo ι' G' H' ι'' G'' H'') : Evo ι G H ι'' G'' H'' := by
  obtain ⟨n1, e1, f1⟩ := a.pre
  obtain ⟨n2, e2, f2⟩ := b.pre
  refine ⟨⟨n1 ++ n2, by rw [e2, e1, List.append_assoc], fun c hc => ?_⟩, a.g.trans b.g, fun c hc => (b.gn c (a.dom c hc)).trans (a.gn c hc), fun c o hc e => ?_, fun c hc => b.dom c (a.dom c hc)⟩
  · rcases List.mem_append.mp hc with h | h
    · exact f1 c h
    · cases q : H c with
      | none => rfl
      | some o => exact absurd (f2 c h) (a.dom c (by rw [q]; simp))
  · refine b.h c o (fun hm => ?_) (a.h c o hc e)
    rw [e1] at hm
    rcases List.mem_append.mp hm with h | h
    · exact hc h
    · rw [f1 c h] at e; cases e
theorem RD.mono (e : Evo ι G H ι' G' H') (r : RD K ι G v x) : RD K ι' G' v x := by
  cases x with
  | d x => exact dp_mono e.g _ _ r
  | loc l =>
    obtain ⟨a, h1, h2⟩ := r
    obtain ⟨n, e1, _⟩ := e.pre
    refine ⟨a, ?_, h2⟩
    rw [e1, List.getElem?_append_left (List.getElem?_eq_some_iff.mp h1).1]
    exact h1
  | exc c => exact r.elim
theorem RDs.mono (e : Evo ι G H ι' G' H') : ∀ {vs : List V} {xs : List DV}, RDs K ι G vs xs → RDs K ι' G' vs xs
  | _, _, .nil => .nil
  | _, _, .cons r t => .cons (r.mono e) (RDs.mono e t)
theorem RKv.mono {κ : Type} (e : Evo ι G H ι' G' H') : ∀ {vs : List (κ × V)} {xs : List (κ × DV)}, RKv K ι G vs xs → RKv K ι' G' vs xs
  | _, _, .nil => .nil
  | _, _, .cons r t => .cons ⟨r.1, r.2.mono e⟩ (RKv.mono e t)
theorem SlotR.mono {σ : Option V} {d : Option DV} (e : Evo ι G H ι' G' H') (r : SlotR K α ι G σ d) : SlotR K α ι' G' σ d := by
  cases d with
  | none => trivial
  | some x =>
    cases x with
    | exc c => exact r
    | d y => obtain ⟨v, h1, h2⟩ := r; exact ⟨v, h1, h2.mono e⟩
    | loc y => obtain ⟨v, h1, h2⟩ := r; exact ⟨v, h1, h2.mono e⟩
theorem EnvR.mono (e : Evo ι G H ι' G' H') : ∀ {σ : L2.St} {n : En}, EnvR K α ι G σ n → EnvR K α ι' G' σ n
  | _, _, .nil => .nil
  | _, _, .cons r t => .cons (r.mono e) (EnvR.mono e t)
theorem OR.mono (e : Evo ι G H ι' G' H') {h : Option HO} {o : AO} (r : OR K ι G h o) : OR K ι' G' h o := by
  cases o with
  | lst xs => obtain ⟨vs, h1, h2⟩ := r; exact ⟨vs, h1, h2.mono e⟩
  | tup xs => obtain ⟨vs, h1, h2⟩ := r; exact ⟨vs, h1, h2.mono e⟩
  | dct kvs => obtain ⟨vs, h1, h2⟩ := r; exact ⟨vs, h1, h2.mono e⟩
  | dcT kvs => obtain ⟨vs, h1, h2⟩ := r; exact ⟨vs, h1, h2.mono e⟩
  | ins c fs => obtain ⟨dx, vs, h1, h2⟩ := r; exact ⟨dx, vs, h1, h2.mono e⟩
theorem OR.some {h : Option HO} {o : AO} (r : OR K ι G h o) : h ≠ none := by
  cases o with
  | lst xs => obtain ⟨vs, h1, h2⟩ := r; rw [h1]; simp
  | tup xs => obtain ⟨vs, h1, h2⟩ := r; rw [h1]; simp
  | dct kvs => obtain ⟨vs, h1, h2⟩ := r; rw [h1]; simp
  | dcT kvs => obtain ⟨vs, h1, h2⟩ := r; rw [h1]; simp
  | ins c fs => obtain ⟨dx, vs, h1, h2⟩ := r; rw [h1]; simp
theorem EnvR.at_ : ∀ {σ : L2.St} {n : En} {i : Nat} {d : Option DV}, EnvR K α ι G σ n → n[i]? = some d → ∃ s, σ[i]? = some s ∧ SlotR K α ι G s d
  | _, _, 0, d, .cons r t, h => by
    simp only [List.getElem?_cons_zero, Option.some.injEq] at h
    subst h
    exact ⟨_, rfl, r⟩
  | _, _, i + 1, d, .cons r t, h => by
    obtain ⟨v, h1, h2⟩ := EnvR.at_ (i := i) t (by simpa using h)
    exact ⟨v, by simpa using h1, h2⟩
theorem SlotR.val {s : Option V} {d : DV} (r : SlotR K α ι G s (some d)) (h : ∀ c, d ≠ .exc c) : ∃ v, s = some v ∧ RD K ι G v d := by
  cases d with
  | exc c => exact absurd rfl (h c)
  | d y => exact r
  | loc y => exact r
theorem SlotR.of {v : V} {d : DV} (r : RD K ι G v d) : SlotR K α ι G (some v) (some d) := by
  cases d with
  | exc c => exact r.elim
  | d y => exact ⟨v, rfl, r⟩
  | loc y => exact ⟨v, rfl, r⟩
theorem EnvR.set {s : Option V} {d : Option DV} (r : SlotR K α ι G s d) : ∀ {σ : L2.St} {n : En} (i : Nat), EnvR K α ι G σ n → EnvR K α ι G (σ.set i s) (n.set i d)
  | _, _, _, .nil => .nil
  | _, _, 0, .cons q t => .cons r t
  | _, _, i + 1, .cons q t => .cons q (EnvR.set r i t)
/-- the caught exceptions forgotten -/
def clr1 : Option DV → Option DV
  | some (.exc _) => none
  | d => d
def clr (n : En) : En := n.map clr1
theorem EnvR.clr {β : Addr × Str} : ∀ {σ : L2.St} {n : En}, EnvR K α ι G σ n → EnvR K β ι G σ (clr n)
  | _, _, .nil => .nil
  | _, _, .cons (b := b) r t => .cons (by
    cases b with
    | none => trivial
    | some x => cases x with
      | exc c => trivial
      | d y => exact r
      | loc y => exact r) (EnvR.clr t)
/-- the store's objects stand somewhere -/
theorem WS.at_ (s : WS K ι G H w) {l : Nat} {o : AO} (h : w[l]? = some o) : ∃ a, ι[l]? = some a ∧ OR K ι G (H a) o := by
  have hl : l < ι.length := by rw [s.len]; exact (List.getElem?_eq_some_iff.mp h).1
  refine ⟨ι[l], by simp [hl], s.ob l _ o (by simp [hl]) h⟩
theorem WS.dom (s : WS K ι G H w) {a : Addr} (h : a ∈ ι) : H a ≠ none := by
  obtain ⟨l, hl, e⟩ := List.mem_iff_getElem.mp h
  have hw : l < w.length := by rw [← s.len]; exact hl
  exact (s.ob l a w[l] (by rw [← e]; simp [hl]) (by simp [hw])).some
/-- new data laid at p -/
theorem Evo.newD {p : Addr} {o : HO} (s : Ex G H) (hp : H p = none) : Evo ι G H ι (upd G p o) (upd H p o) := by
  have gp : G p = none := Evl.fresh_back s hp
  refine ⟨⟨[], by simp, fun a h => by cases h⟩, Evl.Ex.new gp, fun a ha => upd_ne (fun e => ha (by rw [e]; exact hp)), fun a u _ e => ?_, fun a ha => ?_⟩
  · rw [upd_ne (ne_of_none e hp)]; exact e
  · rw [upd_ne (fun e => ha (by rw [e]; exact hp))]; exact ha
theorem WS.newD {p : Addr} {o : HO} (s : WS K ι G H w) (hp : H p = none) : WS K ι (upd G p o) (upd H p o) w := by
  have E : Evo ι G H ι (upd G p o) (upd H p o) := Evo.newD s.sub hp
  refine ⟨fun a u e => ?_, s.nd, s.len, fun a ha => ?_, fun l a o' h1 h2 => ?_⟩
  · by_cases h : a = p
    · subst h; rw [upd_same] at e ⊢; exact e
    · rw [upd_ne h] at e ⊢; exact s.sub a u e
  · have : a ≠ p := fun e => s.dom ha (by rw [e]; exact hp)
    rw [upd_ne this]; exact s.out a ha
  · have : a ≠ p := fun e => s.dom (List.mem_of_getElem? h1) (by rw [e]; exact hp)
    rw [upd_ne this]
    exact (s.ob l a o' h1 h2).mono E
/-- a new object of the store laid at p -/
theorem Evo.newL {p : Addr} {o : HO} (hp : H p = none) : Evo ι G H (ι ++ [p]) G (upd H p o) := by
  refine ⟨⟨[p], rfl, fun a h => ?_⟩, Evl.Ex.refl _, fun a ha => rfl, fun a u _ e => ?_, fun a ha => ?_⟩
  · have : a = p := by simpa using h
    rw [this]; exact hp
  · rw [upd_ne (ne_of_none e hp)]; exact e
  · rw [upd_ne (fun e => ha (by rw [e]; exact hp))]; exact ha
theorem WS.newL {p : Addr} {o : HO} {ao : AO} (s : WS K ι G H w) (hp : H p = none) (ho : OR K (ι ++ [p]) G (some o) ao) : WS K (ι ++ [p]) G (upd H p o) (w ++ [ao]) := by
  have E : Evo ι G H (ι ++ [p]) G (upd H p o) := Evo.newL hp
  have np : p ∉ ι := fun h => s.dom h hp
  refine ⟨fun a u e => ?_, ?_, by simp [s.len], fun a ha => ?_, fun l a o' h1 h2 => ?_⟩
  · have := s.sub a u e
    rw [upd_ne (ne_of_none this hp)]; exact this
  · refine List.nodup_append.mpr ⟨s.nd, by simp, fun a ha b hb => ?_⟩
    have : b = p := by simpa using hb
    rw [this]; rintro rfl; exact np ha
  · rcases List.mem_append.mp ha with h | h
    · exact s.out a h
    · have : a = p := by simpa using h
      rw [this]; exact Evl.fresh_back s.sub hp
  · by_cases hl : l < ι.length
    · rw [List.getElem?_append_left hl] at h1
      rw [List.getElem?_append_left (by rw [← s.len]; exact hl)] at h2
      have : a ≠ p := fun e => np (by rw [← e]; exact List.mem_of_getElem? h1)
      rw [upd_ne this]
      exact (s.ob l a o' h1 h2).mono E
    · have hl' : l = ι.length := by
        have := (List.getElem?_eq_some_iff.mp h1).1
        simp at this; omega
      subst hl'
      have e1 : a = p := by simpa using h1.symm
      have e2 : o' = ao := by
        rw [s.len] at h2
        simpa using h2.symm
      rw [e1, e2, upd_same]; exact ho
/-- an object of the store is changed -/
theorem Evo.write {l : Nat} {a : Addr} {o : HO} (h : ι[l]? = some a) : Evo ι G H ι G (upd H a o) := by
  refine ⟨⟨[], by simp, fun a h => by cases h⟩, Evl.Ex.refl _, fun a ha => rfl, fun b u hb e => ?_, fun b hb => ?_⟩
  · have : b ≠ a := fun z => hb (by rw [z]; exact List.mem_of_getElem? h)
    rw [upd_ne this]; exact e
  · by_cases z : b = a
    · rw [z, upd_same]; simp
    · rw [upd_ne z]; exact hb
theorem WS.write {l : Nat} {a : Addr} {o : HO} {ao : AO} (s : WS K ι G H w) (h : ι[l]? = some a) (ho : OR K ι G (some o) ao) : WS K ι G (upd H a o) (w.set l ao) := by
  refine ⟨fun b u e => ?_, s.nd, by simp [s.len], s.out, fun j b o' h1 h2 => ?_⟩
  · have hb : b ≠ a := fun z => by
      have := s.out a (List.mem_of_getElem? h)
      rw [z, this] at e; cases e
    rw [upd_ne hb]; exact s.sub b u e
  · by_cases hj : j = l
    · subst hj
      rw [h] at h1; cases h1
      have hl : j < w.length := by rw [← s.len]; exact (List.getElem?_eq_some_iff.mp h).1
      rw [List.getElem?_set_self hl] at h2
      cases h2
      rw [upd_same]; exact ho
    · have hb : b ≠ a := fun z => hj (by
        subst z
        exact L2.nd_ix s.nd h1 h)
      rw [upd_ne hb]
      rw [List.getElem?_set_ne (Ne.symm hj)] at h2
      exact s.ob j b o' h1 h2

/-! ### plain data out of the store -/
def mapO (f : DV → Option PyData) : List DV → Option (List PyData)
  | [] => some []
  | x :: xs => match f x with
    | none => none
    | some y => (mapO f xs).map (y :: ·)
def toD : Nat → Wd → DV → Option PyData
  | 0, _, x => match x with
    | .d y => some y
    | _ => none
  | n + 1, w, x => match x with
    | .d y => some y
    | .exc _ => none
    | .loc l => match w[l]? with
      | some (.lst xs) => (mapO (toD n w) xs).map .list
      | some (.tup xs) => (mapO (toD n w) xs).map .tuple
      | _ => none
abbrev toDs (n : Nat) (w : Wd) : List DV → Option (List PyData) := mapO (toD n w)
end
end RK

set_option Elab.async false
set_option linter.all false
set_option maxRecDepth 100000
set_option maxHeartbeats 4000000
/-! RKit, part B: the machine's readings and the rules of expressions. -/
namespace RK
open PySem PySem.Spec PyProof.Rows L2

section
variable {K : PySem.W.Frag} {α : Addr × Str}
theorem dp_toD {ι : List Addr} {G G1 H : Hp} {w : Wd} (s : WS K ι G H w) (hG : Ex G G1) (hι : ∀ a ∈ ι, ∀ o, H a = some o → G1 a = some o) :
    ∀ (n : Nat) (x : DV) (v : V) (d : PyData), RD K ι G v x → toD n w x = some d → Dp K G1 v d := by
  intro n
  induction n with
  | zero =>
    intro x v d r e
    cases x with
    | d y => simp only [toD, Option.some.injEq] at e; subst e; exact dp_mono hG _ _ r
    | loc l => simp only [toD] at e; cases e
    | exc c => exact r.elim
  | succ n ih =>
    have all : ∀ (xs : List DV) (vs : List V) (ds : List PyData), RDs K ι G vs xs → mapO (toD n w) xs = some ds → DpAll K G1 vs ds := by
      intro xs
      induction xs with
      | nil => intro vs ds r e; cases r; simp only [mapO, Option.some.injEq] at e; subst e; exact .nil
      | cons x xs ihx =>
        intro vs ds r e
        cases r with
        | cons r1 r2 =>
          simp only [mapO] at e
          cases q : toD n w x with
          | none => rw [q] at e; cases e
          | some y =>
            rw [q] at e
            simp only at e
            cases q2 : mapO (toD n w) xs with
            | none => rw [q2] at e; cases e
            | some ys =>
              rw [q2] at e
              simp only [Option.map_some, Option.some.injEq] at e
              subst e
              exact .cons (ih x _ y r1 q) (ihx _ ys r2 q2)
    intro x v d r e
    cases x with
    | d y => simp only [toD, Option.some.injEq] at e; subst e; exact dp_mono hG _ _ r
    | exc c => simp only [toD] at e; cases e
    | loc l =>
      obtain ⟨a, h1, rfl⟩ := r
      simp only [toD] at e
      cases q : w[l]? with
      | none => rw [q] at e; cases e
      | some o =>
        rw [q] at e
        have ob := s.ob l a o h1 q
        have ha := List.mem_of_getElem? h1
        cases o with
        | lst xs =>
          simp only at e
          cases q2 : mapO (toD n w) xs with
          | none => rw [q2] at e; cases e
          | some ys =>
            rw [q2] at e
            simp only [Option.map_some, Option.some.injEq] at e
            subst e
            obtain ⟨vs, e1, e2⟩ := ob
            exact .lst (Evl.sq_of (hι a ha _ e1)) (all xs vs ys e2 q2)
        | tup xs =>
          simp only at e
          cases q2 : mapO (toD n w) xs with
          | none => rw [q2] at e; cases e
          | some ys =>
            rw [q2] at e
            simp only [Option.map_some, Option.some.injEq] at e
            subst e
            obtain ⟨vs, e1, e2⟩ := ob
            exact .tup (Evl.st_of (hι a ha _ e1)) (all xs vs ys e2 q2)
        | dct kvs => cases e
        | dcT kvs => cases e
        | ins c fs => cases e
/-- .. into the whole heap -/
theorem dp_toDH {ι : List Addr} {G H : Hp} {w : Wd} (s : WS K ι G H w) {n : Nat} {x : DV} {v : V} {d : PyData} (r : RD K ι G v x) (e : toD n w x = some d) : Dp K H v d :=
  dp_toD s s.sub (fun _ _ _ h => h) n x v d r e

/-! ### what is wanted behind -/
def PostE (K : PySem.W.Frag) (Wx : WX) (ι : List Addr) (G H : Hp) (σ : L2.St) (r : Rs DV) (Q : VK) : Prop :=
  match r with
  | .ok d w' => ∀ v ι' G' H', Evo ι G H ι' G' H' → WS K ι' G' H' w' → RD K ι' G' v d → Q v H'
  | .ex c w' => ∀ ι' G' H', Evo ι G H ι' G' H' → WS K ι' G' H' w' → Wx (.ref (He.ga K c)) none σ H'
  | .bad => False
def PostA (K : PySem.W.Frag) (Wx : WX) (ι : List Addr) (G H : Hp) (σ : L2.St) (r : Rs (List DV)) (Q : List V → Hp → Prop) : Prop :=
  match r with
  | .ok d w' => ∀ v ι' G' H', Evo ι G H ι' G' H' → WS K ι' G' H' w' → RDs K ι' G' v d → Q v H'
  | .ex c w' => ∀ ι' G' H', Evo ι G H ι' G' H' → WS K ι' G' H' w' → Wx (.ref (He.ga K c)) none σ H'
  | .bad => False
def cE (K : PySem.W.Frag) (α : Addr × Str) (Wx : WX) (x : XM) : TE := fun σ H Q => ∃ ι G w env, WS K ι G H w ∧ EnvR K α ι G σ env ∧ PostE K Wx ι G H σ (x env w) Q
def cA (K : PySem.W.Frag) (α : Addr × Str) (Wx : WX) (x : AM) : TA := fun σ H Q => ∃ ι G w env, WS K ι G H w ∧ EnvR K α ι G σ env ∧ PostA K Wx ι G H σ (x env w) Q
def cT (K : PySem.W.Frag) (α : Addr × Str) (Wx : WX) (x : XM) : TT := fun σ H Q => cE K α Wx x σ H fun v H1 => ∃ c, v = .bl c ∧ Q c H1
variable {Wx : WX} {ι ι' : List Addr} {G G' H H' : Hp} {w w' : Wd} {σ : L2.St} {Q Q' : VK}
theorem PostE.mono {r : Rs DV} (e : Evo ι G H ι' G' H') (p : PostE K Wx ι G H σ r Q) : PostE K Wx ι' G' H' σ r Q := by
  cases r with
  | ok d w => exact fun v i2 G2 H2 e2 s r => p v i2 G2 H2 (e.trans e2) s r
  | ex c w => exact fun i2 G2 H2 e2 s => p i2 G2 H2 (e.trans e2) s
  | bad => exact p
theorem PostA.mono {r : Rs (List DV)} {Q : List V → Hp → Prop} (e : Evo ι G H ι' G' H') (p : PostA K Wx ι G H σ r Q) : PostA K Wx ι' G' H' σ r Q := by
  cases r with
  | ok d w => exact fun v i2 G2 H2 e2 s r => p v i2 G2 H2 (e.trans e2) s r
  | ex c w => exact fun i2 G2 H2 e2 s => p i2 G2 H2 (e.trans e2) s
  | bad => exact p
theorem PostE.imp {r : Rs DV} (p : PostE K Wx ι G H σ r Q) (k : ∀ v H', Q v H' → Q' v H') : PostE K Wx ι G H σ r Q' := by
  cases r with
  | ok d w => exact fun v i2 G2 H2 e2 s r => k _ _ (p v i2 G2 H2 e2 s r)
  | ex c w => exact p
  | bad => exact p
theorem PostE.bind {r : Rs DV} {f : DV → Wd → Rs DV} (p : PostE K Wx ι G H σ (r.bind f) Q)
    (k : ∀ d w' v ι' G' H', r = .ok d w' → Evo ι G H ι' G' H' → WS K ι' G' H' w' → RD K ι' G' v d → PostE K Wx ι' G' H' σ (f d w') Q → Q' v H') : PostE K Wx ι G H σ r Q' := by
  cases r with
  | ok d w => exact fun v i2 G2 H2 e2 s r => k d w v i2 G2 H2 rfl e2 s r (PostE.mono e2 p)
  | ex c w => exact p
  | bad => exact p
theorem PostE.bindA {r : Rs DV} {f : DV → Wd → Rs (List DV)} {Q : List V → Hp → Prop} (p : PostA K Wx ι G H σ (r.bind f) Q)
    (k : ∀ d w' v ι' G' H', r = .ok d w' → Evo ι G H ι' G' H' → WS K ι' G' H' w' → RD K ι' G' v d → PostA K Wx ι' G' H' σ (f d w') Q → Q' v H') : PostE K Wx ι G H σ r Q' := by
  cases r with
  | ok d w => exact fun v i2 G2 H2 e2 s r => k d w v i2 G2 H2 rfl e2 s r (PostA.mono e2 p)
  | ex c w => exact p
  | bad => exact p
theorem PostA.bind {r : Rs (List DV)} {f : List DV → Wd → Rs DV} {Q' : List V → Hp → Prop} (p : PostE K Wx ι G H σ (r.bind f) Q)
    (k : ∀ d w' v ι' G' H', r = .ok d w' → Evo ι G H ι' G' H' → WS K ι' G' H' w' → RDs K ι' G' v d → PostE K Wx ι' G' H' σ (f d w') Q → Q' v H') : PostA K Wx ι G H σ r Q' := by
  cases r with
  | ok d w => exact fun v i2 G2 H2 e2 s r => k d w v i2 G2 H2 rfl e2 s r (PostE.mono e2 p)
  | ex c w => exact p
  | bad => exact p
theorem PostA.bindA {r : Rs (List DV)} {f : List DV → Wd → Rs (List DV)} {Q Q' : List V → Hp → Prop} (p : PostA K Wx ι G H σ (r.bind f) Q)
    (k : ∀ d w' v ι' G' H', r = .ok d w' → Evo ι G H ι' G' H' → WS K ι' G' H' w' → RDs K ι' G' v d → PostA K Wx ι' G' H' σ (f d w') Q → Q' v H') : PostA K Wx ι G H σ r Q' := by
  cases r with
  | ok d w => exact fun v i2 G2 H2 e2 s r => k d w v i2 G2 H2 rfl e2 s r (PostA.mono e2 p)
  | ex c w => exact p
  | bad => exact p
end

/-! ### judgements weakened -/
section
variable {X : Cx}
theorem pe_imp {e : Expr} {t t' : TE} (h : PE X e t) (i : ∀ σ H Q, t' σ H Q → t σ H Q) : PE X e t' := ⟨fun pins s σ H Q I q => h.run pins s σ H Q I (i σ H Q q)⟩
theorem pt_imp {e : Expr} {t t' : TT} (h : PT X e t) (i : ∀ σ H Q, t' σ H Q → t σ H Q) : PT X e t' := ⟨fun pins s σ H Q I q => h.run pins s σ H Q I (i σ H Q q)⟩
theorem pw_imp {e : Expr} {t t' : TT} (h : PW X e t) (i : ∀ σ H Q, t' σ H Q → t σ H Q) : PW X e t' := ⟨fun wh pins s σ H Q I q => h.run wh pins s σ H Q I (i σ H Q q)⟩
theorem pa_imp {e : List Expr} {t t' : TA} (h : PA X e t) (i : ∀ σ H Q, t' σ H Q → t σ H Q) : PA X e t' := ⟨fun po pins s σ H Q I q => h.run po pins s σ H Q I (i σ H Q q)⟩
theorem ps_imp {e : Stmt} {t t' : TS} (h : PS X e t) (i : ∀ D σ H, t' D σ H → t D σ H) : PS X e t' := ⟨fun pins s σ H D I q => h.run pins s σ H D I (i D σ H q)⟩
theorem pss_imp {e : List Stmt} {t t' : TS} (h : PSs X e t) (i : ∀ D σ H, t' D σ H → t D σ H) : PSs X e t' := ⟨fun pins s σ H D I q => h.run pins s σ H D I (i D σ H q)⟩
end

/-! ### the machine's expressions -/
def xVar (i : Nat) : XM := fun e w => match e[i]? with
  | some (some (.d x)) => .ok (.d x) w
  | some (some (.loc l)) => .ok (.loc l) w
  | _ => .bad
def xLit (d : PyData) : XM := fun _ w => .ok (.d d) w
def xBin (op : DV → DV → Wd → Rs DV) (a b : XM) : XM := fun e w => (a e w).bind fun x w1 => (b e w1).bind fun y w2 => op x y w2
def xAnd (a b : XM) : XM := fun e w => (a e w).bind fun x w1 => match x with
  | .d (.bool p) => if p = true then b e w1 else .ok (.d (.bool false)) w1
  | _ => .bad
def xOr (a b : XM) : XM := fun e w => (a e w).bind fun x w1 => match x with
  | .d (.bool p) => if p = true then .ok (.d (.bool true)) w1 else b e w1
  | _ => .bad
def xNot (a : XM) : XM := fun e w => (a e w).bind fun x w1 => match x with
  | .d (.bool b) => .ok (.d (.bool (!b))) w1
  | _ => .bad
def xChain (op op' : DV → DV → Wd → Rs DV) (a b c : XM) : XM := fun e w => (a e w).bind fun x w1 => (b e w1).bind fun y w2 => (op x y w2).bind fun z w3 => match z with
  | .d (.bool p) => if p = true then (c e w3).bind fun u w4 => op' y u w4 else .ok (.d (.bool false)) w3
  | _ => .bad
def xNil : AM := fun _ w => .ok [] w
def xCons (a : XM) (r : AM) : AM := fun e w => (a e w).bind fun x w1 => (r e w1).bind fun xs w2 => .ok (x :: xs) w2
def allD : List DV → Option (List PyData)
  | [] => some []
  | .d x :: r => (allD r).map (x :: ·)
  | _ :: _ => none
/-- a new tuple, a new list of plain data -/
def xTup (a : AM) : XM := fun e w => (a e w).bind fun xs w1 => match allD xs with
  | some ds => if ds.length ≤ 100000 then .ok (.d (.tuple ds)) w1 else .bad
  | none => .bad
def xLst (a : AM) : XM := fun e w => (a e w).bind fun xs w1 => match allD xs with
  | some ds => if ds.length ≤ 100000 then .ok (.d (.list ds)) w1 else .bad
  | none => .bad
/-- a new list, a new tuple, an object of the store -/
def xLstS (a : AM) : XM := fun e w => (a e w).bind fun xs w1 => if xs.length ≤ 100000 then .ok (.loc w1.length) (w1 ++ [.lst xs]) else .bad
def xTupS (a : AM) : XM := fun e w => (a e w).bind fun xs w1 => if xs.length ≤ 100000 then .ok (.loc w1.length) (w1 ++ [.tup xs]) else .bad

/-! ### operators by values -/
def oI (C : Int → Int → Bool) (g : Int → Int → PyData) : DV → DV → Wd → Rs DV
  | .d (.int i), .d (.int j), w => if C i j = true then .ok (.d (g i j)) w else .bad
  | _, _, _ => .bad
abbrev yes2 : Int → Int → Bool := fun _ _ => true
abbrev oAdd := oI yes2 fun i j => .int (i + j)
abbrev oSub := oI yes2 fun i j => .int (i - j)
abbrev oMul := oI (fun i j => (decide (-(2 ^ 64) < i) && decide (i < 2 ^ 64)) || (decide (-(2 ^ 64) < j) && decide (j < 2 ^ 64))) fun i j => .int (i * j)
abbrev oDiv := oI (fun _ j => decide (0 < j) && decide (j < 1073741824)) fun i j => .int (i / j)
abbrev oMod := oI (fun _ j => decide (0 < j)) fun i j => .int (i % j)
abbrev oPow := oI (fun i j => decide (0 ≤ j) && (decide (j ≤ 1000000) && decide (i.natAbs < 2 ^ 64))) fun i j => .int (i ^ j.toNat)
abbrev oLt := oI yes2 fun i j => .bool (decide (i < j))
abbrev oLe := oI yes2 fun i j => .bool (decide (i ≤ j))
abbrev oGt := oI yes2 fun i j => .bool (decide (j < i))
abbrev oGe := oI yes2 fun i j => .bool (decide (j ≤ i))
def oEq : DV → DV → Wd → Rs DV := fun x y w => match toD 6 w x, toD 6 w y with
  | some a, some b => if (SeqAt.shaped a && SeqAt.shaped b) = true then .ok (.d (.bool (PyData.eqv a b))) w else .bad
  | _, _ => .bad
def oNe : DV → DV → Wd → Rs DV := fun x y w => match toD 6 w x, toD 6 w y with
  | some a, some b => if (SeqAt.shaped a && SeqAt.shaped b) = true then .ok (.d (.bool (!PyData.eqv a b))) w else .bad
  | _, _ => .bad
def isNon : DV → Bool
  | .d .none => true
  | _ => false
def oIsN : DV → DV → Wd → Rs DV := fun x y w => match y with
  | .d .none => .ok (.d (.bool (isNon x))) w
  | _ => .bad
def oNotN : DV → DV → Wd → Rs DV := fun x y w => match y with
  | .d .none => .ok (.d (.bool (!isNon x))) w
  | _ => .bad
def oIn : DV → DV → Wd → Rs DV := fun x y w => match toD 6 w x, toD 6 w y with
  | some d, some (.list ds) => if (SeqAt.shaped d && SeqAt.shaped (.list ds)) = true then .ok (.d (.bool (ds.any fun z => PyData.eqv z d))) w else .bad
  | _, _ => .bad
def oNotIn : DV → DV → Wd → Rs DV := fun x y w => match toD 6 w x, toD 6 w y with
  | some d, some (.list ds) => if (SeqAt.shaped d && SeqAt.shaped (.list ds)) = true then .ok (.d (.bool (!ds.any fun z => PyData.eqv z d))) w else .bad
  | _, _ => .bad
/-- one sign in a text -/
def signIn (x z : Str) : Option Bool := match x.cps.toList with
  | [c] => some (decide (c ∈ z.cps.toList))
  | _ => none
def oInS : DV → DV → Wd → Rs DV
  | .d (.str x), .d (.str z), w => match signIn x z with
    | some b => .ok (.d (.bool b)) w
    | none => .bad
  | _, _, _ => .bad
def oNotInS : DV → DV → Wd → Rs DV
  | .d (.str x), .d (.str z), w => match signIn x z with
    | some b => .ok (.d (.bool (!b))) w
    | none => .bad
  | _, _, _ => .bad
def oAddS : DV → DV → Wd → Rs DV
  | .d (.str x), .d (.str z), w => if x.length + z.length ≤ 100000 then .ok (.d (.str (x ++ z))) w else .bad
  | _, _, _ => .bad
/-- an item -/
def oIxL : DV → DV → Wd → Rs DV
  | .d (.list ds), .d (.int i), w => match atI ds i with
    | some d => .ok (.d d) w
    | none => .bad
  | .loc l, .d (.int i), w => match w[l]? with
    | some (.lst xs) => match atI xs i with
      | some d => .ok d w
      | none => .bad
    | _ => .bad
  | _, _, _ => .bad
def oIxT : DV → DV → Wd → Rs DV
  | .d (.tuple ds), .d (.int i), w => match atI ds i with
    | some d => .ok (.d d) w
    | none => .bad
  | .loc l, .d (.int i), w => match w[l]? with
    | some (.tup xs) => match atI xs i with
      | some d => .ok d w
      | none => .bad
    | _ => .bad
  | _, _, _ => .bad
def oIxS : DV → DV → Wd → Rs DV
  | .d (.str z), .d (.int i), w => if z.length ≤ 100000 then (match atI z.cps.toList i with
      | some c => .ok (.d (.str ⟨#[c]⟩)) w
      | none => .bad) else .bad
  | _, _, _ => .bad

/-! ### the rules -/
section
variable {X : Cx} {α : Addr × Str} {Wx : WX} {a b c e : Expr} {es : List Expr} {xa xb xc : XM} {xs : AM} {pos : Pos}
theorem x_var (i : Nat) {n : Str} (h : PE X (.Name n pos) (tVar i)) : PE X (.Name n pos) (cE X.K α Wx (xVar i)) := pe_imp h fun σ H Q ⟨ι, G, w, env, s, ev, p⟩ => by
  unfold xVar at p
  cases q : env[i]? with
  | none => rw [q] at p; exact p.elim
  | some o =>
    rw [q] at p
    obtain ⟨sl, h1, h2⟩ := ev.at_ q
    cases o with
    | none => exact p.elim
    | some d =>
      cases d with
      | exc c => exact p.elim
      | d y =>
        obtain ⟨v, rfl, h3⟩ := h2
        exact ⟨v, h1, p v ι G H .refl s h3⟩
      | loc y =>
        obtain ⟨v, rfl, h3⟩ := h2
        exact ⟨v, h1, p v ι G H .refl s h3⟩
theorem x_lit {v : V} {d : PyData} (h : PE X e (tC v)) (hd : ∀ G, Dp X.K G v d) : PE X e (cE X.K α Wx (xLit d)) := pe_imp h fun σ H Q ⟨ι, G, w, env, s, ev, p⟩ => p v ι G H .refl s (hd G)
theorem x_int {i : Int} {j : Nat} : PE X (.Constant (.int i) j pos) (cE X.K α Wx (xLit (.int i))) := x_lit pe_int fun _ => .int i
theorem x_bl {i : Bool} {j : Nat} : PE X (.Constant (.bool i) j pos) (cE X.K α Wx (xLit (.bool i))) := x_lit pe_bl fun _ => .bl i
theorem x_str {i : Str} {j : Nat} : PE X (.Constant (.str i) j pos) (cE X.K α Wx (xLit (.str i))) := x_lit pe_str fun _ => .str i
theorem x_non {j : Nat} : PE X (.Constant .none j pos) (cE X.K α Wx (xLit .none)) := x_lit pe_non fun _ => .non

def BinOk (K : PySem.W.Frag) (Wx : WX) (op : DV → DV → Wd → Rs DV) (r : R2) : Prop :=
  ∀ ι G H w σ x y dx dy Q, WS K ι G H w → RD K ι G x dx → RD K ι G y dy → PostE K Wx ι G H σ (op dx dy w) Q → r x y H Q
theorem bin_step {K : PySem.W.Frag} {op : DV → DV → Wd → Rs DV} {r : R2} (hr : BinOk K Wx op r) {σ : L2.St} {H : Hp} {Q : VK} (h : cE K α Wx (xBin op xa xb) σ H Q) : tOp r (cE K α Wx xa) (cE K α Wx xb) σ H Q := by
  obtain ⟨ι, G, w, env, s, ev, p⟩ := h
  refine ⟨ι, G, w, env, s, ev, PostE.bind p fun d1 w1 v1 ι1 G1 H1 _ e1 s1 r1 p1 => ⟨ι1, G1, w1, env, s1, ev.mono e1, PostE.bind p1 fun d2 w2 v2 ι2 G2 H2 _ e2 s2 r2 p2 => ?_⟩⟩
  exact hr ι2 G2 H2 w2 σ v1 v2 d1 d2 Q s2 (r1.mono e2) r2 p2
theorem x_bin {o : Operator} {op : DV → DV → Wd → Rs DV} {r : R2} (hr : BinOk X.K Wx op r) (ho : OpR X (binaryOp o) r) (ha : PE X a (cE X.K α Wx xa)) (hb : PE X b (cE X.K α Wx xb)) :
    PE X (.BinOp a o b pos) (cE X.K α Wx (xBin op xa xb)) := pe_imp (pe_op ho ha hb) fun _ _ _ h => bin_step hr h
theorem x_cmp {o : CmpOp} {op : DV → DV → Wd → Rs DV} {r : R2} (hr : BinOk X.K Wx op r) (ho : OpR X (compareOp o) r) (ha : PE X a (cE X.K α Wx xa)) (hb : PE X b (cE X.K α Wx xb)) (hm : behindInMarks o b = false) :
    PE X (.Compare a [o] [b] pos) (cE X.K α Wx (xBin op xa xb)) := pe_imp (pe_cmpR ho ha hb hm) fun _ _ _ h => bin_step hr h
theorem x_ix {op : DV → DV → Wd → Rs DV} {r : R2} (hr : BinOk X.K Wx op r) (ho : IxR X r) (ha : PE X a (cE X.K α Wx xa)) (hb : PE X b (cE X.K α Wx xb)) (hs : PlainIx b) :
    PE X (.Subscript a b pos) (cE X.K α Wx (xBin op xa xb)) := pe_imp (pe_ix ho ha hb hs) fun _ _ _ h => bin_step hr h
/-- tests -/
theorem t_cmp {o : CmpOp} {op : DV → DV → Wd → Rs DV} {r : R2} (hr : BinOk X.K Wx op r) (ho : OpR X (compareOp o) r) (ha : PE X a (cE X.K α Wx xa)) (hb : PE X b (cE X.K α Wx xb)) (hm : behindInMarks o b = false) :
    PT X (.Compare a [o] [b] pos) (cT X.K α Wx (xBin op xa xb)) := pt_imp (pt_cmpR ho ha hb hm) fun _ _ _ h => bin_step hr h
theorem t_val (h : PE X e (cE X.K α Wx xa)) (he : ∀ whole, isTrue e X.env whole = (do let v ← whole; standAt e.pos; holding [v] (truthy v)) := by intro _; rfl) : PT X e (cT X.K α Wx xa) := pt_val h he
theorem chain_step {K : PySem.W.Frag} {op op' : DV → DV → Wd → Rs DV} {r r' : R2} (hr : BinOk K Wx op r) (hr' : BinOk K Wx op' r') {σ : L2.St} {H : Hp} {Q : VK} (h : cE K α Wx (xChain op op' xa xb xc) σ H Q) :
    tChain r r' (cE K α Wx xa) (cE K α Wx xb) (cE K α Wx xc) σ H Q := by
  obtain ⟨ι, G, w, env, s, ev, p⟩ := h
  refine ⟨ι, G, w, env, s, ev, PostE.bind p fun d1 w1 v1 ι1 G1 H1 _ e1 s1 r1 p1 => ⟨ι1, G1, w1, env, s1, ev.mono e1, PostE.bind p1 fun d2 w2 v2 ι2 G2 H2 _ e2 s2 r2 p2 => ?_⟩⟩
  refine hr ι2 G2 H2 w2 σ v1 v2 d1 d2 _ s2 (r1.mono e2) r2 (PostE.bind p2 fun d3 w3 v3 ι3 G3 H3 _ e3 s3 r3 p3 => ?_)
  cases d3 with
  | loc l => exact p3.elim
  | exc c => exact p3.elim
  | d z =>
    cases z with
    | bool k =>
      cases r3
      cases k with
      | true =>
        refine ⟨true, rfl, ?_⟩
        rw [if_pos rfl]
        exact ⟨ι3, G3, w3, env, s3, ((ev.mono e1).mono e2).mono e3, PostE.bind p3 fun d4 w4 v4 ι4 G4 H4 _ e4 s4 r4 p4 => hr' ι4 G4 H4 w4 σ v2 v4 d2 d4 Q s4 ((r2.mono e3).mono e4) r4 p4⟩
      | false =>
        refine ⟨false, rfl, ?_⟩
        rw [if_neg Bool.false_ne_true]
        exact p3 _ ι3 G3 H3 .refl s3 (.bl false)
    | _ => exact p3.elim
theorem x_chain {o o' : CmpOp} {op op' : DV → DV → Wd → Rs DV} {r r' : R2} (hr : BinOk X.K Wx op r) (ho : OpR X (compareOp o) r) (hr' : BinOk X.K Wx op' r') (ho' : OpR X (compareOp o') r')
    (ha : PE X a (cE X.K α Wx xa)) (hb : PE X b (cE X.K α Wx xb)) (hc : PE X c (cE X.K α Wx xc)) (hm : lastMarks [o, o'] [b, c] = false := by rfl) : PE X (.Compare a [o, o'] [b, c] pos) (cE X.K α Wx (xChain op op' xa xb xc)) :=
  pe_imp (pe_chain ho ho' ha hb hc hm) fun _ _ _ h => chain_step hr hr' h
theorem t_chain {o o' : CmpOp} {op op' : DV → DV → Wd → Rs DV} {r r' : R2} (hr : BinOk X.K Wx op r) (ho : OpR X (compareOp o) r) (hr' : BinOk X.K Wx op' r') (ho' : OpR X (compareOp o') r')
    (ha : PE X a (cE X.K α Wx xa)) (hb : PE X b (cE X.K α Wx xb)) (hc : PE X c (cE X.K α Wx xc)) (hm : lastMarks [o, o'] [b, c] = false := by rfl) : PT X (.Compare a [o, o'] [b, c] pos) (cT X.K α Wx (xChain op op' xa xb xc)) :=
  pt_imp (pt_chain ho ho' ha hb hc hm) fun _ _ _ h => chain_step hr hr' h

/-! and, or, not -/
theorem and_post {K : PySem.W.Frag} {σ : L2.St} {H : Hp} {Q : VK} (h : cE K α Wx (xAnd xa xb) σ H Q) : tAndV (cE K α Wx xa) (cE K α Wx xb) σ H Q := by
  obtain ⟨ι, G, w, env, s, ev, p⟩ := h
  refine ⟨ι, G, w, env, s, ev, PostE.bind p fun d1 w1 v1 ι1 G1 H1 _ e1 s1 r1 p1 => ?_⟩
  cases d1 with
  | loc l => exact p1.elim
  | exc c => exact p1.elim
  | d z =>
    cases z with
    | bool k =>
      cases r1
      cases k with
      | true =>
        refine ⟨true, rfl, ?_⟩
        rw [if_pos rfl]
        exact ⟨ι1, G1, w1, env, s1, ev.mono e1, p1⟩
      | false =>
        refine ⟨false, rfl, ?_⟩
        rw [if_neg Bool.false_ne_true]
        exact p1 _ ι1 G1 H1 .refl s1 (.bl false)
    | _ => exact p1.elim
theorem or_post {K : PySem.W.Frag} {σ : L2.St} {H : Hp} {Q : VK} (h : cE K α Wx (xOr xa xb) σ H Q) : tOrV (cE K α Wx xa) (cE K α Wx xb) σ H Q := by
  obtain ⟨ι, G, w, env, s, ev, p⟩ := h
  refine ⟨ι, G, w, env, s, ev, PostE.bind p fun d1 w1 v1 ι1 G1 H1 _ e1 s1 r1 p1 => ?_⟩
  cases d1 with
  | loc l => exact p1.elim
  | exc c => exact p1.elim
  | d z =>
    cases z with
    | bool k =>
      cases r1
      cases k with
      | true =>
        refine ⟨true, rfl, ?_⟩
        rw [if_pos rfl]
        exact p1 _ ι1 G1 H1 .refl s1 (.bl true)
      | false =>
        refine ⟨false, rfl, ?_⟩
        rw [if_neg Bool.false_ne_true]
        exact ⟨ι1, G1, w1, env, s1, ev.mono e1, p1⟩
    | _ => exact p1.elim
theorem not_post {K : PySem.W.Frag} {σ : L2.St} {H : Hp} {Q : VK} (h : cE K α Wx (xNot xa) σ H Q) : tNotV (cE K α Wx xa) σ H Q := by
  obtain ⟨ι, G, w, env, s, ev, p⟩ := h
  refine ⟨ι, G, w, env, s, ev, PostE.bind p fun d1 w1 v1 ι1 G1 H1 _ e1 s1 r1 p1 => ?_⟩
  cases d1 with
  | loc l => exact p1.elim
  | exc c => exact p1.elim
  | d z =>
    cases z with
    | bool k =>
      cases r1
      exact ⟨k, rfl, p1 _ ι1 G1 H1 .refl s1 (.bl _)⟩
    | _ => exact p1.elim
variable {op : BoolOp} {rest : List Expr}
theorem x_one (h : PE X a (cE X.K α Wx xa)) : PE X (.BoolOp op [a] pos) (cE X.K α Wx xa) := pe_one h
theorem x_and (ha : PE X a (cE X.K α Wx xa)) (hb : PE X (.BoolOp .And (b :: rest) pos) (cE X.K α Wx xb)) : PE X (.BoolOp .And (a :: b :: rest) pos) (cE X.K α Wx (xAnd xa xb)) := pe_imp (pe_and ha hb) fun _ _ _ h => and_post h
theorem x_or (ha : PE X a (cE X.K α Wx xa)) (hb : PE X (.BoolOp .Or (b :: rest) pos) (cE X.K α Wx xb)) : PE X (.BoolOp .Or (a :: b :: rest) pos) (cE X.K α Wx (xOr xa xb)) := pe_imp (pe_or ha hb) fun _ _ _ h => or_post h
theorem x_not (ha : PE X a (cE X.K α Wx xa)) : PE X (.UnaryOp .Not a pos) (cE X.K α Wx (xNot xa)) := pe_imp (pe_not ha) fun _ _ _ h => not_post h
theorem tAnd_of {K : PySem.W.Frag} {σ : L2.St} {H : Hp} {Q : Bool → Hp → Prop} (h : cT K α Wx (xAnd xa xb) σ H Q) : tAnd (cT K α Wx xa) (cT K α Wx xb) σ H Q := by
  obtain ⟨ι, G, w, env, s, ev, p⟩ := h
  refine ⟨ι, G, w, env, s, ev, PostE.bind p fun d1 w1 v1 ι1 G1 H1 _ e1 s1 r1 p1 => ?_⟩
  cases d1 with
  | loc l => exact p1.elim
  | exc c => exact p1.elim
  | d z =>
    cases z with
    | bool k =>
      cases r1
      refine ⟨k, rfl, ?_⟩
      cases k with
      | true =>
        rw [if_pos rfl]
        exact ⟨ι1, G1, w1, env, s1, ev.mono e1, p1⟩
      | false =>
        rw [if_neg Bool.false_ne_true]
        obtain ⟨c, hc, q⟩ := p1 _ ι1 G1 H1 .refl s1 (.bl false)
        cases hc
        exact q
    | _ => exact p1.elim
theorem tOr_of {K : PySem.W.Frag} {σ : L2.St} {H : Hp} {Q : Bool → Hp → Prop} (h : cT K α Wx (xOr xa xb) σ H Q) : tOr (cT K α Wx xa) (cT K α Wx xb) σ H Q := by
  obtain ⟨ι, G, w, env, s, ev, p⟩ := h
  refine ⟨ι, G, w, env, s, ev, PostE.bind p fun d1 w1 v1 ι1 G1 H1 _ e1 s1 r1 p1 => ?_⟩
  cases d1 with
  | loc l => exact p1.elim
  | exc c => exact p1.elim
  | d z =>
    cases z with
    | bool k =>
      cases r1
      refine ⟨k, rfl, ?_⟩
      cases k with
      | true =>
        rw [if_pos rfl]
        obtain ⟨c, hc, q⟩ := p1 _ ι1 G1 H1 .refl s1 (.bl true)
        cases hc
        exact q
      | false =>
        rw [if_neg Bool.false_ne_true]
        exact ⟨ι1, G1, w1, env, s1, ev.mono e1, p1⟩
    | _ => exact p1.elim
theorem tNot_of {K : PySem.W.Frag} {σ : L2.St} {H : Hp} {Q : Bool → Hp → Prop} (h : cT K α Wx (xNot xa) σ H Q) : tNot (cT K α Wx xa) σ H Q := by
  obtain ⟨ι, G, w, env, s, ev, p⟩ := h
  refine ⟨ι, G, w, env, s, ev, PostE.bind p fun d1 w1 v1 ι1 G1 H1 _ e1 s1 r1 p1 => ?_⟩
  cases d1 with
  | loc l => exact p1.elim
  | exc c => exact p1.elim
  | d z =>
    cases z with
    | bool k =>
      cases r1
      refine ⟨k, rfl, ?_⟩
      obtain ⟨c, hc, q⟩ := p1 _ ι1 G1 H1 .refl s1 (.bl (!k))
      cases hc
      exact q
    | _ => exact p1.elim
theorem w_and1 (h : PT X a (cT X.K α Wx xa)) : PW X (.BoolOp .And [a] pos) (cT X.K α Wx xa) := pw_and1 h
theorem w_or1 (h : PT X a (cT X.K α Wx xa)) : PW X (.BoolOp .Or [a] pos) (cT X.K α Wx xa) := pw_or1 h
theorem w_and (ha : PT X a (cT X.K α Wx xa)) (hb : PW X (.BoolOp .And (b :: rest) pos) (cT X.K α Wx xb)) : PW X (.BoolOp .And (a :: b :: rest) pos) (cT X.K α Wx (xAnd xa xb)) := pw_imp (pw_and ha hb) fun _ _ _ h => tAnd_of h
theorem w_or (ha : PT X a (cT X.K α Wx xa)) (hb : PW X (.BoolOp .Or (b :: rest) pos) (cT X.K α Wx xb)) : PW X (.BoolOp .Or (a :: b :: rest) pos) (cT X.K α Wx (xOr xa xb)) := pw_imp (pw_or ha hb) fun _ _ _ h => tOr_of h
theorem t_not (ha : PT X a (cT X.K α Wx xa)) : PT X (.UnaryOp .Not a pos) (cT X.K α Wx (xNot xa)) := pt_imp (pt_not ha) fun _ _ _ h => tNot_of h

/-! arguments, displays -/
theorem a_nil : PA X [] (cA X.K α Wx xNil) := pa_imp pa_nil fun σ H Q ⟨ι, G, w, env, s, ev, p⟩ => p [] ι G H .refl s .nil
theorem a_cons (ha : PE X a (cE X.K α Wx xa)) (hr : PA X es (cA X.K α Wx xs)) (hs : starEach (a :: es) X.env = (false, eval a X.env) :: starEach es X.env := by rfl) : PA X (a :: es) (cA X.K α Wx (xCons xa xs)) :=
  pa_imp (pa_cons ha hr hs) fun σ H Q ⟨ι, G, w, env, s, ev, p⟩ => ⟨ι, G, w, env, s, ev, PostE.bindA p fun d1 w1 v1 ι1 G1 H1 _ e1 s1 r1 p1 => ⟨ι1, G1, w1, env, s1, ev.mono e1, PostA.bindA p1 fun d2 w2 v2 ι2 G2 H2 _ e2 s2 r2 p2 =>
    p2 (v1 :: v2) ι2 G2 H2 .refl s2 (.cons (r1.mono e2) r2)⟩⟩
end
theorem all_dp {K : PySem.W.Frag} {ι : List Addr} {G : Hp} : ∀ {vs : List V} {xs : List DV} {ds : List PyData}, RDs K ι G vs xs → allD xs = some ds → DpAll K G vs ds
  | _, [], ds, .nil, h => by
    simp only [allD, Option.some.injEq] at h
    subst h
    exact .nil
  | _, .d x :: r, ds, .cons r1 r2, h => by
    simp only [allD] at h
    cases q : allD r with
    | none => rw [q] at h; cases h
    | some ys =>
      rw [q] at h
      simp only [Option.map_some, Option.some.injEq] at h
      subst h
      exact .cons r1 (all_dp r2 q)
  | _, .loc l :: r, ds, _, h => by simp only [allD] at h; cases h
  | _, .exc l :: r, ds, _, h => by simp only [allD] at h; cases h
theorem dps_len {K : PySem.W.Frag} {G : Hp} : ∀ {vs : List V} {ds : List PyData}, DpAll K G vs ds → vs.length = ds.length
  | _, [], h => by cases h; rfl
  | _, d :: ds, h => by
    cases h with
    | cons h1 h2 => simp [dps_len h2]
theorem rds_len {K : PySem.W.Frag} {ι : List Addr} {G : Hp} {vs : List V} {xs : List DV} (r : RDs K ι G vs xs) : vs.length = xs.length := Paired.length r
section
variable {X : Cx} {α : Addr × Str} {Wx : WX} {a b c e : Expr} {es : List Expr} {xa xb xc : XM} {xs : AM} {pos : Pos}
theorem x_tup {x1} (h : PA X es (cA X.K α Wx xs)) : PE X (.Tuple es x1 pos) (cE X.K α Wx (xTup xs)) :=
  pe_imp (pe_tup h) fun σ H Q ⟨ι, G, w, env, s, ev, p⟩ => ⟨ι, G, w, env, s, ev, PostA.bind p fun d1 w1 v1 ι1 G1 H1 _ e1 s1 r1 p1 => by
    cases q : allD d1 with
    | none => rw [q] at p1; exact p1.elim
    | some ds =>
      rw [q] at p1
      simp only at p1
      split at p1
      · rename_i hl
        have hd := all_dp r1 q
        refine ⟨Evl.sz_of (by rw [dps_len hd]; exact hl), fun r hr => ?_⟩
        exact p1 (.ref r) ι1 _ _ (Evo.newD s1.sub hr) (s1.newD hr) (.tup (Evl.st_of upd_same) (dp_monos (Evl.Ex.new (Evl.fresh_back s1.sub hr)) _ _ hd))
      · exact p1.elim⟩
theorem x_lst (h : PA X es (cA X.K α Wx xs)) : PE X (.List es pos) (cE X.K α Wx (xLst xs)) :=
  pe_imp (pe_lst h) fun σ H Q ⟨ι, G, w, env, s, ev, p⟩ => ⟨ι, G, w, env, s, ev, PostA.bind p fun d1 w1 v1 ι1 G1 H1 _ e1 s1 r1 p1 => by
    cases q : allD d1 with
    | none => rw [q] at p1; exact p1.elim
    | some ds =>
      rw [q] at p1
      simp only at p1
      split at p1
      · rename_i hl
        have hd := all_dp r1 q
        refine ⟨Evl.sz_of (by rw [dps_len hd]; exact hl), fun r hr => ?_⟩
        exact p1 (.ref r) ι1 _ _ (Evo.newD s1.sub hr) (s1.newD hr) (.lst (Evl.sq_of upd_same) (dp_monos (Evl.Ex.new (Evl.fresh_back s1.sub hr)) _ _ hd))
      · exact p1.elim⟩
theorem loc_new {K : PySem.W.Frag} {ι : List Addr} {p : Addr} {G H : Hp} {w : Wd} (s : WS K ι G H w) : RD K (ι ++ [p]) G (.ref p) (.loc w.length) := ⟨p, by rw [← s.len]; simp, rfl⟩
theorem x_lstS (h : PA X es (cA X.K α Wx xs)) : PE X (.List es pos) (cE X.K α Wx (xLstS xs)) :=
  pe_imp (pe_lst h) fun σ H Q ⟨ι, G, w, env, s, ev, p⟩ => ⟨ι, G, w, env, s, ev, PostA.bind p fun d1 w1 v1 ι1 G1 H1 _ e1 s1 r1 p1 => by
    split at p1
    · rename_i hl
      refine ⟨Evl.sz_of (by rw [rds_len r1]; exact hl), fun r hr => ?_⟩
      have E : Evo ι1 G1 H1 (ι1 ++ [r]) G1 (upd H1 r (.lst v1)) := Evo.newL hr
      exact p1 (.ref r) _ _ _ E (s1.newL hr ⟨v1, rfl, RDs.mono E r1⟩) (loc_new s1)
    · exact p1.elim⟩
theorem x_tupS {x1} (h : PA X es (cA X.K α Wx xs)) : PE X (.Tuple es x1 pos) (cE X.K α Wx (xTupS xs)) :=
  pe_imp (pe_tup h) fun σ H Q ⟨ι, G, w, env, s, ev, p⟩ => ⟨ι, G, w, env, s, ev, PostA.bind p fun d1 w1 v1 ι1 G1 H1 _ e1 s1 r1 p1 => by
    split at p1
    · rename_i hl
      refine ⟨Evl.sz_of (by rw [rds_len r1]; exact hl), fun r hr => ?_⟩
      have E : Evo ι1 G1 H1 (ι1 ++ [r]) G1 (upd H1 r (.tup v1)) := Evo.newL hr
      exact p1 (.ref r) _ _ _ E (s1.newL hr ⟨v1, rfl, RDs.mono E r1⟩) (loc_new s1)
    · exact p1.elim⟩

/-! operators -/
theorem ok_oI {C : Int → Int → Bool} {P : Int → Int → Prop} {g : Int → Int → PyData} {g' : Int → Int → V} {K : PySem.W.Frag} (hc : ∀ i j, C i j = true → P i j) (hg : ∀ G i j, Dp K G (g' i j) (g i j)) : BinOk K Wx (oI C g) (rI P g') := by
  intro ι G H w σ x y dx dy Q s rx ry p
  unfold oI at p
  split at p
  · split at p
    · rename_i i j hC
      cases rx; cases ry
      exact ⟨i, j, rfl, rfl, hc i j hC, p _ ι G H .refl s (hg G i j)⟩
    · exact p.elim
  · exact p.elim
theorem ok_oI0 {C : Int → Int → Bool} {g : Int → Int → PyData} {g' : Int → Int → V} {K : PySem.W.Frag} (hg : ∀ G i j, Dp K G (g' i j) (g i j)) : BinOk K Wx (oI C g) (rI0 g') := by
  intro ι G H w σ x y dx dy Q s rx ry p
  unfold oI at p
  split at p
  · split at p
    · rename_i i j hC
      cases rx; cases ry
      exact ⟨i, j, rfl, rfl, p _ ι G H .refl s (hg G i j)⟩
    · exact p.elim
  · exact p.elim
end
section
variable {X : Cx} {α : Addr × Str} {Wx : WX} {a b c e : Expr} {es : List Expr} {xa xb xc : XM} {xs : AM} {pos : Pos}
theorem x_add (ha : PE X a (cE X.K α Wx xa)) (hb : PE X b (cE X.K α Wx xb)) : PE X (.BinOp a .Add b pos) (cE X.K α Wx (xBin oAdd xa xb)) := x_bin (ok_oI0 fun _ _ _ => .int _) op_add ha hb
theorem x_sub (ha : PE X a (cE X.K α Wx xa)) (hb : PE X b (cE X.K α Wx xb)) : PE X (.BinOp a .Sub b pos) (cE X.K α Wx (xBin oSub xa xb)) := x_bin (ok_oI0 fun _ _ _ => .int _) op_sub ha hb
theorem x_mul (ha : PE X a (cE X.K α Wx xa)) (hb : PE X b (cE X.K α Wx xb)) : PE X (.BinOp a .Mult b pos) (cE X.K α Wx (xBin oMul xa xb)) := x_bin (ok_oI (fun i j h => by
  simp only [Bool.or_eq_true, Bool.and_eq_true, decide_eq_true_eq] at h
  exact h) fun _ _ _ => .int _) op_mul ha hb
theorem x_div (ha : PE X a (cE X.K α Wx xa)) (hb : PE X b (cE X.K α Wx xb)) : PE X (.BinOp a .FloorDiv b pos) (cE X.K α Wx (xBin oDiv xa xb)) := x_bin (ok_oI (fun i j h => by
  simp only [Bool.and_eq_true, decide_eq_true_eq] at h
  exact h) fun _ _ _ => .int _) op_fdiv ha hb
theorem x_mod (ha : PE X a (cE X.K α Wx xa)) (hb : PE X b (cE X.K α Wx xb)) : PE X (.BinOp a .Mod b pos) (cE X.K α Wx (xBin oMod xa xb)) := x_bin (ok_oI (fun i j h => by
  simp only [decide_eq_true_eq] at h
  exact h) fun _ _ _ => .int _) op_mod ha hb
theorem x_pow (ha : PE X a (cE X.K α Wx xa)) (hb : PE X b (cE X.K α Wx xb)) : PE X (.BinOp a .Pow b pos) (cE X.K α Wx (xBin oPow xa xb)) := x_bin (ok_oI (fun i j h => by
  simp only [Bool.and_eq_true, decide_eq_true_eq] at h
  exact h) fun _ _ _ => .int _) op_pow ha hb
theorem k_lt {K : PySem.W.Frag} : BinOk K Wx oLt (rI0 fun i j => .bl (decide (i < j))) := ok_oI0 fun _ _ _ => .bl _
theorem k_le {K : PySem.W.Frag} : BinOk K Wx oLe (rI0 fun i j => .bl (decide (i ≤ j))) := ok_oI0 fun _ _ _ => .bl _
theorem k_gt {K : PySem.W.Frag} : BinOk K Wx oGt (rI0 fun i j => .bl (decide (j < i))) := ok_oI0 fun _ _ _ => .bl _
theorem k_ge {K : PySem.W.Frag} : BinOk K Wx oGe (rI0 fun i j => .bl (decide (j ≤ i))) := ok_oI0 fun _ _ _ => .bl _
theorem k_eq {K : PySem.W.Frag} : BinOk K Wx oEq (rEqD K) := by
  intro ι G H w σ x y dx dy Q s rx ry p
  unfold oEq at p
  split at p
  · rename_i d1 d2 h1 h2
    split at p
    · rename_i hs
      obtain ⟨s1, s2⟩ := Bool.and_eq_true_iff.mp hs
      exact ⟨_, _, dp_toDH s rx h1, dp_toDH s ry h2, s1, s2, p _ ι G H .refl s (.bl _)⟩
    · exact p.elim
  · exact p.elim
theorem k_ne {K : PySem.W.Frag} : BinOk K Wx oNe (rNeD K) := by
  intro ι G H w σ x y dx dy Q s rx ry p
  unfold oNe at p
  split at p
  · rename_i d1 d2 h1 h2
    split at p
    · rename_i hs
      obtain ⟨s1, s2⟩ := Bool.and_eq_true_iff.mp hs
      exact ⟨_, _, dp_toDH s rx h1, dp_toDH s ry h2, s1, s2, p _ ι G H .refl s (.bl _)⟩
    · exact p.elim
  · exact p.elim
theorem isNon_iff {K : PySem.W.Frag} {ι : List Addr} {G : Hp} {x : V} {d : DV} (r : RD K ι G x d) (he : ∀ c, d ≠ .exc c) : decide (x = .non) = isNon d := by
  cases d with
  | d y =>
    cases y <;> cases r <;> simp [isNon]
  | loc l => obtain ⟨a, _, rfl⟩ := r; simp [isNon]
  | exc c => exact absurd rfl (he c)
theorem isNon_iff' {K : PySem.W.Frag} {ι : List Addr} {G : Hp} {x : V} {d : DV} (r : RD K ι G x d) : decide (x = .non) = isNon d := by
  cases d with
  | exc c => exact r.elim
  | d y => exact isNon_iff r fun c z => nomatch z
  | loc l => exact isNon_iff r fun c z => nomatch z
theorem k_isN {K : PySem.W.Frag} : BinOk K Wx oIsN (fun x y H Q => y = .non ∧ Q (.bl (decide (x = .non))) H) := by
  intro ι G H w σ x y dx dy Q s rx ry p
  unfold oIsN at p
  split at p
  · cases ry
    refine ⟨rfl, ?_⟩
    rw [isNon_iff' rx]
    exact p _ ι G H .refl s (.bl _)
  · exact p.elim
theorem k_notN {K : PySem.W.Frag} : BinOk K Wx oNotN (fun x y H Q => y = .non ∧ Q (.bl (!decide (x = .non))) H) := by
  intro ι G H w σ x y dx dy Q s rx ry p
  unfold oNotN at p
  split at p
  · cases ry
    refine ⟨rfl, ?_⟩
    rw [isNon_iff' rx]
    exact p _ ι G H .refl s (.bl _)
  · exact p.elim
theorem dps_at {K : PySem.W.Frag} {G : Hp} : ∀ {vs : List V} {ds : List PyData} {i : Nat} {d : PyData}, DpAll K G vs ds → ds[i]? = some d → ∃ v, vs[i]? = some v ∧ Dp K G v d
  | _, [], _, _, h, e => by cases e
  | _, d :: ds, 0, _, h, e => by
    cases h with
    | cons h1 h2 =>
      simp only [List.getElem?_cons_zero, Option.some.injEq] at e
      subst e
      exact ⟨_, rfl, h1⟩
  | _, d :: ds, i + 1, _, h, e => by
    cases h with
    | cons h1 h2 =>
      obtain ⟨v, e1, e2⟩ := dps_at (i := i) h2 (by simpa using e)
      exact ⟨v, by simpa using e1, e2⟩
theorem dps_atI {K : PySem.W.Frag} {G : Hp} {vs : List V} {ds : List PyData} {i : Int} {d : PyData} (h : DpAll K G vs ds) (e : atI ds i = some d) : ∃ v, atI vs i = some v ∧ Dp K G v d := by
  unfold atI at e ⊢
  rw [dps_len h]
  cases q : ixN ds.length i with
  | none => rw [q] at e; cases e
  | some j =>
    rw [q] at e
    exact dps_at h e
theorem rds_at {K : PySem.W.Frag} {ι : List Addr} {G : Hp} : ∀ {vs : List V} {ds : List DV} {i : Nat} {d : DV}, RDs K ι G vs ds → ds[i]? = some d → ∃ v, vs[i]? = some v ∧ RD K ι G v d
  | _, _, _, _, .nil, e => by simp at e
  | _, _, 0, _, .cons h1 h2, e => by
    simp only [List.getElem?_cons_zero, Option.some.injEq] at e
    subst e
    exact ⟨_, rfl, h1⟩
  | _, _, i + 1, _, .cons h1 h2, e => by
    obtain ⟨v, e1, e2⟩ := rds_at (i := i) h2 (by simpa using e)
    exact ⟨v, by simpa using e1, e2⟩
theorem rds_atI {K : PySem.W.Frag} {ι : List Addr} {G : Hp} {vs : List V} {ds : List DV} {i : Int} {d : DV} (h : RDs K ι G vs ds) (e : atI ds i = some d) : ∃ v, atI vs i = some v ∧ RD K ι G v d := by
  unfold atI at e ⊢
  rw [rds_len h]
  cases q : ixN ds.length i with
  | none => rw [q] at e; cases e
  | some j =>
    rw [q] at e
    exact rds_at h e
theorem k_ixL {K : PySem.W.Frag} : BinOk K Wx oIxL (rIxL K) := by
  intro ι G H w σ x y dx dy Q s rx ry p
  unfold oIxL at p
  split at p
  · rename_i ds i
    cases ry
    cases q : atI ds i with
    | none => rw [q] at p; exact p.elim
    | some d =>
      rw [q] at p
      cases rx with
      | lst hs ha =>
        obtain ⟨v, h1, h2⟩ := dps_atI ha q
        exact ⟨_, _, i, v, rfl, rfl, Evl.ex_l s.sub hs, h1, p v ι G H .refl s h2⟩
  · rename_i l i
    cases ry
    obtain ⟨a, h1, rfl⟩ := rx
    cases q : w[l]? with
    | none => rw [q] at p; exact p.elim
    | some o =>
      rw [q] at p
      cases o with
      | lst xs =>
        simp only at p
        cases q2 : atI xs i with
        | none => rw [q2] at p; exact p.elim
        | some d =>
          rw [q2] at p
          obtain ⟨vs, e1, e2⟩ := s.ob l a _ h1 q
          obtain ⟨v, f1, f2⟩ := rds_atI e2 q2
          exact ⟨a, vs, i, v, rfl, rfl, Evl.sq_of e1, f1, p v ι G H .refl s f2⟩
      | _ => exact p.elim
  · exact p.elim
theorem k_ixT {K : PySem.W.Frag} : BinOk K Wx oIxT (rIxT K) := by
  intro ι G H w σ x y dx dy Q s rx ry p
  unfold oIxT at p
  split at p
  · rename_i ds i
    cases ry
    cases q : atI ds i with
    | none => rw [q] at p; exact p.elim
    | some d =>
      rw [q] at p
      cases rx with
      | tup hs ha =>
        obtain ⟨v, h1, h2⟩ := dps_atI ha q
        exact ⟨_, _, i, v, rfl, rfl, Evl.ex_t s.sub hs, h1, p v ι G H .refl s h2⟩
  · rename_i l i
    cases ry
    obtain ⟨a, h1, rfl⟩ := rx
    cases q : w[l]? with
    | none => rw [q] at p; exact p.elim
    | some o =>
      rw [q] at p
      cases o with
      | tup xs =>
        simp only at p
        cases q2 : atI xs i with
        | none => rw [q2] at p; exact p.elim
        | some d =>
          rw [q2] at p
          obtain ⟨vs, e1, e2⟩ := s.ob l a _ h1 q
          obtain ⟨v, f1, f2⟩ := rds_atI e2 q2
          exact ⟨a, vs, i, v, rfl, rfl, Evl.st_of e1, f1, p v ι G H .refl s f2⟩
      | _ => exact p.elim
  · exact p.elim
theorem k_ixS {K : PySem.W.Frag} : BinOk K Wx oIxS rIxS := by
  intro ι G H w σ x y dx dy Q s rx ry p
  unfold oIxS at p
  split at p
  · rename_i z i
    cases rx; cases ry
    split at p
    · rename_i hz
      cases q : atI z.cps.toList i with
      | none => rw [q] at p; exact p.elim
      | some c =>
        rw [q] at p
        exact ⟨z, i, c, rfl, rfl, Evl.sz_of hz, q, p _ ι G H .refl s (.str _)⟩
    · exact p.elim
  · exact p.elim
theorem k_addS {K : PySem.W.Frag} : BinOk K Wx oAddS (fun x y H Q => ∃ i j, x = .str i ∧ y = .str j ∧ i.length + j.length ≤ sizeLine ∧ Q (.str (i ++ j)) H) := by
  intro ι G H w σ x y dx dy Q s rx ry p
  unfold oAddS at p
  split at p
  · rename_i x z
    cases rx; cases ry
    split at p
    · rename_i hz
      exact ⟨x, z, rfl, rfl, Evl.sz_of hz, p _ ι G H .refl s (.str _)⟩
    · exact p.elim
  · exact p.elim
end
end RK

set_option Elab.async false
set_option linter.all false
set_option maxRecDepth 100000
set_option maxHeartbeats 4000000
/-! RKit, part C: statements, loops, defs and their calls, exceptions. -/
namespace RK
open PySem PySem.Spec PyProof.Rows L2

section
variable {K : PySem.W.Frag} {α : Addr × Str} {Wx : WX} {ι ι' : List Addr} {G G' H H' : Hp} {w w' : Wd} {σ : L2.St} {D D' : Ends}
def PostS (K : PySem.W.Frag) (α : Addr × Str) (Wx : WX) (ι : List Addr) (G H : Hp) (r : Rt) (D : Ends) : Prop :=
  match r with
  | .ok (.nx e) w' => ∀ σ' ι' G' H', Evo ι G H ι' G' H' → WS K ι' G' H' w' → EnvR K α ι' G' σ' e → D.nx σ' H'
  | .ok (.rt d) w' => ∀ v ι' G' H', Evo ι G H ι' G' H' → WS K ι' G' H' w' → RD K ι' G' v d → D.rt v H'
  | .ok (.bk e) w' => ∀ σ' ι' G' H', Evo ι G H ι' G' H' → WS K ι' G' H' w' → EnvR K α ι' G' σ' e → D.bk σ' H'
  | .ok (.ct e) w' => ∀ σ' ι' G' H', Evo ι G H ι' G' H' → WS K ι' G' H' w' → EnvR K α ι' G' σ' e → D.ct σ' H'
  | .ex c e w' => ∀ σ' ι' G' H', Evo ι G H ι' G' H' → WS K ι' G' H' w' → EnvR K α ι' G' σ' e → Wx (.ref (He.ga K c)) none σ' H'
  | .bad => False
def cS (K : PySem.W.Frag) (α : Addr × Str) (Wx : WX) (s : SM) : TS := fun D σ H => ∃ ι G w env, WS K ι G H w ∧ EnvR K α ι G σ env ∧ PostS K α Wx ι G H (s env w) D
theorem PostS.mono {r : Rt} (e : Evo ι G H ι' G' H') (p : PostS K α Wx ι G H r D) : PostS K α Wx ι' G' H' r D := by
  cases r with
  | ok c w => cases c with
    | nx n => exact fun v i2 G2 H2 e2 s r => p v i2 G2 H2 (e.trans e2) s r
    | rt n => exact fun v i2 G2 H2 e2 s r => p v i2 G2 H2 (e.trans e2) s r
    | bk n => exact fun v i2 G2 H2 e2 s r => p v i2 G2 H2 (e.trans e2) s r
    | ct n => exact fun v i2 G2 H2 e2 s r => p v i2 G2 H2 (e.trans e2) s r
  | ex c n w => exact fun v i2 G2 H2 e2 s r => p v i2 G2 H2 (e.trans e2) s r
  | bad => exact p
/-- an expression's result in a statement -/
def Rs.st {β : Type} (r : Rs β) (e : En) (f : β → Wd → Rt) : Rt :=
  match r with
  | .ok d w => f d w
  | .ex c w => .ex c e w
  | .bad => .bad
theorem PostS.st {r : Rs DV} {f : DV → Wd → Rt} {env : En} {Q : VK} (p : PostS K α Wx ι G H (r.st env f) D) (ev : EnvR K α ι G σ env)
    (k : ∀ d w' v ι' G' H', r = .ok d w' → Evo ι G H ι' G' H' → WS K ι' G' H' w' → RD K ι' G' v d → PostS K α Wx ι' G' H' (f d w') D → Q v H') : PostE K Wx ι G H σ r Q := by
  cases r with
  | ok d w => exact fun v i2 G2 H2 e2 s r => k d w v i2 G2 H2 rfl e2 s r (PostS.mono e2 p)
  | ex c w => exact fun i2 G2 H2 e2 s => p σ i2 G2 H2 e2 s (ev.mono e2)
  | bad => exact p
theorem PostS.stA {r : Rs (List DV)} {f : List DV → Wd → Rt} {env : En} {Q : List V → Hp → Prop} (p : PostS K α Wx ι G H (r.st env f) D) (ev : EnvR K α ι G σ env)
    (k : ∀ d w' v ι' G' H', r = .ok d w' → Evo ι G H ι' G' H' → WS K ι' G' H' w' → RDs K ι' G' v d → PostS K α Wx ι' G' H' (f d w') D → Q v H') : PostA K Wx ι G H σ r Q := by
  cases r with
  | ok d w => exact fun v i2 G2 H2 e2 s r => k d w v i2 G2 H2 rfl e2 s r (PostS.mono e2 p)
  | ex c w => exact fun i2 G2 H2 e2 s => p σ i2 G2 H2 e2 s (ev.mono e2)
  | bad => exact p
end

/-! ### the machine's statements -/
def sSet (i : Nat) (x : XM) : SM := fun e w => (x e w).st e fun d w1 => .ok (.nx (e.set i (some d))) w1
def sRet (x : XM) : SM := fun e w => (x e w).st e fun d w1 => .ok (.rt d) w1
def sExp (x : XM) : SM := fun e w => (x e w).st e fun _ w1 => .ok (.nx e) w1
def sIf (x : XM) (s t : SM) : SM := fun e w => (x e w).st e fun d w1 => match d with
  | .d (.bool p) => if p = true then s e w1 else t e w1
  | _ => .bad
def sNil : SM := fun e w => .ok (.nx e) w
def sCt : SM := fun e w => .ok (.ct e) w
def sBk : SM := fun e w => .ok (.bk e) w
def sSeq (s t : SM) : SM := fun e w => match s e w with
  | .ok (.nx e1) w1 => t e1 w1
  | r => r
def sRaise (c : Str) : SM := fun e w => .ex c e w
def whileF (x : XM) (s : SM) : Nat → En → Wd → Rt
  | 0, _, _ => .bad
  | n + 1, e, w => (x e w).st e fun d w1 => match d with
    | .d (.bool p) => if p = true then (match s e w1 with
      | .ok (.nx e2) w2 => whileF x s n e2 w2
      | .ok (.ct e2) w2 => whileF x s n e2 w2
      | .ok (.bk e2) w2 => .ok (.nx e2) w2
      | .ok (.rt d) w2 => .ok (.rt d) w2
      | .ex c e2 w2 => .ex c e2 w2
      | .bad => .bad) else .ok (.nx e) w1
    | _ => .bad
def sWhile (n : Nat) (x : XM) (s : SM) : SM := whileF x s n
/-- a loop's target -/
abbrev TgM := DV → En → Wd → Option En
def gNm (j : Nat) : TgM := fun d e _ => some (e.set j (some d))
/-- over plain data -/
def forD (g : TgM) (s : SM) : List PyData → En → Wd → Rt
  | [], e, w => .ok (.nx e) w
  | d :: ds, e, w => match g (.d d) e w with
    | none => .bad
    | some e1 => match s e1 w with
      | .ok (.nx e2) w2 => forD g s ds e2 w2
      | .ok (.ct e2) w2 => forD g s ds e2 w2
      | .ok (.bk e2) w2 => .ok (.nx e2) w2
      | .ok (.rt d) w2 => .ok (.rt d) w2
      | .ex c e2 w2 => .ex c e2 w2
      | .bad => .bad
open Classical in
/-- over a list of the store, which the body leaves as it is -/
noncomputable def forL (g : TgM) (s : SM) (l : Nat) (all : List DV) : List DV → En → Wd → Rt
  | [], e, w => if w[l]? = some (.lst all) then .ok (.nx e) w else .bad
  | d :: ds, e, w => if w[l]? = some (.lst all) then (match g d e w with
    | none => .bad
    | some e1 => match s e1 w with
      | .ok (.nx e2) w2 => forL g s l all ds e2 w2
      | .ok (.ct e2) w2 => forL g s l all ds e2 w2
      | .ok (.bk e2) w2 => .ok (.nx e2) w2
      | .ok (.rt d) w2 => .ok (.rt d) w2
      | .ex c e2 w2 => .ex c e2 w2
      | .bad => .bad) else .bad
noncomputable def sFor (g : TgM) (x : XM) (s : SM) : SM := fun e w => (x e w).st e fun d w1 => match d with
  | .d (.list ds) => forD g s ds e w1
  | .loc l => match w1[l]? with
    | some (.lst xs) => forL g s l xs xs e w1
    | _ => .bad
  | _ => .bad
def rngD (lo : Int) (n : Nat) : List PyData := (List.range n).map fun (k : Nat) => .int (lo + (k : Int))
def okR (i : Int) : Bool := decide (-(2 ^ 62) ≤ i) && decide (i < 2 ^ 62)
def sForR1 (j : Nat) (x : XM) (s : SM) : SM := fun e w => (x e w).st e fun d w1 => match d with
  | .d (.int n) => if okR n = true then forD (gNm j) s (rngD 0 n.toNat) e w1 else .bad
  | _ => .bad
def sForR2 (j : Nat) (x y : XM) (s : SM) : SM := fun e w => (x e w).st e fun d w1 => (y e w1).st e fun d2 w2 => match d, d2 with
  | .d (.int lo), .d (.int hi) => if (okR lo && okR hi) = true then forD (gNm j) s (rngD lo (hi - lo).toNat) e w2 else .bad
  | _, _ => .bad

section
variable {X : Cx} {α : Addr × Str} {Wx : WX} {a b c e : Expr} {es : List Expr} {xa xb xc : XM} {xs : AM} {pos : Pos} {s t : SM} {st : Stmt} {ss tt : List Stmt}
theorem s_set {i : Nat} {x : Str} {p' : Pos} (h : ∀ te, PE X e te → PS X (.Assign [.Name x p'] e pos) (tAsg te (gName i))) (he : PE X e (cE X.K α Wx xa)) : PS X (.Assign [.Name x p'] e pos) (cS X.K α Wx (sSet i xa)) :=
  ps_imp (h _ he) fun D σ H ⟨ι, G, w, env, sw, ev, p⟩ => ⟨ι, G, w, env, sw, ev, PostS.st p ev fun d1 w1 v1 ι1 G1 H1 _ e1 s1 r1 p1 => p1 _ ι1 G1 H1 .refl s1 ((ev.mono e1).set (SlotR.of r1) i)⟩
theorem s_ret (he : PE X e (cE X.K α Wx xa)) : PS X (.Return (some e) pos) (cS X.K α Wx (sRet xa)) :=
  ps_imp (ps_ret he) fun D σ H ⟨ι, G, w, env, sw, ev, p⟩ => ⟨ι, G, w, env, sw, ev, PostS.st p ev fun d1 w1 v1 ι1 G1 H1 _ e1 s1 r1 p1 => p1 _ ι1 G1 H1 .refl s1 r1⟩
theorem s_expr (he : PE X e (cE X.K α Wx xa)) (hs : swapsWith e none pos.line X.env = pure false := by rfl) : PS X (.Expr e pos) (cS X.K α Wx (sExp xa)) :=
  ps_imp (ps_expr he hs) fun D σ H ⟨ι, G, w, env, sw, ev, p⟩ => ⟨ι, G, w, env, sw, ev, PostS.st p ev fun d1 w1 v1 ι1 G1 H1 _ e1 s1 r1 p1 => p1 _ ι1 G1 H1 .refl s1 (ev.mono e1)⟩
theorem s_pass : PS X (.Pass pos) (cS X.K α Wx sNil) := ps_imp ps_pass fun D σ H ⟨ι, G, w, env, sw, ev, p⟩ => p σ ι G H .refl sw ev
theorem s_cont : PS X (.Continue pos) (cS X.K α Wx sCt) := ps_imp ps_continue fun D σ H ⟨ι, G, w, env, sw, ev, p⟩ => p σ ι G H .refl sw ev
theorem s_brk : PS X (.Break pos) (cS X.K α Wx sBk) := ps_imp ps_break fun D σ H ⟨ι, G, w, env, sw, ev, p⟩ => p σ ι G H .refl sw ev
theorem ss_nil : PSs X [] (cS X.K α Wx sNil) := pss_imp pss_nil fun D σ H ⟨ι, G, w, env, sw, ev, p⟩ => p σ ι G H .refl sw ev
theorem ss_cons (h : PS X st (cS X.K α Wx s)) (hr : PSs X ss (cS X.K α Wx t)) : PSs X (st :: ss) (cS X.K α Wx (sSeq s t)) :=
  pss_imp (pss_cons h hr) fun D σ H ⟨ι, G, w, env, sw, ev, p⟩ => by
    refine ⟨ι, G, w, env, sw, ev, ?_⟩
    unfold sSeq at p
    cases q : s env w with
    | bad => rw [q] at p; exact p
    | ex c n w1 => rw [q] at p; exact p
    | ok c w1 =>
      cases c with
      | rt d => rw [q] at p; exact p
      | bk d => rw [q] at p; exact p
      | ct d => rw [q] at p; exact p
      | nx n =>
        rw [q] at p
        exact fun σ' ι' G' H' e1 s1 ev1 => ⟨ι', G', w1, n, s1, ev1, PostS.mono e1 p⟩
theorem ss_one (h : PS X st (cS X.K α Wx s)) : PSs X [st] (cS X.K α Wx s) := pss_imp (pss_cons h pss_nil) fun D σ H ⟨ι, G, w, env, sw, ev, p⟩ => ⟨ι, G, w, env, sw, ev, p⟩
theorem s_if (hc : PT X c (cT X.K α Wx xc)) (ha : PSs X ss (cS X.K α Wx s)) (hb : PSs X tt (cS X.K α Wx t)) : PS X (.If c ss tt pos) (cS X.K α Wx (sIf xc s t)) :=
  ps_imp (ps_if hc ha hb) fun D σ H ⟨ι, G, w, env, sw, ev, p⟩ => ⟨ι, G, w, env, sw, ev, PostS.st p ev fun d1 w1 v1 ι1 G1 H1 _ e1 s1 r1 p1 => by
    cases d1 with
    | loc l => exact p1.elim
    | exc l => exact p1.elim
    | d z =>
      cases z with
      | bool k =>
        cases r1
        refine ⟨k, rfl, ?_⟩
        cases k with
        | true =>
          rw [if_pos rfl]
          exact ⟨ι1, G1, w1, env, s1, ev.mono e1, p1⟩
        | false =>
          rw [if_neg Bool.false_ne_true]
          exact ⟨ι1, G1, w1, env, s1, ev.mono e1, p1⟩
      | _ => exact p1.elim⟩
theorem s_raise {n : Str} (h : PS X st (fun _ σ H => Wx (.ref (He.ga X.K n)) none σ H)) : PS X st (cS X.K α Wx (sRaise n)) :=
  ps_imp h fun D σ H ⟨ι, G, w, env, sw, ev, p⟩ => p σ ι G H .refl sw ev

/-! loops -/
theorem s_while {n : Nat} (hp : PassesOwn (model X.prog X.w) X.A X.env X.xe) (hc : PT X c (cT X.K α Wx xc)) (hb : PSs X ss (cS X.K α Wx s)) : PS X (.While c ss [] pos) (cS X.K α Wx (sWhile n xc s)) :=
  ps_imp (ps_while hp hc hb) fun D σ H ⟨ι, G, w, env, sw, ev, p⟩ => by
    refine ⟨fun m σ H => ∃ ι G w env, WS X.K ι G H w ∧ EnvR X.K α ι G σ env ∧ PostS X.K α Wx ι G H (whileF xc s m env w) D, ⟨n, ι, G, w, env, sw, ev, p⟩, ?_⟩
    rintro m σ H ⟨ι, G, w, env, sw, ev, p⟩
    cases m with
    | zero => exact p.elim
    | succ m =>
      refine ⟨ι, G, w, env, sw, ev, PostS.st p ev fun d1 w1 v1 ι1 G1 H1 _ e1 s1 r1 p1 => ?_⟩
      cases d1 with
      | loc l => exact p1.elim
      | exc l => exact p1.elim
      | d z =>
        cases z with
        | bool k =>
          cases r1
          refine ⟨k, rfl, ?_⟩
          cases k with
          | false =>
            rw [if_neg Bool.false_ne_true]
            exact p1 σ ι1 G1 H1 .refl s1 (ev.mono e1)
          | true =>
            rw [if_pos rfl]
            refine ⟨fun σ' H' => ∃ ι G w env, WS X.K ι G H' w ∧ EnvR X.K α ι G σ' env ∧ PostS X.K α Wx ι G H' (whileF xc s m env w) D, fun σ' H' q => ⟨m, Nat.lt_succ_self m, q⟩, ι1, G1, w1, env, s1, ev.mono e1, ?_⟩
            simp only at p1
            cases q : s env w1 with
            | bad => rw [q] at p1; exact p1
            | ex c n w1 => rw [q] at p1; exact p1
            | ok c w2 =>
              cases c with
              | rt d => rw [q] at p1; exact p1
              | bk d => rw [q] at p1; exact p1
              | ct n => rw [q] at p1; exact fun σ' ι' G' H' e1 s1 ev1 => ⟨ι', G', w2, n, s1, ev1, PostS.mono e1 p1⟩
              | nx n => rw [q] at p1; exact fun σ' ι' G' H' e1 s1 ev1 => ⟨ι', G', w2, n, s1, ev1, PostS.mono e1 p1⟩
        | _ => exact p1.elim
/-- a target by the machine -/
def TgOk (K : PySem.W.Frag) (α : Addr × Str) (g : TG) (m : TgM) : Prop := ∀ ι G H w σ env v d e' (Q : L2.St → Hp → Prop), WS K ι G H w → EnvR K α ι G σ env → RD K ι G v d → m d env w = some e' → (∀ σ', EnvR K α ι G σ' e' → Q σ' H) → g v σ H Q
theorem tg_name {K : PySem.W.Frag} (j : Nat) : TgOk K α (gName j) (gNm j) := by
  intro ι G H w σ env v d e' Q sw ev r h k
  cases h
  exact k _ (ev.set (SlotR.of r) j)
/-- one turn's end -/
theorem turn_end {K : PySem.W.Frag} {ι : List Addr} {G H : Hp} {w : Wd} {σ : L2.St} {env : En} {D : Ends} {N : L2.St → Hp → Prop} {F : En → Wd → Rt} {r : Rt}
    (p : PostS K α Wx ι G H (match r with
      | .ok (.nx e2) w2 => F e2 w2
      | .ok (.ct e2) w2 => F e2 w2
      | .ok (.bk e2) w2 => .ok (.nx e2) w2
      | .ok (.rt d) w2 => .ok (.rt d) w2
      | .ex c e2 w2 => .ex c e2 w2
      | .bad => .bad) D)
    (k : ∀ σ' ι' G' H' e2 w2, Evo ι G H ι' G' H' → WS K ι' G' H' w2 → EnvR K α ι' G' σ' e2 → PostS K α Wx ι' G' H' (F e2 w2) D → N σ' H') :
    PostS K α Wx ι G H r { D with nx := N, ct := N, bk := D.nx } := by
  cases r with
  | bad => exact p
  | ex c n w1 => exact p
  | ok c w2 =>
    cases c with
    | rt d => exact p
    | bk d => exact p
    | ct n => exact fun σ' ι' G' H' e1 s1 ev1 => k σ' ι' G' H' n w2 e1 s1 ev1 (PostS.mono e1 p)
    | nx n => exact fun σ' ι' G' H' e1 s1 ev1 => k σ' ι' G' H' n w2 e1 s1 ev1 (PostS.mono e1 p)
/-- what a turn of a loop over data keeps -/
def TurnP (K : PySem.W.Frag) (α : Addr × Str) (Wx : WX) (D : Ends) (ι₀ : List Addr) (G₀ H₀ : Hp) (F : En → Wd → Rt) : L2.St → Hp → Prop := fun σ H =>
  ∃ ι G w env, Evo ι₀ G₀ H₀ ι G H ∧ WS K ι G H w ∧ EnvR K α ι G σ env ∧ PostS K α Wx ι G H (F env w) D
theorem turnD {K : PySem.W.Frag} {g : TG} {m : TgM} (hg : TgOk K α g m) {D : Ends} {ι₀ : List Addr} {G₀ H₀ : Hp} {d : PyData} {ds : List PyData} {x : V} {σ : L2.St} {H : Hp}
    (hx : ∀ ι G H, Evo ι₀ G₀ H₀ ι G H → Dp K G x d) (h : TurnP K α Wx D ι₀ G₀ H₀ (forD m s (d :: ds)) σ H) :
    g x σ H fun σ2 H2 => cS K α Wx s { D with nx := TurnP K α Wx D ι₀ G₀ H₀ (forD m s ds), ct := TurnP K α Wx D ι₀ G₀ H₀ (forD m s ds), bk := D.nx } σ2 H2 := by
  obtain ⟨ι, G, w, env, e0, sw, ev, p⟩ := h
  unfold forD at p
  cases q : m (.d d) env w with
  | none => rw [q] at p; exact p.elim
  | some e1 =>
    rw [q] at p
    refine hg ι G H w σ env x (.d d) e1 _ sw ev (hx ι G H e0) q fun σ2 ev2 => ⟨ι, G, w, e1, sw, ev2, ?_⟩
    exact turn_end (F := forD m s ds) (σ := σ2) (env := e1) (w := w) p fun σ' ι' G' H' e2 w2 E1 S1 EV1 P1 => ⟨ι', G', w2, e2, e0.trans E1, S1, EV1, P1⟩
theorem for_dataL {K : PySem.W.Frag} {g : TG} {m : TgM} (hg : TgOk K α g m) {D : Ends} {ι : List Addr} {G H : Hp} {w : Wd} {σ : L2.St} {env : En} {a : Addr} {vs : List V} {ds : List PyData}
    (sw : WS K ι G H w) (ev : EnvR K α ι G σ env) (hv : SqL K G a vs) (hd : DpAll K G vs ds) (p : PostS K α Wx ι G H (forD m s ds env w) D) :
    ∃ W : Nat → Nat → L2.St → Hp → Prop, (∃ m, W 0 m σ H) ∧ ∀ i m σ H, W i m σ H →
      ((Itl K a).stop i H ∧ D.nx σ H) ∨ ((Itl K a).go i H ∧ ∃ N : L2.St → Hp → Prop, (∀ σ' H', N σ' H' → ∃ m', m' < m ∧ W (i + 1) m' σ' H') ∧ ∀ x H', (Itl K a).yld i H x H' → g x σ H' fun σ2 H2 => cS K α Wx s { D with nx := N, ct := N, bk := D.nx } σ2 H2) := by
  refine for_list (xs := vs) (fun i σ' H' => TurnP K α Wx D ι G H (forD m s (ds.drop i)) σ' H') ⟨ι, G, w, env, .refl, sw, ev, p⟩ (fun i σ' H' _ ⟨ι1, G1, w1, n1, e1, s1, _, _⟩ => Evl.ex_l (e1.g.trans s1.sub) hv) ?_ ?_
  · intro i x σ' H' hx h
    obtain ⟨d, hd1, hd2⟩ : ∃ d, ds[i]? = some d ∧ Dp K G x d := by
      have hi : i < ds.length := by rw [← dps_len hd]; exact (List.getElem?_eq_some_iff.mp hx).1
      obtain ⟨v, e1, e2⟩ := dps_at hd (show ds[i]? = some ds[i] by simp [hi])
      rw [hx] at e1; cases e1
      exact ⟨_, by simp [hi], e2⟩
    have hi : i < ds.length := (List.getElem?_eq_some_iff.mp hd1).1
    have e : ds.drop i = d :: ds.drop (i + 1) := by
      rw [List.drop_eq_getElem_cons hi]
      have := (List.getElem?_eq_some_iff.mp hd1).2
      rw [this]
    have h : TurnP K α Wx D ι G H (forD m s (ds.drop i)) σ' H' := h
    rw [e] at h
    exact turnD hg (fun ι' G' H' E => dp_mono E.g _ _ hd2) h
  · rintro σ' H' ⟨ι1, G1, w1, n1, e1, s1, ev1, p1⟩
    rw [show ds.drop vs.length = [] by rw [dps_len hd]; exact List.drop_length] at p1
    exact p1 σ' ι1 G1 H' .refl s1 ev1
theorem for_rngD {K : PySem.W.Frag} {g : TG} {m : TgM} (hg : TgOk K α g m) {D : Ends} {ι : List Addr} {G H : Hp} {w : Wd} {σ : L2.St} {env : En} {lo : Int} {n : Nat}
    (sw : WS K ι G H w) (ev : EnvR K α ι G σ env) (p : PostS K α Wx ι G H (forD m s (rngD lo n) env w) D) :
    ∃ W : Nat → Nat → L2.St → Hp → Prop, (∃ m, W 0 m σ H) ∧ ∀ i m σ H, W i m σ H →
      ((Itr lo n).stop i H ∧ D.nx σ H) ∨ ((Itr lo n).go i H ∧ ∃ N : L2.St → Hp → Prop, (∀ σ' H', N σ' H' → ∃ m', m' < m ∧ W (i + 1) m' σ' H') ∧ ∀ x H', (Itr lo n).yld i H x H' → g x σ H' fun σ2 H2 => cS K α Wx s { D with nx := N, ct := N, bk := D.nx } σ2 H2) := by
  have hl : (rngD lo n).length = n := by simp [rngD]
  refine for_range (fun i σ' H' => TurnP K α Wx D ι G H (forD m s ((rngD lo n).drop i)) σ' H') ⟨ι, G, w, env, .refl, sw, ev, p⟩ ?_ ?_
  · intro i σ' H' hi h
    have e : (rngD lo n).drop i = .int (lo + i) :: (rngD lo n).drop (i + 1) := by
      rw [List.drop_eq_getElem_cons (by rw [hl]; exact hi)]
      simp [rngD]
    have h : TurnP K α Wx D ι G H (forD m s ((rngD lo n).drop i)) σ' H' := h
    rw [e] at h
    exact turnD hg (fun ι' G' H' E => .int _) h
  · rintro σ' H' ⟨ι1, G1, w1, n1, e1, s1, ev1, p1⟩
    rw [show (rngD lo n).drop n = [] by exact List.drop_of_length_le (by rw [hl]; exact Nat.le_refl n)] at p1
    exact p1 σ' ι1 G1 H' .refl s1 ev1
/-- over a list of the store -/
theorem for_storeL {K : PySem.W.Frag} {g : TG} {m : TgM} (hg : TgOk K α g m) {D : Ends} {ι : List Addr} {G H : Hp} {w : Wd} {σ : L2.St} {env : En} {a : Addr} {l : Nat} {xs : List DV}
    (sw : WS K ι G H w) (ev : EnvR K α ι G σ env) (hl : ι[l]? = some a) (p : PostS K α Wx ι G H (forL m s l xs xs env w) D) :
    ∃ W : Nat → Nat → L2.St → Hp → Prop, (∃ m, W 0 m σ H) ∧ ∀ i m σ H, W i m σ H →
      ((Itl K a).stop i H ∧ D.nx σ H) ∨ ((Itl K a).go i H ∧ ∃ N : L2.St → Hp → Prop, (∀ σ' H', N σ' H' → ∃ m', m' < m ∧ W (i + 1) m' σ' H') ∧ ∀ x H', (Itl K a).yld i H x H' → g x σ H' fun σ2 H2 => cS K α Wx s { D with nx := N, ct := N, bk := D.nx } σ2 H2) := by
  refine ⟨fun i k σ' H' => k = xs.length - i ∧ i ≤ xs.length ∧ TurnP K α Wx D ι G H (forL m s l xs (xs.drop i)) σ' H', ⟨xs.length, by simp, Nat.zero_le _, ι, G, w, env, .refl, sw, ev, p⟩, ?_⟩
  rintro i k σ' H' ⟨rfl, hi, ι1, G1, w1, n1, e1, s1, ev1, p1⟩
  have hl1 : ι1[l]? = some a := by
    obtain ⟨n, e, _⟩ := e1.pre
    rw [e, List.getElem?_append_left (List.getElem?_eq_some_iff.mp hl).1]
    exact hl
  by_cases hlt : i < xs.length
  · right
    have e : xs.drop i = xs[i] :: xs.drop (i + 1) := List.drop_eq_getElem_cons hlt
    rw [e] at p1
    unfold forL at p1
    split at p1
    · rename_i hw
      obtain ⟨vs, f1, f2⟩ := s1.ob l a _ hl1 hw
      obtain ⟨v, f3, f4⟩ := rds_at f2 (show xs[i]? = some xs[i] by simp [hlt])
      refine ⟨⟨vs, v, Evl.sq_of f1, f3⟩, fun σ2 H2 => TurnP K α Wx D ι G H (forL m s l xs (xs.drop (i + 1))) σ2 H2, fun σ2 H2 q => ⟨xs.length - (i + 1), by omega, rfl, hlt, q⟩, fun x H2 y => ?_⟩
      obtain ⟨rfl, y⟩ := y
      have hx := y vs (Evl.sq_of f1)
      rw [hx] at f3; cases f3
      cases q : m xs[i] n1 w1 with
      | none => rw [q] at p1; exact p1.elim
      | some n2 =>
        rw [q] at p1
        refine hg ι1 G1 _ w1 σ' n1 _ _ n2 _ s1 ev1 f4 q fun σ2 ev2 => ⟨ι1, G1, w1, n2, s1, ev2, ?_⟩
        exact turn_end (F := forL m s l xs (xs.drop (i + 1))) (σ := σ2) (env := n2) (w := w1) p1 fun σ' ι' G' H' e2 w2 E1 S1 EV1 P1 => ⟨ι', G', w2, e2, e1.trans E1, S1, EV1, P1⟩
    · exact p1.elim
  · left
    have e : i = xs.length := by omega
    subst e
    rw [List.drop_length] at p1
    unfold forL at p1
    split at p1
    · rename_i hw
      obtain ⟨vs, f1, f2⟩ := s1.ob l a _ hl1 hw
      exact ⟨⟨vs, Evl.sq_of f1, by rw [rds_len f2]; exact Nat.le_refl _⟩, p1 σ' ι1 G1 H' .refl s1 ev1⟩
    · exact p1.elim
theorem s_for {tg : Expr} {g : TG} {m : TgM} (hg : TgOk X.K α g m) (hp : PassesOwn (model X.prog X.w) X.A X.env X.xe) (hc : X.calm = true) (hx : PE X e (cE X.K α Wx xa)) (hgt : PG X tg g) (hb : PSs X ss (cS X.K α Wx s))
    (hs : ∀ x, foldedSetIterable e X.env x = pure x := by intro _; rfl) : PS X (.For tg e ss [] pos) (cS X.K α Wx (sFor m xa s)) :=
  ps_imp (ps_for hp hc (pi_list hx) hgt hb hs) fun D σ H ⟨ι, G, w, env, sw, ev, p⟩ => ⟨ι, G, w, env, sw, ev, PostS.st p ev fun d1 w1 v1 ι1 G1 H1 _ e1 s1 r1 p1 => by
    cases d1 with
    | exc l => exact p1.elim
    | loc l =>
      obtain ⟨a, h1, rfl⟩ := r1
      simp only at p1
      cases q : w1[l]? with
      | none => rw [q] at p1; exact p1.elim
      | some o =>
        rw [q] at p1
        cases o with
        | lst xs =>
          obtain ⟨vs, f1, f2⟩ := s1.ob l a _ h1 q
          exact ⟨a, rfl, ⟨vs, Evl.sq_of f1⟩, for_storeL hg s1 (ev.mono e1) h1 p1⟩
        | _ => exact p1.elim
    | d z =>
      cases z with
      | list ds =>
        cases r1 with
        | lst h1 h2 => exact ⟨_, rfl, ⟨_, Evl.ex_l s1.sub h1⟩, for_dataL hg s1 (ev.mono e1) h1 h2 p1⟩
      | _ => exact p1.elim⟩
theorem okR_iff {i : Int} (h : okR i = true) : -(2 ^ 62) ≤ i ∧ i < 2 ^ 62 := by
  unfold okR at h
  simp only [Bool.and_eq_true, decide_eq_true_eq] at h
  exact h
theorem s_forR1 {n tgp : Pos} {j : Nat} {tg : Str} (hp : PassesOwn (model X.prog X.w) X.A X.env X.xe) (hc : X.calm = true) (hgl : Gl X "range") (hm : X.mg "range" = none) (hx : PE X e (cE X.K α Wx xa)) (hgt : PG X (.Name tg tgp) (gName j)) (hb : PSs X ss (cS X.K α Wx s))
    {cpos : Pos} (hs1 : starEach [e] X.env = (false, eval e X.env) :: starEach [] X.env := by rfl) (hs : ∀ x, foldedSetIterable (.Call (.Name "range" n) [e] [] cpos) X.env x = pure x := by intro _; rfl) : PS X (.For (.Name tg tgp) (.Call (.Name "range" n) [e] [] cpos) ss [] pos) (cS X.K α Wx (sForR1 j xa s)) :=
  ps_imp (ps_for hp hc (pi_range1 hgl hm (pa_cons hx pa_nil hs1) hs1) hgt hb hs) fun D σ H ⟨ι, G, w, env, sw, ev, p⟩ => ⟨ι, G, w, env, sw, ev, PostS.st p ev fun d1 w1 v1 ι1 G1 H1 _ e1 s1 r1 p1 => by
    cases d1 with
    | exc l => exact p1.elim
    | loc l => exact p1.elim
    | d z =>
      cases z with
      | int k =>
        cases r1
        simp only at p1
        split at p1
        · rename_i hk
          obtain ⟨h1, h2⟩ := okR_iff hk
          exact ⟨k, rfl, h1, h2, for_rngD (tg_name j) s1 (ev.mono e1) p1⟩
        · exact p1.elim
      | _ => exact p1.elim⟩
theorem s_forR2 {n tgp : Pos} {j : Nat} {tg : Str} {e2 : Expr} (hp : PassesOwn (model X.prog X.w) X.A X.env X.xe) (hc : X.calm = true) (hgl : Gl X "range") (hm : X.mg "range" = none) (hx : PE X e (cE X.K α Wx xa)) (hy : PE X e2 (cE X.K α Wx xb)) (hgt : PG X (.Name tg tgp) (gName j)) (hb : PSs X ss (cS X.K α Wx s))
    {cpos : Pos} (hs1 : starEach [e, e2] X.env = (false, eval e X.env) :: starEach [e2] X.env := by rfl) (hs2 : starEach [e2] X.env = (false, eval e2 X.env) :: starEach [] X.env := by rfl)
    (hs3 : starEach [e, e2] X.env = [(false, eval e X.env), (false, eval e2 X.env)] := by rfl) (hs : ∀ x, foldedSetIterable (.Call (.Name "range" n) [e, e2] [] cpos) X.env x = pure x := by intro _; rfl) : PS X (.For (.Name tg tgp) (.Call (.Name "range" n) [e, e2] [] cpos) ss [] pos) (cS X.K α Wx (sForR2 j xa xb s)) :=
  ps_imp (ps_for hp hc (pi_range2 hgl hm (pa_cons hx (pa_cons hy pa_nil hs2) hs1) hs3 hs2) hgt hb hs) fun D σ H ⟨ι, G, w, env, sw, ev, p⟩ => ⟨ι, G, w, env, sw, ev, PostS.st p ev fun d1 w1 v1 ι1 G1 H1 _ e1 s1 r1 p1 =>
    ⟨ι1, G1, w1, env, s1, ev.mono e1, PostS.st p1 (ev.mono e1) fun d2 w2 v2 ι2 G2 H2 _ e2 s2 r2 p2 => by
    cases d1 with
    | exc l => exact p2.elim
    | loc l => exact p2.elim
    | d z =>
      cases z with
      | int k =>
        cases d2 with
        | exc l => exact p2.elim
        | loc l => exact p2.elim
        | d z2 =>
          cases z2 with
          | int k2 =>
            cases r1; cases r2
            simp only at p2
            split at p2
            · rename_i hk
              obtain ⟨hk1, hk2⟩ := Bool.and_eq_true_iff.mp hk
              obtain ⟨h1, h2⟩ := okR_iff hk1
              obtain ⟨h3, h4⟩ := okR_iff hk2
              exact ⟨k, k2, rfl, ⟨h1, h2, h3, h4⟩, for_rngD (tg_name j) s2 ((ev.mono e1).mono e2) p2⟩
            · exact p2.elim
          | _ => exact p2.elim
      | _ => exact p2.elim⟩⟩
end

/-! ### defs -/
inductive Rp where
  | ok (d : PyData)
  | ex (c : Str)
  | bad
abbrev FP := List PyData → Rp
abbrev FW := List DV → Wd → Rs DV
/-- a def of plain data: plain data comes out -/
def spP (K : PySem.W.Frag) (n : Nat) (f : FP) : Sp := fun vs H Q E => vs.length = n ∧ ∃ G ds, Ex G H ∧ DpAll K G vs ds ∧ match f ds with
  | .ok d => ∀ v G' H', Evo [] G H [] G' H' → Ex G' H' → Dp K G' v d → Q v H'
  | .ex c => ∀ H', Ex H H' → E (.ref (He.ga K c)) none H'
  | .bad => False
/-- a def over the store -/
def spW (K : PySem.W.Frag) (n : Nat) (f : FW) : Sp := fun vs H Q E => vs.length = n ∧ ∃ ι G w ds, WS K ι G H w ∧ RDs K ι G vs ds ∧ PostE K (fun cls d _ H => E cls d H) ι G H [] (f ds w) Q
def initE (n : Nat) (ds : List DV) : En := ds.map some ++ List.replicate (n - ds.length) none
/-- what a body of plain data tells -/
def finP : Rt → Rp
  | .ok (.rt v) w => match toD 6 w v with
    | some d => .ok d
    | none => .bad
  | .ok (.nx _) _ => .ok .none
  | .ex c _ _ => .ex c
  | _ => .bad
def finW : Rt → Rs DV
  | .ok (.rt v) w => .ok v w
  | .ok (.nx _) w => .ok (.d .none) w
  | .ex c _ w => .ex c w
  | _ => .bad
def runP (n : Nat) (s : SM) : FP := fun ds => finP (s (initE n (ds.map .d)) [])
def runW (n : Nat) (s : SM) : FW := fun ds w => finW (s (initE n ds) w)
theorem env_start {K : PySem.W.Frag} {α : Addr × Str} {ι : List Addr} {G : Hp} {N : List Str} {vs : List V} {ds : List DV} (r : RDs K ι G vs ds) : EnvR K α ι G (L2.start N vs) (initE N.length ds) := by
  unfold L2.start initE
  rw [rds_len r]
  have h1 : ∀ {vs : List V} {ds : List DV} {σ : L2.St} {e : En}, RDs K ι G vs ds → EnvR K α ι G σ e → EnvR K α ι G (vs.map some ++ σ) (ds.map some ++ e) := by
    intro vs ds σ e r q
    induction r with
    | nil => exact q
    | cons r1 r2 ih => exact .cons (SlotR.of r1) ih
  have h2 : ∀ n : Nat, EnvR K α ι G (List.replicate n none) (List.replicate n none) := by
    intro n
    induction n with
    | zero => exact .nil
    | succ n ih => exact .cons trivial ih
  exact h1 r (h2 _)
theorem rds_of_dps {K : PySem.W.Frag} {ι : List Addr} {G : Hp} : ∀ {vs : List V} {ds : List PyData}, DpAll K G vs ds → RDs K ι G vs (ds.map .d)
  | _, [], h => by cases h; exact .nil
  | _, d :: ds, h => by
    cases h with
    | cons h1 h2 => exact .cons h1 (rds_of_dps h2)
theorem ws_nil {K : PySem.W.Frag} {G H : Hp} (e : Ex G H) : WS K [] G H [] := ⟨e, List.nodup_nil, rfl, fun a h => (by cases h), fun l a o h _ => (by simp at h)⟩
/-- the new data of a def of plain data -/
theorem cutG {K : PySem.W.Frag} {ι : List Addr} {G H G1 H1 : Hp} {w : Wd} {v : V} {x : DV} {n : Nat} {d : PyData} (e0 : Ex G H) (e : Evo [] G H ι G1 H1) (s : WS K ι G1 H1 w) (r : RD K ι G1 v x) (h : toD n w x = some d) :
    ∃ G2, Evo [] G H [] G2 H1 ∧ Ex G2 H1 ∧ Dp K G2 v d := by
  have hHH : Ex H H1 := fun a o q => e.h a o (by simp) q
  refine ⟨fun a => match H a with | none => H1 a | some _ => G a, ⟨⟨[], rfl, fun a h => by cases h⟩, fun a o q => ?_, fun a ha => ?_, e.h, e.dom⟩, fun a o q => ?_, ?_⟩
  · have q2 := e0 a o q
    simp only [q2]; exact q
  · cases q : H a with
    | none => exact absurd q ha
    | some o => rfl
  · cases q2 : H a with
    | none => simp only [q2] at q; exact q
    | some u =>
      simp only [q2] at q
      exact hHH a o (e0 a o q)
  · refine dp_toD s (fun a o q => ?_) (fun a ha o q => ?_) n x v d r h
    · cases q2 : H a with
      | none => simp only [q2]; exact s.sub a o q
      | some u =>
        simp only [q2]
        rw [← e.gn a (by rw [q2]; simp)]; exact q
    · obtain ⟨new, e1, e2⟩ := e.pre
      have : H a = none := e2 a (by rw [e1] at ha; simpa using ha)
      simp only [this]; exact q
section
variable {P : Program} {w : World} {K : PySem.W.Frag} {mg : Str → Option Value} {base : Heap} {x qual : Str} {params : Arguments} {body : List Stmt} {scope : Scope} {f : Addr} {fd : FuncData} {N ps : List Str} {k : Nat} {s : SM}
/-- what a body is shown for: its def -/
abbrev wishOf (E : XK) : WX := fun cls d _ H => E cls d H
abbrev BodyOk (P : Program) (w : World) (K : PySem.W.Frag) (mg : Str → Option Value) (base : Heap) (qual : Str) (body : List Stmt) (scope : Scope) (f : Addr) (N : List Str) (k : Nat) (s : SM) : Prop :=
  ∀ (cdv : Value) (A : Around) (outer : List Env) (st : Shared) (H : Hp) (E : XK), Room k (A.deeper (envOfC qual scope st.heap.objs.size f cdv)) →
    PSs (cxOf (L2.CX P w) P w K mg base N qual scope f cdv A outer st H E) body (cS K (0, Str.ofString "") (wishOf E) s)
theorem ok_P (F : FunD K x qual params body scope [] [] f fd) (S : FnScope N ps scope) (hb : BodyOk P w K mg base qual body scope f N k s) : FnOk P w K mg base (L2.CX P w) (k + 1) f fd ps (spP K ps.length (runP N.length s)) := by
  refine F.ok S (fun vs H Q E h => h.1) (fun cdv A outer st H vs Q E hr h => ⟨_, hb cdv A outer st H E hr, ?_⟩)
  obtain ⟨hl, G, ds, e0, hd, p⟩ := h
  refine ⟨[], G, [], initE N.length (ds.map .d), ws_nil e0, env_start (rds_of_dps hd), ?_⟩
  unfold runP finP at p
  cases q : s (initE N.length (ds.map .d)) [] with
  | bad => rw [q] at p; exact p
  | ex c n w1 => rw [q] at p; exact fun σ' ι' G' H' e1 s1 _ => p H' fun a o h => e1.h a o (by simp) h
  | ok c w1 =>
    cases c with
    | bk n => rw [q] at p; exact p.elim
    | ct n => rw [q] at p; exact p.elim
    | nx n =>
      rw [q] at p
      intro σ' ι' G' H' e1 s1 _
      obtain ⟨G2, f1, f2, f3⟩ := cutG (v := .non) (x := .d .none) (n := 6) (d := .none) e0 e1 s1 .non rfl
      exact p .non G2 H' f1 f2 f3
    | rt v =>
      rw [q] at p
      intro u ι' G' H' e1 s1 r1
      simp only at p
      cases q2 : toD 6 w1 v with
      | none => rw [q2] at p; exact p.elim
      | some d =>
        rw [q2] at p
        obtain ⟨G2, f1, f2, f3⟩ := cutG e0 e1 s1 r1 q2
        exact p u G2 H' f1 f2 f3
theorem ok_W (F : FunD K x qual params body scope [] [] f fd) (S : FnScope N ps scope) (hb : BodyOk P w K mg base qual body scope f N k s) : FnOk P w K mg base (L2.CX P w) (k + 1) f fd ps (spW K ps.length (runW N.length s)) := by
  refine F.ok S (fun vs H Q E h => h.1) (fun cdv A outer st H vs Q E hr h => ⟨_, hb cdv A outer st H E hr, ?_⟩)
  obtain ⟨hl, ι, G, w0, ds, sw, hd, p⟩ := h
  refine ⟨ι, G, w0, initE N.length ds, sw, env_start hd, ?_⟩
  unfold runW finW at p
  cases q : s (initE N.length ds) w0 with
  | bad => rw [q] at p; exact p
  | ex c n w1 => rw [q] at p; exact fun σ' ι' G' H' e1 s1 _ => p ι' G' H' e1 s1
  | ok c w1 =>
    cases c with
    | bk n => rw [q] at p; exact p.elim
    | ct n => rw [q] at p; exact p.elim
    | nx n => rw [q] at p; exact fun σ' ι' G' H' e1 s1 _ => p .non ι' G' H' e1 s1 .non
    | rt v => rw [q] at p; exact fun u ι' G' H' e1 s1 r1 => p u ι' G' H' e1 s1 r1
/-- a def of the module, as its callers take it -/
structure Fn (P : Program) (w : World) (K : PySem.W.Frag) (mg : Str → Option Value) (base : Heap) (x : Str) (k : Nat) (sp : Sp) : Prop where
  at_ : mg x = some (.ref (He.ga K x))
  kp : PySem.W.keepIn K (.ref (He.ga K x)) = true
  ok : ∃ (fd : FuncData) (ps : List Str), FnOk P w K mg base (L2.CX P w) k (He.ga K x) fd ps sp ∧ Binds K fd ps []
structure Md (P : Program) (w : World) (K : PySem.W.Frag) (mg : Str → Option Value) (base : Heap) (C m : Str) (k : Nat) (sp : Sp) : Prop where
  meth : Meth K (He.ga K C) m (He.ma K (He.ga K C) m)
  ok : ∃ (fd : FuncData) (ps : List Str), FnOk P w K mg base (L2.CX P w) k (He.ma K (He.ga K C) m) fd ps sp ∧ Binds K fd ps []
end

/-! ### calls -/
def xCallP (f : FP) (xs : AM) : XM := fun e w => (xs e w).bind fun ds w1 => match allD ds with
  | some ps => match f ps with
    | .ok d => .ok (.d d) w1
    | .ex c => .ex c w1
    | .bad => .bad
  | none => .bad
def isSc : PyData → Bool
  | .list _ => false
  | .tuple _ => false
  | .dict _ => false
  | _ => true
/-- the arguments may lie in the store; a scalar comes out -/
def xCallS (f : FP) (xs : AM) : XM := fun e w => (xs e w).bind fun ds w1 => match mapO (toD 6 w1) ds with
  | some ps => match f ps with
    | .ok d => if isSc d = true then .ok (.d d) w1 else .bad
    | .ex c => .ex c w1
    | .bad => .bad
  | none => .bad
def xCallW (f : FW) (xs : AM) : XM := fun e w => (xs e w).bind fun ds w1 => f ds w1
theorem sc_dp {K : PySem.W.Frag} {G G' : Hp} {v : V} {d : PyData} (h : isSc d = true) (q : Dp K G v d) : Dp K G' v d := by
  cases q with
  | non => exact .non
  | bl b => exact .bl b
  | int b => exact .int b
  | str b => exact .str b
  | lst => cases h
  | tup => cases h
theorem toDs_dp {K : PySem.W.Frag} {ι : List Addr} {G H : Hp} {w : Wd} (s : WS K ι G H w) {n : Nat} : ∀ {xs : List DV} {vs : List V} {ds : List PyData}, RDs K ι G vs xs → mapO (toD n w) xs = some ds → DpAll K H vs ds
  | [], _, ds, .nil, e => by simp only [mapO, Option.some.injEq] at e; subst e; exact .nil
  | x :: xs, _, ds, .cons r1 r2, e => by
    simp only [mapO] at e
    cases q : toD n w x with
    | none => rw [q] at e; cases e
    | some y =>
      rw [q] at e
      simp only at e
      cases q2 : mapO (toD n w) xs with
      | none => rw [q2] at e; cases e
      | some ys =>
        rw [q2] at e
        simp only [Option.map_some, Option.some.injEq] at e
        subst e
        exact .cons (dp_toDH s r1 q) (toDs_dp s r2 q2)
theorem evo_ex {ι : List Addr} {G H H' : Hp} (e : Ex H H') : Evo ι G H ι G H' := ⟨⟨[], by simp, fun a h => by cases h⟩, Evl.Ex.refl _, fun _ _ => rfl, fun a o _ q => e a o q, fun a h => by
  cases q : H a with
  | none => exact absurd q h
  | some o => rw [e a o q]; simp⟩
theorem ws_ex {K : PySem.W.Frag} {ι : List Addr} {G H H' : Hp} {w : Wd} (s : WS K ι G H w) (e : Ex H H') : WS K ι G H' w := ⟨s.sub.trans e, s.nd, s.len, s.out, fun l a o h1 h2 => by
  have r := s.ob l a o h1 h2
  cases q : H a with
  | none => exact absurd q r.some
  | some u => rw [q] at r; rw [e a u q]; exact r⟩
/-- a store beside what a def of plain data has made -/
theorem ws_evo {K : PySem.W.Frag} {ι : List Addr} {G H G' H' : Hp} {w : Wd} (s : WS K ι G H w) (e : Evo [] G H [] G' H') (e2 : Ex G' H') : Evo ι G H ι G' H' ∧ WS K ι G' H' w := by
  have hHH : Ex H H' := fun a o q => e.h a o (by simp) q
  have E : Evo ι G H ι G' H' := ⟨⟨[], by simp, fun a h => by cases h⟩, e.g, e.gn, fun a o _ q => hHH a o q, e.dom⟩
  exact ⟨E, e2, s.nd, s.len, fun a ha => (e.gn a (s.dom ha)).trans (s.out a ha), fun l a o h1 h2 => by
    have r := s.ob l a o h1 h2
    cases q : H a with
    | none => exact absurd q r.some
    | some u => rw [q] at r; rw [hHH a u q]; exact r.mono E⟩
section
variable {X : Cx} {α : Addr × Str} {Wx : WX} {a b c e : Expr} {es : List Expr} {xa xb xc : XM} {xs : AM} {pos : Pos} {n : Nat} {f : FP} {fw : FW} {x m : Str} {p : Pos} {k : Nat}
theorem sp_callP {K : PySem.W.Frag} {ι : List Addr} {G H : Hp} {w : Wd} {σ : L2.St} {Q : VK} {ds : List DV} {vs : List V} (hn : vs.length = n) (s : WS K ι G H w) (r : RDs K ι G vs ds)
    (p : PostE K Wx ι G H σ (match allD ds with
      | some ps => match f ps with
        | .ok d => .ok (.d d) w
        | .ex c => .ex c w
        | .bad => .bad
      | none => .bad) Q) : spP K n f vs H Q (WE Wx σ) := by
  cases q : allD ds with
  | none => rw [q] at p; exact p.elim
  | some ps =>
    rw [q] at p
    simp only at p
    refine ⟨hn, G, ps, s.sub, all_dp r q, ?_⟩
    cases q2 : f ps with
    | bad => rw [q2] at p; exact p
    | ex c => rw [q2] at p; exact fun H' e => p ι G H' (evo_ex e) (ws_ex s e)
    | ok d =>
      rw [q2] at p
      exact fun v G' H' e1 e2 h => let ⟨E, S⟩ := ws_evo s e1 e2; p v ι G' H' E S h
theorem sp_callS {K : PySem.W.Frag} {ι : List Addr} {G H : Hp} {w : Wd} {σ : L2.St} {Q : VK} {ds : List DV} {vs : List V} (hn : vs.length = n) (s : WS K ι G H w) (r : RDs K ι G vs ds)
    (p : PostE K Wx ι G H σ (match mapO (toD 6 w) ds with
      | some ps => match f ps with
        | .ok d => if isSc d = true then .ok (.d d) w else .bad
        | .ex c => .ex c w
        | .bad => .bad
      | none => .bad) Q) : spP K n f vs H Q (WE Wx σ) := by
  cases q : mapO (toD 6 w) ds with
  | none => rw [q] at p; exact p.elim
  | some ps =>
    rw [q] at p
    simp only at p
    refine ⟨hn, H, ps, Evl.Ex.refl _, toDs_dp s r q, ?_⟩
    cases q2 : f ps with
    | bad => rw [q2] at p; exact p
    | ex c => rw [q2] at p; exact fun H' e => p ι G H' (evo_ex e) (ws_ex s e)
    | ok d =>
      rw [q2] at p
      simp only at p
      intro v G' H' e1 e2 h
      have hHH : Ex H H' := fun a o q => e1.h a o (by simp) q
      split at p
      · rename_i hs
        exact p v ι G H' (evo_ex hHH) (ws_ex s hHH) (sc_dp hs h)
      · exact p.elim
/-- the call of a def by its name -/
theorem x_call {sp : Sp} (F : Fn X.prog X.w X.K X.mg X.base x k sp) (hr : Room k X.A) (tk : Takes X Wx) (hg : Gl X x) {te : TA} (ha : PA X (e :: es) te) (hdb : (x == ("__debug__" : Str)) = false := by decide)
    (he : starEach (e :: es) X.env = (false, eval e X.env) :: starEach es X.env := by rfl) (hpl : (backTo pos (starEach es X.env)).any (·.1) = false := by rfl) :
    PE X (.Call (.Name x p) (e :: es) [] pos) (tCallS sp (WE Wx) te) := by
  obtain ⟨m, kp, fd, ps, ok, bd⟩ := F
  exact pe_callS ok hr hg m kp bd (fun σ => passAt tk σ) ha hdb he hpl
theorem x_callP (F : Fn X.prog X.w X.K X.mg X.base x k (spP X.K n f)) (hr : Room k X.A) (tk : Takes X Wx) (hg : Gl X x) (ha : PA X (e :: es) (cA X.K α Wx xs)) (hn : (e :: es).length = n) (hdb : (x == ("__debug__" : Str)) = false := by decide)
    (he : starEach (e :: es) X.env = (false, eval e X.env) :: starEach es X.env := by rfl) (hpl : (backTo pos (starEach es X.env)).any (·.1) = false := by rfl) (hx : ∀ env w ds w', xs env w = .ok ds w' → ds.length = (e :: es).length) :
    PE X (.Call (.Name x p) (e :: es) [] pos) (cE X.K α Wx (xCallP f xs)) :=
  pe_imp (x_call F hr tk hg ha hdb he hpl) fun σ H Q ⟨ι, G, w, env, sw, ev, p⟩ => ⟨ι, G, w, env, sw, ev, PostA.bind p fun d1 w1 v1 ι1 G1 H1 q1 e1 s1 r1 p1 => sp_callP (by rw [rds_len r1, hx _ _ _ _ q1, hn]) s1 r1 p1⟩
theorem x_callS (F : Fn X.prog X.w X.K X.mg X.base x k (spP X.K n f)) (hr : Room k X.A) (tk : Takes X Wx) (hg : Gl X x) (ha : PA X (e :: es) (cA X.K α Wx xs)) (hn : (e :: es).length = n) (hdb : (x == ("__debug__" : Str)) = false := by decide)
    (he : starEach (e :: es) X.env = (false, eval e X.env) :: starEach es X.env := by rfl) (hpl : (backTo pos (starEach es X.env)).any (·.1) = false := by rfl) (hx : ∀ env w ds w', xs env w = .ok ds w' → ds.length = (e :: es).length) :
    PE X (.Call (.Name x p) (e :: es) [] pos) (cE X.K α Wx (xCallS f xs)) :=
  pe_imp (x_call F hr tk hg ha hdb he hpl) fun σ H Q ⟨ι, G, w, env, sw, ev, p⟩ => ⟨ι, G, w, env, sw, ev, PostA.bind p fun d1 w1 v1 ι1 G1 H1 q1 e1 s1 r1 p1 => sp_callS (by rw [rds_len r1, hx _ _ _ _ q1, hn]) s1 r1 p1⟩
theorem post_nil {K : PySem.W.Frag} {ι : List Addr} {G H : Hp} {σ : L2.St} {r : Rs DV} {Q : VK} (p : PostE K Wx ι G H σ r Q) : PostE K (wishOf (WE Wx σ)) ι G H [] r Q := by
  cases r with
  | ok d w => exact p
  | ex c w => exact p
  | bad => exact p
theorem x_callW (F : Fn X.prog X.w X.K X.mg X.base x k (spW X.K n fw)) (hr : Room k X.A) (tk : Takes X Wx) (hg : Gl X x) (ha : PA X (e :: es) (cA X.K α Wx xs)) (hn : (e :: es).length = n) (hdb : (x == ("__debug__" : Str)) = false := by decide)
    (he : starEach (e :: es) X.env = (false, eval e X.env) :: starEach es X.env := by rfl) (hpl : (backTo pos (starEach es X.env)).any (·.1) = false := by rfl) (hx : ∀ env w ds w', xs env w = .ok ds w' → ds.length = (e :: es).length) :
    PE X (.Call (.Name x p) (e :: es) [] pos) (cE X.K α Wx (xCallW fw xs)) :=
  pe_imp (x_call F hr tk hg ha hdb he hpl) fun σ H Q ⟨ι, G, w, env, sw, ev, p⟩ => ⟨ι, G, w, env, sw, ev, PostA.bind p fun d1 w1 v1 ι1 G1 H1 q1 e1 s1 r1 p1 => ⟨by rw [rds_len r1, hx _ _ _ _ q1, hn], ι1, G1, w1, d1, s1, r1, post_nil p1⟩⟩
end
/-- how many values come -/
def ArN (n : Nat) (xs : AM) : Prop := ∀ env w ds w', xs env w = .ok ds w' → ds.length = n
theorem ar_nil : ArN 0 xNil := fun env w ds w' h => by cases h; rfl
theorem ar_cons {n : Nat} {x : XM} {xs : AM} (h : ArN n xs) : ArN (n + 1) (xCons x xs) := fun env w ds w' q => by
  unfold xCons at q
  cases q1 : x env w with
  | bad => rw [q1] at q; cases q
  | ex c w1 => rw [q1] at q; cases q
  | ok d w1 =>
    rw [q1] at q
    simp only [Rs.bind] at q
    cases q2 : xs env w1 with
    | bad => rw [q2] at q; cases q
    | ex c w1 => rw [q2] at q; cases q
    | ok d2 w2 =>
      rw [q2] at q
      cases q
      simp [h _ _ _ _ q2]

/-! ### built-ins by values -/
def CallOk (K : PySem.W.Frag) (Wx : WX) (op : List DV → Wd → Rs DV) (r : List V → Hp → VK → Prop) : Prop :=
  ∀ ι G H w σ vs ds Q, WS K ι G H w → RDs K ι G vs ds → PostE K Wx ι G H σ (op ds w) Q → r vs H Q
def xCall (op : List DV → Wd → Rs DV) (xs : AM) : XM := fun e w => (xs e w).bind fun ds w1 => op ds w1
def oLen : List DV → Wd → Rs DV
  | [.d (.str z)], w => if z.length ≤ 100000 then .ok (.d (.int z.length)) w else .bad
  | [.d (.list ds)], w => .ok (.d (.int ds.length)) w
  | [.d (.tuple ds)], w => .ok (.d (.int ds.length)) w
  | [.loc l], w => match w[l]? with
    | some (.lst xs) => .ok (.d (.int xs.length)) w
    | some (.tup xs) => .ok (.d (.int xs.length)) w
    | _ => .bad
  | _, _ => .bad
def oMax2 : List DV → Wd → Rs DV
  | [.d (.int i), .d (.int j)], w => .ok (.d (.int (if j > i then j else i))) w
  | _, _ => .bad
def oMin2 : List DV → Wd → Rs DV
  | [.d (.int i), .d (.int j)], w => .ok (.d (.int (if j < i then j else i))) w
  | _, _ => .bad
def oInt1 : List DV → Wd → Rs DV
  | [.d (.int i)], w => .ok (.d (.int i)) w
  | [.d (.bool k)], w => .ok (.d (.int (if k then 1 else 0))) w
  | _, _ => .bad
/-- list(x), the items plain data -/
def oList : List DV → Wd → Rs DV
  | [.d (.list ds)], w => .ok (.d (.list ds)) w
  | [.d (.tuple ds)], w => .ok (.d (.list ds)) w
  | [.loc l], w => match w[l]? with
    | some (.lst xs) => match allD xs with
      | some ds => .ok (.d (.list ds)) w
      | none => .bad
    | _ => .bad
  | _, _ => .bad
/-- list(x), a new list of the store -/
def oListS : List DV → Wd → Rs DV
  | [.d (.list ds)], w => .ok (.loc w.length) (w ++ [.lst (ds.map .d)])
  | [.d (.tuple ds)], w => .ok (.loc w.length) (w ++ [.lst (ds.map .d)])
  | [.loc l], w => match w[l]? with
    | some (.lst xs) => .ok (.loc w.length) (w ++ [.lst xs])
    | _ => .bad
  | _, _ => .bad
/-- the kinds -/
def kindD : DV → Wd → Option String
  | .d .none, _ => some "NoneType"
  | .d (.bool _), _ => some "bool"
  | .d (.int _), _ => some "int"
  | .d (.str _), _ => some "str"
  | .d (.list _), _ => some "list"
  | .d (.tuple _), _ => some "tuple"
  | .loc l, w => match w[l]? with
    | some (.lst _) => some "list"
    | some (.tup _) => some "tuple"
    | _ => none
  | _, _ => none
def isKind (t c : String) : Bool := decide (t = c) || (decide (t = "bool") && decide (c = "int"))
/-- isinstance(x, c), c a built-in class -/
def oIsi (c : String) : DV → Wd → Rs DV := fun x w => match kindD x w with
  | some t => .ok (.d (.bool (isKind t c))) w
  | none => .bad
def xIsi (c : String) (x : XM) : XM := fun e w => (x e w).bind fun d w1 => oIsi c d w1
section
variable {X : Cx} {α : Addr × Str} {Wx : WX} {a b c e : Expr} {es : List Expr} {xa xb xc : XM} {xs : AM} {pos p : Pos} {x : Str} {id T : String} {r : List V → Hp → VK → Prop} {op : List DV → Wd → Rs DV}
theorem call_step {K : PySem.W.Frag} (hr : CallOk K Wx op r) {σ : L2.St} {H : Hp} {Q : VK} (h : cE K α Wx (xCall op xs) σ H Q) : tCB r (cA K α Wx xs) σ H Q := by
  obtain ⟨ι, G, w, env, sw, ev, p⟩ := h
  exact ⟨ι, G, w, env, sw, ev, PostA.bind p fun d1 w1 v1 ι1 G1 H1 _ e1 s1 r1 p1 => hr ι1 G1 H1 w1 σ v1 d1 Q s1 r1 p1⟩
theorem x_blt (hr : CallOk X.K Wx op r) (hc : CallR X (.builtin id) r) (hg : Gl X x) (hm : X.mg x = none) (hv : bootBuiltins x = some (.builtin id)) (ha : PA X (e :: es) (cA X.K α Wx xs)) (hn : x ≠ "__name__" := by decide) (hdb : (x == ("__debug__" : Str)) = false := by decide)
    (he : starEach (e :: es) X.env = (false, eval e X.env) :: starEach es X.env := by rfl) (hpl : (backTo pos (starEach es X.env)).any (·.1) = false := by rfl) : PE X (.Call (.Name x p) (e :: es) [] pos) (cE X.K α Wx (xCall op xs)) :=
  pe_imp (pe_callB hc hg hm hv ha hn hdb he hpl) fun _ _ _ h => call_step hr h
theorem x_ty (hr : CallOk X.K Wx op r) (hc : CallR X (.type T) r) (hg : Gl X x) (hm : X.mg x = none) (hv : bootBuiltins x = some (.type T)) (ha : PA X (e :: es) (cA X.K α Wx xs)) (hn : x ≠ "__name__" := by decide) (hdb : (x == ("__debug__" : Str)) = false := by decide)
    (he : starEach (e :: es) X.env = (false, eval e X.env) :: starEach es X.env := by rfl) (hpl : (backTo pos (starEach es X.env)).any (·.1) = false := by rfl) : PE X (.Call (.Name x p) (e :: es) [] pos) (cE X.K α Wx (xCall op xs)) :=
  pe_imp (pe_callTy hc hg hm hv ha hn hdb he hpl) fun _ _ _ h => call_step hr h
theorem one_v {K : PySem.W.Frag} {ι : List Addr} {G : Hp} {vs : List V} {d : DV} (r : RDs K ι G vs [d]) : ∃ v, vs = [v] ∧ RD K ι G v d := by
  cases r with
  | cons h t => cases t; exact ⟨_, rfl, h⟩
theorem two_v {K : PySem.W.Frag} {ι : List Addr} {G : Hp} {vs : List V} {d d2 : DV} (r : RDs K ι G vs [d, d2]) : ∃ v v2, vs = [v, v2] ∧ RD K ι G v d ∧ RD K ι G v2 d2 := by
  cases r with
  | cons h t => cases t with
    | cons h2 t => cases t; exact ⟨_, _, rfl, h, h2⟩
theorem k_len {K : PySem.W.Frag} : CallOk K Wx oLen (fun xs H Q => ∃ x n, xs = [x] ∧ LenV K x H n ∧ Q (.int n) H) := by
  intro ι G H w σ vs ds Q s r p
  unfold oLen at p
  split at p
  · rename_i z
    obtain ⟨v, rfl, h⟩ := one_v r
    cases h
    split at p
    · rename_i hz
      exact ⟨_, z.length, rfl, ⟨Evl.sz_of hz, rfl⟩, p _ ι G H .refl s (.int _)⟩
    · exact p.elim
  · rename_i ds
    obtain ⟨v, rfl, h⟩ := one_v r
    cases h with
    | lst h1 h2 => exact ⟨_, ds.length, rfl, .inl ⟨_, Evl.ex_l s.sub h1, (dps_len h2).symm⟩, p _ ι G H .refl s (.int _)⟩
  · rename_i ds
    obtain ⟨v, rfl, h⟩ := one_v r
    cases h with
    | tup h1 h2 => exact ⟨_, ds.length, rfl, .inr ⟨_, Evl.ex_t s.sub h1, (dps_len h2).symm⟩, p _ ι G H .refl s (.int _)⟩
  · rename_i l
    obtain ⟨v, rfl, a, h1, rfl⟩ := one_v r
    cases q : w[l]? with
    | none => rw [q] at p; exact p.elim
    | some o =>
      rw [q] at p
      have ob := s.ob l a _ h1 q
      cases o with
      | lst xs =>
        obtain ⟨vs, f1, f2⟩ := ob
        exact ⟨_, xs.length, rfl, .inl ⟨_, Evl.sq_of f1, (rds_len f2).symm⟩, p _ ι G H .refl s (.int _)⟩
      | tup xs =>
        obtain ⟨vs, f1, f2⟩ := ob
        exact ⟨_, xs.length, rfl, .inr ⟨_, Evl.st_of f1, (rds_len f2).symm⟩, p _ ι G H .refl s (.int _)⟩
      | _ => exact p.elim
  · exact p.elim
theorem k_max2 {K : PySem.W.Frag} : CallOk K Wx oMax2 (fun xs H Q => ∃ i j, xs = [.int i, .int j] ∧ Q (.int (if j > i then j else i)) H) := by
  intro ι G H w σ vs ds Q s r p
  unfold oMax2 at p
  split at p
  · rename_i i j
    obtain ⟨v, v2, rfl, h1, h2⟩ := two_v r
    cases h1; cases h2
    exact ⟨i, j, rfl, p _ ι G H .refl s (.int _)⟩
  · exact p.elim
theorem k_min2 {K : PySem.W.Frag} : CallOk K Wx oMin2 (fun xs H Q => ∃ i j, xs = [.int i, .int j] ∧ Q (.int (if j < i then j else i)) H) := by
  intro ι G H w σ vs ds Q s r p
  unfold oMin2 at p
  split at p
  · rename_i i j
    obtain ⟨v, v2, rfl, h1, h2⟩ := two_v r
    cases h1; cases h2
    exact ⟨i, j, rfl, p _ ι G H .refl s (.int _)⟩
  · exact p.elim
theorem k_int1 {K : PySem.W.Frag} : CallOk K Wx oInt1 (fun xs H Q => (∃ i, xs = [.int i] ∧ Q (.int i) H) ∨ ∃ k, xs = [.bl k] ∧ Q (.int (if k then 1 else 0)) H) := by
  intro ι G H w σ vs ds Q s r p
  unfold oInt1 at p
  split at p
  · rename_i i
    obtain ⟨v, rfl, h⟩ := one_v r
    cases h
    exact .inl ⟨i, rfl, p _ ι G H .refl s (.int _)⟩
  · rename_i i
    obtain ⟨v, rfl, h⟩ := one_v r
    cases h
    exact .inr ⟨i, rfl, p _ ι G H .refl s (.int _)⟩
  · exact p.elim
theorem k_list {K : PySem.W.Frag} : CallOk K Wx oList (fun xs H Q => ∃ p ys, xs = [.ref p] ∧ (SqL K H p ys ∨ SqT K H p ys) ∧ ∀ l, H l = none → Q (.ref l) (upd H l (.lst ys))) := by
  intro ι G H w σ vs ds Q s r p
  unfold oList at p
  split at p
  · rename_i ds
    obtain ⟨v, rfl, h⟩ := one_v r
    cases h with
    | lst h1 h2 => exact ⟨_, _, rfl, .inl (Evl.ex_l s.sub h1), fun q hq => p _ ι _ _ (Evo.newD s.sub hq) (s.newD hq) (.lst (Evl.sq_of upd_same) (dp_monos (Evl.Ex.new (Evl.fresh_back s.sub hq)) _ _ h2))⟩
  · rename_i ds
    obtain ⟨v, rfl, h⟩ := one_v r
    cases h with
    | tup h1 h2 => exact ⟨_, _, rfl, .inr (Evl.ex_t s.sub h1), fun q hq => p _ ι _ _ (Evo.newD s.sub hq) (s.newD hq) (.lst (Evl.sq_of upd_same) (dp_monos (Evl.Ex.new (Evl.fresh_back s.sub hq)) _ _ h2))⟩
  · rename_i l
    obtain ⟨v, rfl, a, h1, rfl⟩ := one_v r
    cases q : w[l]? with
    | none => rw [q] at p; exact p.elim
    | some o =>
      rw [q] at p
      have ob := s.ob l a _ h1 q
      cases o with
      | lst xs =>
        obtain ⟨vs, f1, f2⟩ := ob
        simp only at p
        cases q2 : allD xs with
        | none => rw [q2] at p; exact p.elim
        | some ds =>
          rw [q2] at p
          exact ⟨_, _, rfl, .inl (Evl.sq_of f1), fun q hq => p _ ι _ _ (Evo.newD s.sub hq) (s.newD hq) (.lst (Evl.sq_of upd_same) (dp_monos (Evl.Ex.new (Evl.fresh_back s.sub hq)) _ _ (all_dp f2 q2)))⟩
      | _ => exact p.elim
  · exact p.elim
theorem k_listS {K : PySem.W.Frag} : CallOk K Wx oListS (fun xs H Q => ∃ p ys, xs = [.ref p] ∧ (SqL K H p ys ∨ SqT K H p ys) ∧ ∀ l, H l = none → Q (.ref l) (upd H l (.lst ys))) := by
  intro ι G H w σ vs ds Q s r p
  unfold oListS at p
  split at p
  · rename_i ds
    obtain ⟨v, rfl, h⟩ := one_v r
    cases h with
    | lst h1 h2 => exact ⟨_, _, rfl, .inl (Evl.ex_l s.sub h1), fun q hq => p _ _ _ _ (Evo.newL hq) (s.newL hq ⟨_, rfl, RDs.mono (Evo.newL (o := .lst []) hq) (rds_of_dps h2)⟩) (loc_new s)⟩
  · rename_i ds
    obtain ⟨v, rfl, h⟩ := one_v r
    cases h with
    | tup h1 h2 => exact ⟨_, _, rfl, .inr (Evl.ex_t s.sub h1), fun q hq => p _ _ _ _ (Evo.newL hq) (s.newL hq ⟨_, rfl, RDs.mono (Evo.newL (o := .lst []) hq) (rds_of_dps h2)⟩) (loc_new s)⟩
  · rename_i l
    obtain ⟨v, rfl, a, h1, rfl⟩ := one_v r
    cases q : w[l]? with
    | none => rw [q] at p; exact p.elim
    | some o =>
      rw [q] at p
      have ob := s.ob l a _ h1 q
      cases o with
      | lst xs =>
        obtain ⟨vs, f1, f2⟩ := ob
        exact ⟨_, _, rfl, .inl (Evl.sq_of f1), fun q hq => p _ _ _ _ (Evo.newL hq) (s.newL hq ⟨_, rfl, RDs.mono (Evo.newL (o := .lst []) hq) f2⟩) (loc_new s)⟩
      | _ => exact p.elim
  · exact p.elim
/-- the kind that isinstance is told -/
theorem kind_ty {K : PySem.W.Frag} {ι : List Addr} {G H : Hp} {w : Wd} {v : V} {d : DV} {t : String} (s : WS K ι G H w) (r : RD K ι G v d) (h : kindD d w = some t) : TyX K H v (.type t) := by
  unfold kindD at h
  split at h
  · cases h; cases r; exact .base .non
  · cases h; cases r; exact .base (.bl _)
  · cases h; cases r; exact .base (.int _)
  · cases h; cases r; exact .base (.str _)
  · cases h
    cases r with
    | lst h1 h2 =>
      rcases Evl.ex_l s.sub h1 with (q | ⟨o, q⟩) | ⟨o, its, n, q, c, _⟩
      · exact .base (.lst q)
      · exact .base (.frz q)
      · exact .kList q c
  · cases h
    cases r with
    | tup h1 h2 =>
      rcases Evl.ex_t s.sub h1 with (q | ⟨o, q⟩) | ⟨o, its, n, q, c, _⟩
      · exact .base (.tup q)
      · exact .fTuple q
      · exact .kTuple q c
  · rename_i l
    obtain ⟨a, h1, rfl⟩ := r
    cases q : w[l]? with
    | none => rw [q] at h; cases h
    | some o =>
      rw [q] at h
      have ob := s.ob l a _ h1 q
      cases o with
      | lst xs =>
        cases h
        obtain ⟨vs, f1, f2⟩ := ob
        exact .base (.lst f1)
      | tup xs =>
        cases h
        obtain ⟨vs, f1, f2⟩ := ob
        exact .base (.tup f1)
      | _ => cases h
  · cases h
/-- what the class's own line of the library says of the kinds -/
def KindsOk (K : PySem.W.Frag) (c : String) : Prop := ∀ t ∈ ["NoneType", "bool", "int", "str", "list", "tuple"], PySem.W.kitOne K (.type t) (.type c) = some (isKind t c)
theorem kind_in {d : DV} {w : Wd} {t : String} (h : kindD d w = some t) : t ∈ ["NoneType", "bool", "int", "str", "list", "tuple"] := by
  unfold kindD at h
  split at h
  all_goals first
    | (cases h; simp; done)
    | cases h
    | (split at h <;> first | (cases h; simp; done) | cases h)
theorem x_isi {c : String} {cx : Str} {cp : Pos} (kc : KindsOk X.K c) (hg : Gl X "isinstance") (hm : X.mg "isinstance" = none) (hgc : Gl X cx) (hmc : X.mg cx = none) (hvc : bootBuiltins cx = some (.type c)) (ha : PE X a (cE X.K α Wx xa))
    (hn2 : cx ≠ "__name__" := by decide) (hdb2 : (cx == ("__debug__" : Str)) = false := by decide) (he : starEach [a, .Name cx cp] X.env = (false, eval a X.env) :: starEach [.Name cx cp] X.env := by rfl) (hpl : (backTo pos (starEach [.Name cx cp] X.env)).any (·.1) = false := by rfl)
    (hv : bootBuiltins "isinstance" = some (.builtin "isinstance") := by decide +kernel) (hs1 : starEach [.Name cx cp] X.env = (false, eval (.Name cx cp) X.env) :: starEach [] X.env := by rfl) :
    PE X (.Call (.Name "isinstance" p) [a, .Name cx cp] [] pos) (cE X.K α Wx (xIsi c xa)) :=
  pe_imp (pe_callB call_isi hg hm hv (pa_cons ha (pa_cons (pe_bltn (v := .ty c) hgc hmc hvc rfl hn2 hdb2) pa_nil hs1) he) (by decide) (by decide) he hpl) fun σ H Q ⟨ι, G, w, env, sw, ev, p⟩ =>
    ⟨ι, G, w, env, sw, ev, PostE.bind p fun d1 w1 v1 ι1 G1 H1 _ e1 s1 r1 p1 => by
      unfold oIsi at p1
      cases q : kindD d1 w1 with
      | none => rw [q] at p1; exact p1.elim
      | some t =>
        rw [q] at p1
        exact ⟨v1, .ty c, .type t, .type c, _, rfl, .ty c, kind_ty s1 r1 q, kc t (kind_in q), p1 _ ι1 G1 H1 .refl s1 (.bl _)⟩⟩
end
end RK

set_option Elab.async false
set_option linter.all false
set_option maxRecDepth 100000
set_option maxHeartbeats 4000000
/-! RKit, part D: exceptions, names of the module, objects, methods, lists that change. -/
namespace RK
open PySem PySem.Spec PyProof.Rows L2

/-! ### what the machine tells of errors -/
def isErr (mt : Str → Str → Bool) (errs : List Str) (c h : Str) : Bool := errs.contains c && mt c h
def clrR (f : En → En) : Rt → Rt
  | .ok (.nx e) w => .ok (.nx (f e)) w
  | .ok (.bk e) w => .ok (.bk (f e)) w
  | .ok (.ct e) w => .ok (.ct (f e)) w
  | .ok (.rt d) w => .ok (.rt d) w
  | .ex _ _ _ => .bad
  | .bad => .bad
def handle (mt : Str → Str → Bool) : List (Str × SM) → Str → En → Wd → Rt
  | [], c, e, w => .ex c e w
  | (h, s) :: r, c, e, w => if mt c h = true then clrR clr (s (clr e) w) else handle mt r c e w
def sTry (mt : Str → Str → Bool) (errs : List Str) (sb : SM) (hds : List (Str × SM)) : SM := fun e w => match sb e w with
  | .ex c e1 w1 => if c ∈ errs then handle mt hds c e1 w1 else .bad
  | r => r
def sTryAs (mt : Str → Str → Bool) (errs : List Str) (sb : SM) (h : Str) (i : Nat) (sh : SM) : SM := fun e w => match sb e w with
  | .ex c e1 w1 => if c ∈ errs then (if mt c h = true then clrR (fun e => (clr e).set i none) (sh ((clr e1).set i (some (.exc c))) w1) else .ex c e1 w1) else .bad
  | r => r
/-- isinstance(e, C), e the caught exception at slot i -/
def xIsE (mt : Str → Str → Bool) (i : Nat) (h : Str) : XM := fun e w => match e[i]? with
  | some (some (.exc c)) => .ok (.d (.bool (mt c h))) w
  | _ => .bad
/-- the classes' own facts -/
def MtOk (K : PySem.W.Frag) (mt : Str → Str → Bool) (errs : List Str) (h : Str) : Prop := ∀ c ∈ errs, PySem.W.exmOne K (.ref (He.ga K c)) (.ref (He.ga K h)) = some (mt c h)
abbrev noX : WX := fun _ _ _ _ => False
section
variable {K : PySem.W.Frag} {α β : Addr × Str} {Wx : WX} {ι : List Addr} {G H : Hp} {D D' : Ends}
theorem clr_post {f : En → En} {g : L2.St → L2.St} {r : Rt} (hf : ∀ {ι G σ e}, EnvR K β ι G σ e → EnvR K α ι G (g σ) (f e)) (p : PostS K α Wx ι G H (clrR f r) D) :
    PostS K β noX ι G H r { nx := fun σ H => D.nx (g σ) H, rt := D.rt, bk := fun σ H => D.bk (g σ) H, ct := fun σ H => D.ct (g σ) H } := by
  cases r with
  | bad => exact p
  | ex c e w => exact p.elim
  | ok c w =>
    cases c with
    | nx e => exact fun σ' ι' G' H' e1 s1 ev => p _ ι' G' H' e1 s1 (hf ev)
    | bk e => exact fun σ' ι' G' H' e1 s1 ev => p _ ι' G' H' e1 s1 (hf ev)
    | ct e => exact fun σ' ι' G' H' e1 s1 ev => p _ ι' G' H' e1 s1 (hf ev)
    | rt d => exact p
def hdT (K : PySem.W.Frag) (hds : List (Str × SM)) : List (Value × (Addr → Value → Option Addr → TS)) := hds.map fun h => (.ref (He.ga K h.1), fun a _ _ => cS K (a, h.1) noX h.2)
theorem handle_many {mt : Str → Str → Bool} {errs : List Str} {c : Str} {e : En} {w : Wd} {σ : L2.St} (hc : c ∈ errs) : ∀ {hds : List (Str × SM)}, (∀ h ∈ hds, MtOk K mt errs h.1) → WS K ι G H w → EnvR K α ι G σ e →
    PostS K α Wx ι G H (handle mt hds c e w) D → wMany K Wx D (hdT K hds) (.ref (He.ga K c)) none σ H
  | [], _, sw, ev, p => p σ ι G H .refl sw ev
  | (h, s) :: r, hm, sw, ev, p => by
    refine ⟨mt c h, hm (h, s) (List.mem_cons_self ..) c hc, fun hb a ha => ?_, fun hb => ?_⟩
    · unfold handle at p
      rw [if_pos hb] at p
      exact ⟨ι, G, w, clr e, sw, ev.clr, clr_post (g := id) (fun ev => ev.clr) p⟩
    · unfold handle at p
      rw [if_neg (by rw [hb]; decide)] at p
      exact handle_many hc (fun h hh => hm h (List.mem_cons_of_mem _ hh)) sw ev p
end
section
variable {X : Cx} {α : Addr × Str} {Wx : WX} {body suite : List Stmt} {b₀ : Stmt} {h₀ : ExceptHandler} {hs : List ExceptHandler} {pos pos' np : Pos} {mt : Str → Str → Bool} {errs : List Str} {sb sh : SM} {hds : List (Str × SM)} {x n : Str} {i : Nat}
theorem s_try (h1 : X.stack = X.env :: X.outer) (h2 : X.env.frame = some X.env.locals) (tk : Takes X Wx) (hm : ∀ h ∈ hds, MtOk X.K mt errs h.1)
    (hb : ∀ (W : WX) (pn : List (Addr × Obj)) (xe : Value → Shared → Prop), Takes (X.tr pn xe) W → PassesOwn (model X.prog X.w) X.A X.env xe → PSs (X.tr pn xe) body (cS X.K α W sb))
    (hh : HdsOk X (h₀ :: hs) (hdT X.K hds)) : PS X (.Try body (h₀ :: hs) [] [] pos) (cS X.K α Wx (sTry mt errs sb hds)) :=
  ps_imp (ps_try_many (tb := fun W => cS X.K α W sb) (Wout := Wx) h1 h2 tk hb hh) fun D σ H ⟨ι, G, w, env, sw, ev, p⟩ => by
    refine ⟨ι, G, w, env, sw, ev, ?_⟩
    unfold sTry at p
    cases q : sb env w with
    | bad => rw [q] at p; exact p
    | ok c w1 =>
      rw [q] at p
      cases c <;> exact p
    | ex c e1 w1 =>
      rw [q] at p
      simp only at p
      split at p
      · rename_i hc
        exact fun σ' ι' G' H' E1 S1 EV1 => handle_many hc hm S1 EV1 (PostS.mono E1 p)
      · exact p.elim
theorem s_tryAs (h1 : X.stack = X.env :: X.outer) (h2 : X.env.frame = some X.env.locals) (hN : X.N.Nodup) (hi : X.N[i]? = some n) (hln : X.env.kindOf n = some .local) (hc : Names X x (.ref (He.ga X.K x))) (tk : Takes X Wx) (hm : MtOk X.K mt errs x)
    (hb : ∀ (W : WX) (pn : List (Addr × Obj)) (xe : Value → Shared → Prop), Takes (X.tr pn xe) W → PassesOwn (model X.prog X.w) X.A X.env xe → PSs (X.tr pn xe) body (cS X.K α W sb))
    (hsu : ∀ c ∈ errs, ∀ (a : Addr) (oe : Obj) (pn : List (Addr × Obj)), Zc (.ref (He.ga X.K c)) none oe → (∃ vs, oe.data = .fields vs) → PSs (X.suite a ((a, oe) :: pn)) (b₀ :: suite) (cS X.K (a, c) noX sh)) :
    PS X (.Try body [.ExceptHandler (some (.Name x np)) (some n) (b₀ :: suite) pos'] [] [] pos) (cS X.K α Wx (sTryAs mt errs sb x i sh)) :=
  ps_imp (ps_try_as (tb := fun W => cS X.K α W sb) (Wout := Wx) (ts := fun a cls d D σ H => ∃ c ∈ errs, cls = .ref (He.ga X.K c) ∧ d = none ∧ cS X.K (a, c) noX sh D σ H) h1 h2 hN hi hln hc tk hb
    (fun a oe cls d pn hz hf => ⟨fun pins s σ H D I h => by
      obtain ⟨c, hce, rfl, rfl, h⟩ := h
      exact (hsu c hce a oe pn hz hf).run pins s σ H D I h⟩)) fun D σ H ⟨ι, G, w, env, sw, ev, p⟩ => by
    refine ⟨ι, G, w, env, sw, ev, ?_⟩
    unfold sTryAs at p
    cases q : sb env w with
    | bad => rw [q] at p; exact p
    | ok c w1 =>
      rw [q] at p
      cases c <;> exact p
    | ex c e1 w1 =>
      rw [q] at p
      simp only at p
      split at p
      · rename_i hce
        intro σ' ι' G' H' E1 S1 EV1
        refine ⟨mt c x, hm c hce, fun hb a ha => ?_, fun hb => ?_⟩
        · rw [if_pos hb] at p
          refine ⟨c, hce, rfl, rfl, ι', G', w1, (clr e1).set i (some (.exc c)), S1, EV1.clr.set (show SlotR X.K (a, c) ι' G' (some (.ref a)) (some (.exc c)) from ⟨rfl, rfl⟩) i, ?_⟩
          exact clr_post (g := fun σ => σ.set i none) (fun ev => ev.clr.set (s := none) (d := none) trivial i) (PostS.mono E1 p)
        · rw [if_neg (by rw [hb]; decide)] at p
          exact p σ' ι' G' H' E1 S1 EV1
      · exact p.elim
/-- an own error class of the module -/
structure ExcF (K : PySem.W.Frag) (mg : Str → Option Value) (n : Str) : Prop where
  g : mg n = some (.ref (He.ga K n))
  x : PySem.W.excIn K (He.ga K n) He.veBase "ValueError.__new__" = true
  k : PySem.W.keepIn K (.ref (He.ga K n)) = true
  b : PySem.W.subIn K (.ref (He.ga K n)) (.type "BaseException") = some true
  t : PySem.W.typeIn K (.ref (He.ga K n)) = some (.type "type")
theorem s_raiseC {m : Str} {j : Nat} {p p2 : Pos} (hc : X.calm = true) (tk : Takes X Wx) (F : ExcF X.K X.mg n) (hg : Gl X n) (hdb : (n == ("__debug__" : Str)) = false := by decide) :
    PS X (.Raise (some (.Call (.Name n p) [.Constant (.str m) j p2] [] pos')) none pos) (cS X.K α Wx (sRaise n)) :=
  s_raise (ps_raise hc tk (pmk_own PySem.F.excBase_ValueError F.x F.g F.k (raises_own F.b F.t) hg hdb))
/-- isinstance of the caught exception -/
def IsOk (K : PySem.W.Frag) (mt : Str → Str → Bool) (errs : List Str) (h : Str) (v : Value) : Prop := ∀ c ∈ errs, PySem.W.kitOne K (.ref (He.ga K c)) v = some (mt c h)
theorem x_isE {h : Str} {cv : V} {v : Value} {a : Addr} {c : Str} {oe : Obj} {pn : List (Addr × Obj)} {p : Pos} {e ce : Expr} (hce : c ∈ errs) (C : ExcC X.K (He.ga X.K c)) (hz : Zc (.ref (He.ga X.K c)) none oe) (hf : ∃ vs, oe.data = .fields vs)
    (hv : ∀ u, RelV cv u → u = v) (io : IsOk X.K mt errs h v) (hg : Gl (X.suite a ((a, oe) :: pn)) "isinstance") (hm : X.mg "isinstance" = none) (hvar : PE (X.suite a ((a, oe) :: pn)) e (tVar i)) (hcl : PE (X.suite a ((a, oe) :: pn)) ce (tC cv))
    (he : starEach [e, ce] (X.suite a ((a, oe) :: pn)).env = (false, eval e (X.suite a ((a, oe) :: pn)).env) :: starEach [ce] (X.suite a ((a, oe) :: pn)).env := by rfl) (hpl : (backTo pos (starEach [ce] (X.suite a ((a, oe) :: pn)).env)).any (·.1) = false := by rfl)
    (hb : bootBuiltins "isinstance" = some (.builtin "isinstance") := by decide +kernel) (hs1 : starEach [ce] (X.suite a ((a, oe) :: pn)).env = (false, eval ce (X.suite a ((a, oe) :: pn)).env) :: starEach [] (X.suite a ((a, oe) :: pn)).env := by rfl) :
    PE (X.suite a ((a, oe) :: pn)) (.Call (.Name "isinstance" p) [e, ce] [] pos) (cE X.K (a, c) Wx (xIsE mt i h)) :=
  pe_imp (pe_callB (call_isE C hz hf) hg hm hb (pa_cons hvar (pa_cons hcl pa_nil hs1) he) (by decide) (by decide) he hpl) fun σ H Q ⟨ι, G, w, env, sw, ev, q⟩ => by
    unfold xIsE at q
    cases q1 : env[i]? with
    | none => rw [q1] at q; exact q.elim
    | some o =>
      rw [q1] at q
      obtain ⟨sl, f1, f2⟩ := ev.at_ q1
      cases o with
      | none => exact q.elim
      | some d =>
        cases d with
        | d y => exact q.elim
        | loc y => exact q.elim
        | exc c' =>
          obtain ⟨rfl, rfl⟩ := f2
          exact ⟨.ref a, f1, cv, v, _, rfl, hv, io _ hce, q _ ι G H .refl sw (.bl _)⟩
end

/-! ### names of the module -/
section
variable {X : Cx} {α : Addr × Str} {Wx : WX} {x : Str} {pos : Pos}
theorem x_gint {i : Int} (hg : Gl X x) (hm : ∃ t, X.mg x = some (.int i t)) (hd : (x == ("__debug__" : Str)) = false := by decide) : PE X (.Name x pos) (cE X.K α Wx (xLit (.int i))) := by
  obtain ⟨t, hm⟩ := hm
  exact x_lit (pe_glob (v := .int i) hg hm ⟨t, rfl⟩ hd) fun _ => .int i
theorem x_gstr {z : Str} (hg : Gl X x) (hm : ∃ t, X.mg x = some (.str z t)) (hd : (x == ("__debug__" : Str)) = false := by decide) : PE X (.Name x pos) (cE X.K α Wx (xLit (.str z))) := by
  obtain ⟨t, hm⟩ := hm
  exact x_lit (pe_glob (v := .str z) hg hm ⟨t, rfl⟩ hd) fun _ => .str z
/-- a tuple of the module's top -/
theorem x_gtup {d : PyData} (hg : Gl X x) (hm : X.mg x = some (.ref (He.ga X.K x))) (h : ∀ G, Dp X.K G (.ref (He.ga X.K x)) d) (hd : (x == ("__debug__" : Str)) = false := by decide) : PE X (.Name x pos) (cE X.K α Wx (xLit d)) :=
  x_lit (pe_glob (v := .ref (He.ga X.K x)) hg hm rfl hd) h
theorem dps_ints {K : PySem.W.Frag} {G : Hp} : ∀ ns : List Int, DpAll K G (ns.map V.int) (ns.map PyData.int)
  | [] => .nil
  | n :: ns => .cons (.int n) (dps_ints ns)
theorem dp_tupB {K : PySem.W.Frag} {x : Str} {ns : List Int} (h : He.tupB K x (ns.map He.Dv.int) = true) (G : Hp) : Dp K G (.ref (He.ga K x)) (.tuple (ns.map .int)) := by
  have q := He.tupB_ok h G
  rw [List.map_map] at q
  exact .tup q (dps_ints ns)
end
end RK

set_option Elab.async false
set_option linter.all false
set_option maxRecDepth 100000
set_option maxHeartbeats 4000000
/-! RKit, part E: lists put together, in, append, targets of several names; what the head tells. -/
namespace RK
open PySem PySem.Spec PyProof.Rows L2

/-! ### list + list, whatever stands there -/
def rCatG (K : PySem.W.Frag) : R2 := fun x y H Q => ∃ l b xs zs, x = .ref l ∧ y = .ref b ∧ SqL K H l xs ∧ SqL K H b zs ∧ xs.length + zs.length ≤ sizeLine ∧ ∀ p, H p = none → Q (.ref p) (upd H p (.lst (xs ++ zs)))
theorem op_catG {X : Cx} : OpR X (binaryOp .Add) (rCatG X.K) := by
  intro pins s σ H x y v u Q I rx ry h
  obtain ⟨l, b, xs, zs, rfl, rfl, hH, hB, hz, q⟩ := h
  cases rx
  cases ry
  obtain ⟨its, r, p1, hz1⟩ := I.list hH
  obtain ⟨its2, r2, p2, hz2⟩ := I.list hB
  obtain ⟨⟨cls, dd, data, sl⟩, n, ho, hc, hdd, hd⟩ := p1
  obtain ⟨⟨cls2, dd2, data2, sl2⟩, n2, ho2, hc2, hdd2, hd2⟩ := p2
  simp only at hc hd hdd hc2 hd2 hdd2
  subst hc hd hdd hc2 hd2 hdd2
  have hlen : its.toArray.size + its2.toArray.size ≤ sizeLine := by rw [List.size_toArray, List.size_toArray, ← r.length, ← r2.length]; exact hz
  refine concat_meets ⟨_, ho, rfl⟩ ⟨_, ho2, rfl⟩ noFill_list_add seq_list_add PySem.F.slot_list_add PySem.F.entry_list_add (PySem.F.args_list_add_2 _ _) (list_addW l b its.toArray its2.toArray n n2 none none sl sl2 hlen) ⟨ho, ho2, ?_⟩
  have ea : its.toArray ++ its2.toArray = (its ++ its2).toArray := by simp
  rw [ea]
  exact ⟨.ref _, _, I.lnew (t' := s.toks) (r.append r2) (by rw [List.length_append]; exact hz), rfl, q _ I.fresh⟩
/-- the plain items of a list -/
def itemsD (w : Wd) : DV → Option (List PyData)
  | .d (.list ds) => some ds
  | .loc l => match w[l]? with
    | some (.lst xs) => allD xs
    | _ => none
  | _ => none
def oCat : DV → DV → Wd → Rs DV := fun x y w => match itemsD w x, itemsD w y with
  | some ds, some es => if ds.length + es.length ≤ 100000 then .ok (.d (.list (ds ++ es))) w else .bad
  | _, _ => .bad
/-- list + list, a new list of the store -/
def itemsV (w : Wd) : DV → Option (List DV)
  | .d (.list ds) => some (ds.map .d)
  | .loc l => match w[l]? with
    | some (.lst xs) => some xs
    | _ => none
  | _ => none
section
variable {X : Cx} {α : Addr × Str} {Wx : WX} {a b c e : Expr} {es : List Expr} {xa xb xc : XM} {xs : AM} {pos : Pos}
theorem items_dp {K : PySem.W.Frag} {ι : List Addr} {G H : Hp} {w : Wd} {v : V} {x : DV} {ds : List PyData} (s : WS K ι G H w) (r : RD K ι G v x) (h : itemsD w x = some ds) : ∃ l vs, v = .ref l ∧ SqL K H l vs ∧ DpAll K G vs ds := by
  unfold itemsD at h
  split at h
  · cases h
    cases r with
    | lst h1 h2 => exact ⟨_, _, rfl, Evl.ex_l s.sub h1, h2⟩
  · rename_i l
    obtain ⟨a, h1, rfl⟩ := r
    cases q : w[l]? with
    | none => rw [q] at h; cases h
    | some o =>
      rw [q] at h
      cases o with
      | lst xs =>
        obtain ⟨vs, f1, f2⟩ := s.ob l a _ h1 q
        exact ⟨a, vs, rfl, Evl.sq_of f1, all_dp f2 h⟩
      | _ => cases h
  · cases h
theorem items_rd {K : PySem.W.Frag} {ι : List Addr} {G H : Hp} {w : Wd} {v : V} {x : DV} {ds : List DV} (s : WS K ι G H w) (r : RD K ι G v x) (h : itemsV w x = some ds) : ∃ l vs, v = .ref l ∧ SqL K H l vs ∧ RDs K ι G vs ds := by
  unfold itemsV at h
  split at h
  · cases h
    cases r with
    | lst h1 h2 => exact ⟨_, _, rfl, Evl.ex_l s.sub h1, rds_of_dps h2⟩
  · rename_i l
    obtain ⟨a, h1, rfl⟩ := r
    cases q : w[l]? with
    | none => rw [q] at h; cases h
    | some o =>
      rw [q] at h
      cases o with
      | lst xs =>
        cases h
        obtain ⟨vs, f1, f2⟩ := s.ob l a _ h1 q
        exact ⟨a, vs, rfl, Evl.sq_of f1, f2⟩
      | _ => cases h
  · cases h
theorem dps_app {K : PySem.W.Frag} {G : Hp} : ∀ {vs : List V} {ds : List PyData} {us : List V} {es : List PyData}, DpAll K G vs ds → DpAll K G us es → DpAll K G (vs ++ us) (ds ++ es)
  | _, [], _, _, h, h2 => by cases h; exact h2
  | _, d :: ds, _, _, h, h2 => by
    cases h with
    | cons h1 h3 => exact .cons h1 (dps_app h3 h2)
theorem k_cat {K : PySem.W.Frag} : BinOk K Wx oCat (rCatG K) := by
  intro ι G H w σ x y dx dy Q s rx ry p
  unfold oCat at p
  split at p
  · rename_i ds es h1 h2
    split at p
    · rename_i hl
      obtain ⟨l, vs, rfl, f1, f2⟩ := items_dp s rx h1
      obtain ⟨l2, vs2, rfl, f3, f4⟩ := items_dp s ry h2
      exact ⟨l, l2, vs, vs2, rfl, rfl, f1, f3, Evl.sz_of (by rw [dps_len f2, dps_len f4]; exact hl), fun q hq => p _ ι _ _ (Evo.newD s.sub hq) (s.newD hq) (.lst (Evl.sq_of upd_same) (dp_monos (Evl.Ex.new (Evl.fresh_back s.sub hq)) _ _ (dps_app f2 f4)))⟩
    · exact p.elim
  · exact p.elim
theorem k_in {K : PySem.W.Frag} : BinOk K Wx oIn (rInD K) := by
  intro ι G H w σ x y dx dy Q s rx ry p
  unfold oIn at p
  split at p
  · rename_i d ds h1 h2
    split at p
    · rename_i hs
      obtain ⟨s1, s2⟩ := Bool.and_eq_true_iff.mp hs
      exact ⟨_, _, dp_toDH s rx h1, dp_toDH s ry h2, s1, s2, p _ ι G H .refl s (.bl _)⟩
    · exact p.elim
  · exact p.elim
theorem k_notIn {K : PySem.W.Frag} : BinOk K Wx oNotIn (rNotInD K) := by
  intro ι G H w σ x y dx dy Q s rx ry p
  unfold oNotIn at p
  split at p
  · rename_i d ds h1 h2
    split at p
    · rename_i hs
      obtain ⟨s1, s2⟩ := Bool.and_eq_true_iff.mp hs
      exact ⟨_, _, dp_toDH s rx h1, dp_toDH s ry h2, s1, s2, p _ ι G H .refl s (.bl _)⟩
    · exact p.elim
  · exact p.elim
theorem signIn_some {x z : Str} {b : Bool} (h : signIn x z = some b) : ∃ c, x = ⟨#[c]⟩ ∧ b = decide (c ∈ z.cps.toList) := by
  unfold signIn at h
  split at h
  · rename_i c hc
    cases h
    refine ⟨c, ?_, rfl⟩
    obtain ⟨⟨l⟩⟩ := x
    have : l = [c] := hc
    rw [this]
  · cases h
theorem k_inS {K : PySem.W.Frag} : BinOk K Wx oInS (fun x y H Q => ∃ (c : Nat) (z : Str), x = .str ⟨#[c]⟩ ∧ y = .str z ∧ Q (.bl (decide (c ∈ z.cps.toList))) H) := by
  intro ι G H w σ x y dx dy Q s rx ry p
  unfold oInS at p
  split at p
  · rename_i x z
    cases rx; cases ry
    cases q : signIn x z with
    | none => rw [q] at p; exact p.elim
    | some b =>
      rw [q] at p
      obtain ⟨c, rfl, rfl⟩ := signIn_some q
      exact ⟨c, z, rfl, rfl, p _ ι G H .refl s (.bl _)⟩
  · exact p.elim
theorem k_notInS {K : PySem.W.Frag} : BinOk K Wx oNotInS (fun x y H Q => ∃ (c : Nat) (z : Str), x = .str ⟨#[c]⟩ ∧ y = .str z ∧ Q (.bl (!decide (c ∈ z.cps.toList))) H) := by
  intro ι G H w σ x y dx dy Q s rx ry p
  unfold oNotInS at p
  split at p
  · rename_i x z
    cases rx; cases ry
    cases q : signIn x z with
    | none => rw [q] at p; exact p.elim
    | some b =>
      rw [q] at p
      obtain ⟨c, rfl, rfl⟩ := signIn_some q
      exact ⟨c, z, rfl, rfl, p _ ι G H .refl s (.bl _)⟩
  · exact p.elim
end

/-! ### methods of a list of the store -/
def lstAt (w : Wd) : DV → Option (Nat × List DV)
  | .loc l => match w[l]? with
    | some (.lst xs) => some (l, xs)
    | _ => none
  | _ => none
def xApp (xo xe : XM) : XM := fun e w => (xo e w).bind fun x w1 => match lstAt w1 x with
  | none => .bad
  | some _ => (xe e w1).bind fun y w2 => match lstAt w2 x with
    | none => .bad
    | some (l, xs) => if xs.length < 100000 then .ok (.d .none) (w2.set l (.lst (xs ++ [y]))) else .bad
def xPopL (xo : XM) : XM := fun e w => (xo e w).bind fun x w1 => match lstAt w1 x with
  | none => .bad
  | some (l, xs) => match xs[xs.length - 1]? with
    | some y => .ok y (w1.set l (.lst xs.dropLast))
    | none => .bad
def xClearL (xo : XM) : XM := fun e w => (xo e w).bind fun x w1 => match lstAt w1 x with
  | none => .bad
  | some (l, xs) => .ok (.d .none) (w1.set l (.lst []))
theorem lstAt_ok {K : PySem.W.Frag} {ι : List Addr} {G H : Hp} {w : Wd} {v : V} {x : DV} {l : Nat} {xs : List DV} (s : WS K ι G H w) (r : RD K ι G v x) (h : lstAt w x = some (l, xs)) : x = .loc l ∧ ∃ a vs, ι[l]? = some a ∧ v = .ref a ∧ H a = some (.lst vs) ∧ RDs K ι G vs xs := by
  unfold lstAt at h
  split at h
  · rename_i l'
    obtain ⟨a, h1, rfl⟩ := r
    cases q : w[l']? with
    | none => rw [q] at h; cases h
    | some o =>
      rw [q] at h
      cases o with
      | lst ys =>
        cases h
        obtain ⟨vs, f1, f2⟩ := s.ob _ a _ h1 q
        exact ⟨rfl, a, vs, h1, rfl, f1, f2⟩
      | _ => cases h
  · cases h
theorem RDs.app {K : PySem.W.Frag} {ι : List Addr} {G : Hp} {vs us : List V} {xs ys : List DV} (h : RDs K ι G vs xs) (h2 : RDs K ι G us ys) : RDs K ι G (vs ++ us) (xs ++ ys) := by
  induction h with
  | nil => exact h2
  | cons r t ih => exact .cons r ih
theorem RDs.dropLast {K : PySem.W.Frag} {ι : List Addr} {G : Hp} : ∀ {vs : List V} {xs : List DV}, RDs K ι G vs xs → RDs K ι G vs.dropLast xs.dropLast
  | _, _, .nil => .nil
  | _, _, .cons r .nil => .nil
  | _, _, .cons r (.cons r2 t) => .cons r (RDs.dropLast (.cons r2 t))
section
variable {X : Cx} {α : Addr × Str} {Wx : WX} {a b c e : Expr} {es : List Expr} {xa xb xc : XM} {xs : AM} {pos apos cpos : Pos} {ss : List Stmt} {sm : SM}
theorem x_app (ho : PE X a (cE X.K α Wx xa)) (he : PE X e (cE X.K α Wx xb)) (hbase : attributeBase a "append" X.env (eval a X.env) = eval a X.env := by rfl)
    (hfew : ((backTo cpos (starEach [e] X.env)).all (fun x => !x.1) && (backToKw cpos (keywordEach [] X.env)).all (fun x => x.1.isSome)
      && decide (([e] : List Expr).length + ([] : List Keyword).length + (if ([] : List Keyword).isEmpty then 0 else 1) < 30)) = true := by rfl)
    (hline : (apos.endLine == cpos.line) = true := by rfl) (hs : starEach [e] X.env = (false, eval e X.env) :: starEach [] X.env := by rfl) (hplain : (backTo cpos (starEach [] X.env)).any (·.1) = false := by rfl) :
    PE X (.Call (.Attribute a "append" apos) [e] [] cpos) (cE X.K α Wx (xApp xa xb)) :=
  pe_imp (pe_bm PySem.F.plainAttrs_list PySem.F.slot_list_append PySem.F.type_list_append mt_append ho (pa_cons he pa_nil hs) hbase hfew hline hs hplain) fun σ H Q ⟨ι, G, w, env, s, ev, p⟩ =>
    ⟨ι, G, w, env, s, ev, PostE.bind p fun d1 w1 v1 ι1 G1 H1 _ e1 s1 r1 p1 => by
      cases q : lstAt w1 d1 with
      | none => rw [q] at p1; exact p1.elim
      | some z =>
        obtain ⟨l, xs⟩ := z
        rw [q] at p1
        obtain ⟨rfl, a', vs, h1, rfl, h2, h3⟩ := lstAt_ok s1 r1 q
        refine ⟨Or.inl ⟨rfl, vs, Evl.sq_of h2⟩, ι1, G1, w1, env, s1, ev.mono e1, PostE.bind p1 fun d2 w2 v2 ι2 G2 H2 _ e2 s2 r2 p2 => ?_⟩
        cases q2 : lstAt w2 (.loc l) with
        | none => rw [q2] at p2; exact p2.elim
        | some z2 =>
          obtain ⟨l2, ys⟩ := z2
          rw [q2] at p2
          simp only at p2
          obtain ⟨e3, a2, us, g1, g2, g3, g4⟩ := lstAt_ok s2 (r1.mono e2) q2
          cases g2
          split at p2
          · rename_i hl
            exact ⟨a', us, v2, rfl, rfl, g3, Evl.sz_lt (by rw [rds_len g4]; exact hl), p2 .non ι2 G2 _ (Evo.write g1) (s2.write g1 ⟨_, rfl, g4.app (.cons r2 .nil)⟩) .non⟩
          · exact p2.elim⟩
theorem x_popL (ho : PE X a (cE X.K α Wx xa)) (hbase : attributeBase a "pop" X.env (eval a X.env) = eval a X.env := by rfl) (hline : (apos.endLine == cpos.line) = true := by rfl) :
    PE X (.Call (.Attribute a "pop" apos) [] [] cpos) (cE X.K α Wx (xPopL xa)) :=
  pe_imp (pe_bm0 PySem.F.plainAttrs_list PySem.F.slot_list_pop PySem.F.type_list_pop mt_pop ho hbase hline) fun σ H Q ⟨ι, G, w, env, s, ev, p⟩ =>
    ⟨ι, G, w, env, s, ev, PostE.bind p fun d1 w1 v1 ι1 G1 H1 _ e1 s1 r1 p1 => by
      cases q : lstAt w1 d1 with
      | none => rw [q] at p1; exact p1.elim
      | some z =>
        obtain ⟨l, xs⟩ := z
        rw [q] at p1
        simp only at p1
        obtain ⟨rfl, a', vs, h1, rfl, h2, h3⟩ := lstAt_ok s1 r1 q
        refine ⟨Or.inl ⟨rfl, vs, Evl.sq_of h2⟩, ?_⟩
        cases q2 : xs[xs.length - 1]? with
        | none => rw [q2] at p1; exact p1.elim
        | some y =>
          rw [q2] at p1
          obtain ⟨v, g1, g2⟩ := rds_at h3 q2
          rw [← rds_len h3] at g1
          exact ⟨a', vs, v, rfl, rfl, h2, g1, p1 v ι1 G1 _ (Evo.write h1) (s1.write h1 ⟨_, rfl, h3.dropLast⟩) g2⟩⟩
theorem x_clearL (ho : PE X a (cE X.K α Wx xa)) (hbase : attributeBase a "clear" X.env (eval a X.env) = eval a X.env := by rfl) (hline : (apos.endLine == cpos.line) = true := by rfl) :
    PE X (.Call (.Attribute a "clear" apos) [] [] cpos) (cE X.K α Wx (xClearL xa)) :=
  pe_imp (pe_bm0 PySem.F.plainAttrs_list PySem.F.slot_list_clear PySem.F.type_list_clear mt_clear ho hbase hline) fun σ H Q ⟨ι, G, w, env, s, ev, p⟩ =>
    ⟨ι, G, w, env, s, ev, PostE.bind p fun d1 w1 v1 ι1 G1 H1 _ e1 s1 r1 p1 => by
      cases q : lstAt w1 d1 with
      | none => rw [q] at p1; exact p1.elim
      | some z =>
        obtain ⟨l, xs⟩ := z
        rw [q] at p1
        simp only at p1
        obtain ⟨rfl, a', vs, h1, rfl, h2, h3⟩ := lstAt_ok s1 r1 q
        exact ⟨Or.inl ⟨rfl, vs, Evl.sq_of h2⟩, a', vs, rfl, rfl, h2, p1 .non ι1 G1 _ (Evo.write h1) (s1.write h1 ⟨_, rfl, .nil⟩) .non⟩⟩
end

/-! ### targets of several names -/
def setsE : List Nat → List DV → En → Option En
  | [], [], e => some e
  | j :: js, d :: ds, e => setsE js ds (e.set j (some d))
  | _, _, _ => none
def gTp (js : List Nat) : TgM := fun d e w => match d with
  | .d (.tuple ds) => setsE js (ds.map .d) e
  | .loc l => match w[l]? with
    | some (.tup xs) => setsE js xs e
    | _ => none
  | _ => none
def gNs : List Nat → TGs
  | [] => gNil
  | j :: js => gCons (gName j) (gNs js)
theorem sets_ok {K : PySem.W.Frag} {α : Addr × Str} {ι : List Addr} {G H : Hp} {Q : L2.St → Hp → Prop} : ∀ {js : List Nat} {vs : List V} {ds : List DV} {σ : L2.St} {env e' : En}, EnvR K α ι G σ env → RDs K ι G vs ds → setsE js ds env = some e' → (∀ σ', EnvR K α ι G σ' e' → Q σ' H) → gNs js vs σ H Q
  | [], _, [], σ, env, e', ev, .nil, h, k => by cases h; exact ⟨rfl, k σ ev⟩
  | [], _, d :: ds, σ, env, e', ev, _, h, k => by cases h
  | j :: js, _, [], σ, env, e', ev, r, h, k => by cases h
  | j :: js, _, d :: ds, σ, env, e', ev, .cons r t, h, k => ⟨_, _, rfl, sets_ok (ev.set (SlotR.of r) j) t h k⟩
theorem sets_len : ∀ {js : List Nat} {ds : List DV} {env e' : En}, setsE js ds env = some e' → ds.length = js.length
  | [], [], _, _, _ => rfl
  | [], d :: ds, _, _, h => by cases h
  | j :: js, [], _, _, h => by cases h
  | j :: js, d :: ds, env, _, h => congrArg Nat.succ (sets_len (js := js) (ds := ds) (env := env.set j (some d)) h)
theorem tg_tup {K : PySem.W.Frag} {α : Addr × Str} (js : List Nat) : TgOk K α (gTup K js.length (gNs js)) (gTp js) := by
  intro ι G H w σ env v d e' Q sw ev r h k
  unfold gTp at h
  split at h
  · rename_i ds
    cases r with
    | tup h1 h2 =>
      have hl := sets_len h
      rw [List.length_map] at hl
      exact ⟨_, _, rfl, Evl.ex_t sw.sub h1, (dps_len h2).trans hl, sets_ok ev (rds_of_dps h2) h k⟩
  · rename_i l
    obtain ⟨a, h1, rfl⟩ := r
    cases q : w[l]? with
    | none => rw [q] at h; cases h
    | some o =>
      rw [q] at h
      cases o with
      | tup xs =>
        obtain ⟨vs, f1, f2⟩ := sw.ob l a _ h1 q
        exact ⟨a, vs, rfl, Evl.st_of f1, (rds_len f2).trans (sets_len h), sets_ok ev f2 h k⟩
      | _ => cases h
  · cases h
def sAsg (g : TgM) (x : XM) : SM := fun e w => (x e w).st e fun d w1 => match g d e w1 with
  | some e1 => .ok (.nx e1) w1
  | none => .bad
theorem s_asg {X : Cx} {α : Addr × Str} {Wx : WX} {tg e : Expr} {g : TG} {m : TgM} {xa : XM} {pos : Pos} (hg : TgOk X.K α g m) (he : PE X e (cE X.K α Wx xa)) (hgt : PG X tg g) (hs : swapsWithSole [tg] e pos.line X.env = pure false := by rfl) (hw : swappedStores [tg] e X.env = pure none := by rfl)
    (h1 : (assignEach [tg] X.env).map (·.2) = [assign tg X.env] := by rfl) : PS X (.Assign [tg] e pos) (cS X.K α Wx (sAsg m xa)) :=
  ps_imp (ps_asg he hgt hs hw h1) fun D σ H ⟨ι, G, w, env, sw, ev, p⟩ => ⟨ι, G, w, env, sw, ev, PostS.st p ev fun d1 w1 v1 ι1 G1 H1 _ e1 s1 r1 p1 => by
    cases q : m d1 env w1 with
    | none => rw [q] at p1; exact p1.elim
    | some e2 =>
      rw [q] at p1
      exact hg ι1 G1 H1 w1 σ env v1 d1 e2 _ s1 (ev.mono e1) r1 q fun σ' ev' => p1 σ' ι1 G1 H1 .refl s1 ev'⟩

/-! ### what the head tells -/
theorem exc_mk {K : PySem.W.Frag} {mg : Str → Option Value} {n : Str} (g : mg n = some (.ref (He.ga K n))) (h : PySem.W.excIn K (He.ga K n) He.veBase "ValueError.__new__" = true ∧ PySem.W.keepIn K (.ref (He.ga K n)) = true ∧ PySem.W.subIn K (.ref (He.ga K n)) (.type "BaseException") = some true ∧
    PySem.W.typeIn K (.ref (He.ga K n)) = some (.type "type")) : ExcF K mg n := ⟨g, h.1, h.2.1, h.2.2.1, h.2.2.2⟩
def eqV2 (a b : Option (Option Value)) : Bool := decide (a = b)
def excCB (K : PySem.W.Frag) (D : Addr) : Bool := decide (PySem.W.findIn K (.ref D) "__getattribute__" = some (some (.builtin "BaseException.__getattribute__"))) && (decide (PySem.W.findIn K (.ref D) "__getattr__" = some none) &&
  (decide (PySem.W.subIn K (.ref D) (.type "BaseException") = some true) && (PySem.W.hasDictIn K D && (decide (PySem.W.findIn K (.ref D) "__class__" = some (some (.builtin "object.__class__"))) &&
  (decide (PySem.W.specialIn K (.builtin "object.__class__") "__get__" = some (some (.builtin "getset_descriptor.__get__"))) && (decide (PySem.W.takesIn K (.builtin "object.__class__") = some true) && decide (PySem.W.mroIn K D (.type "object") = some true)))))))
theorem excC_of {K : PySem.W.Frag} {D : Addr} (h : excCB K D = true) : ExcC K D := by
  unfold excCB at h
  simp only [Bool.and_eq_true, decide_eq_true_eq] at h
  obtain ⟨h1, h2, h3, h4, h5, h6, h7, h8⟩ := h
  exact ⟨h1, h2, h3, h4, h5, h6, h7, h8⟩
/-- the law's own end: a list of ints is handed in, True comes out -/
theorem law_sp {K : PySem.W.Frag} {f : FP} {H : Hp} {a : Addr} {ns : List Int} (h : f [.list (ns.map .int)] = .ok (.bool true)) (hS : SqL K H a (ns.map V.int)) : spP K 1 f [.ref a] H (fun v _ => v = .bl true) fun _ _ _ => False := by
  refine ⟨rfl, H, [.list (ns.map .int)], Evl.Ex.refl _, .cons (.lst hS (dps_ints ns)) .nil, ?_⟩
  rw [h]
  intro v G' H' _ _ hd
  cases hd
  rfl
theorem law_spW {K : PySem.W.Frag} {f : FW} {H : Hp} {a : Addr} {ns : List Int} (h : ∃ w, f [.d (.list (ns.map .int))] [] = .ok (.d (.bool true)) w) (hS : SqL K H a (ns.map V.int)) : spW K 1 f [.ref a] H (fun v _ => v = .bl true) fun _ _ _ => False := by
  obtain ⟨w, h⟩ := h
  refine ⟨rfl, [], H, [], [.d (.list (ns.map .int))], ws_nil (Evl.Ex.refl _), .cons (.lst hS (dps_ints ns)) .nil, ?_⟩
  rw [h]
  intro v ι' G' H' _ _ hd
  cases hd
  rfl
end RK
namespace RK
open PySem PySem.Spec PyProof.Rows L2
section
variable {P : Program} {w : World} {K : PySem.W.Frag} {mg : Str → Option Value} {base : Heap} {x C m qual : Str} {params : Arguments} {body : List Stmt} {scope : Scope} {fd : FuncData} {N ps : List Str} {k n l : Nat} {s : SM}
theorem mk_P {f : FP} (hf : f = runP l s) (hl : N.length = l) (hn : ps.length = n) (hm : mg x = some (.ref (He.ga K x))) (F : FunD K x qual params body scope [] [] (He.ga K x) fd) (S : FnScope N ps scope) (bd : Binds K fd ps [])
    (hb : BodyOk P w K mg base qual body scope (He.ga K x) N k s) : Fn P w K mg base x (k + 1) (spP K n f) := by
  subst hf; subst hl; subst hn
  exact ⟨hm, F.kp, fd, ps, ok_P F S hb, bd⟩
theorem mk_W {f : FW} (hf : f = runW l s) (hl : N.length = l) (hn : ps.length = n) (hm : mg x = some (.ref (He.ga K x))) (F : FunD K x qual params body scope [] [] (He.ga K x) fd) (S : FnScope N ps scope) (bd : Binds K fd ps [])
    (hb : BodyOk P w K mg base qual body scope (He.ga K x) N k s) : Fn P w K mg base x (k + 1) (spW K n f) := by
  subst hf; subst hl; subst hn
  exact ⟨hm, F.kp, fd, ps, ok_W F S hb, bd⟩
theorem mk_MW {f : FW} (hf : f = runW l s) (hl : N.length = l) (hn : ps.length = n) (hm : Meth K (He.ga K C) m (He.ma K (He.ga K C) m)) (F : FunD K m qual params body scope [] [] (He.ma K (He.ga K C) m) fd) (S : FnScope N ps scope) (bd : Binds K fd ps [])
    (hb : BodyOk P w K mg base qual body scope (He.ma K (He.ga K C) m) N k s) : Md P w K mg base C m (k + 1) (spW K n f) := by
  subst hf; subst hl; subst hn
  exact ⟨hm, fd, ps, ok_W F S hb, bd⟩
end
end RK
namespace RK
open PySem PySem.Spec PyProof.Rows L2
theorem hu64 {k : Nat} {A : Around} (hr : Room k A) : A.units + 64 < cLine := hr.units
theorem hu65 {k : Nat} {A : Around} (hr : Room k A) : A.units + 65 < cLine := by
  have := hr.un
  omega
theorem hu65s {X : Cx} {a : Addr} {pn : List (Addr × Obj)} {k : Nat} (hr : Room k X.A) : (X.suite a pn).A.units + 65 < cLine := by
  show X.A.units + 65 < cLine
  exact hu65 hr
theorem hu64s {X : Cx} {a : Addr} {pn : List (Addr × Obj)} {k : Nat} (hr : Room k X.A) : (X.suite a pn).A.units + 64 < cLine := by
  show X.A.units + 64 < cLine
  exact hu64 hr
section
variable {X : Cx} {α : Addr × Str} {Wx : WX} {pos pos' np : Pos} {mt : Str → Str → Bool} {errs : List Str} {i : Nat}
theorem x_isEC {h n : Str} {a : Addr} {c : Str} {oe : Obj} {pn : List (Addr × Obj)} {p p1 p2 : Pos} (hce : c ∈ errs) (C : ExcC X.K (He.ga X.K c)) (hz : Zc (.ref (He.ga X.K c)) none oe) (hf : ∃ vs, oe.data = .fields vs)
    (io : IsOk X.K mt errs h (.ref (He.ga X.K h))) (hg : Gl (X.suite a ((a, oe) :: pn)) "isinstance") (hm : X.mg "isinstance" = none) (hvar : PE (X.suite a ((a, oe) :: pn)) (.Name n p1) (tVar i)) (hgc : Gl (X.suite a ((a, oe) :: pn)) h) (hmc : X.mg h = some (.ref (He.ga X.K h)))
    (hdb : (h == ("__debug__" : Str)) = false := by decide)
    (he : starEach [.Name n p1, .Name h p2] (X.suite a ((a, oe) :: pn)).env = (false, eval (.Name n p1) (X.suite a ((a, oe) :: pn)).env) :: starEach [.Name h p2] (X.suite a ((a, oe) :: pn)).env := by rfl) (hpl : (backTo pos (starEach [.Name h p2] (X.suite a ((a, oe) :: pn)).env)).any (·.1) = false := by rfl)
    (hb : bootBuiltins "isinstance" = some (.builtin "isinstance") := by decide +kernel) (hs1 : starEach [.Name h p2] (X.suite a ((a, oe) :: pn)).env = (false, eval (.Name h p2) (X.suite a ((a, oe) :: pn)).env) :: starEach [] (X.suite a ((a, oe) :: pn)).env := by rfl) :
    PE (X.suite a ((a, oe) :: pn)) (.Call (.Name "isinstance" p) [.Name n p1, .Name h p2] [] pos) (cE X.K (a, c) Wx (xIsE mt i h)) :=
  x_isE (cv := .ref (He.ga X.K h)) hce C hz hf (fun _ h => h) io hg hm hvar (pe_glob (X := X.suite a ((a, oe) :: pn)) (v := .ref (He.ga X.K h)) hgc hmc rfl hdb) he hpl hb hs1
theorem x_isET {h n : Str} {T : String} {a : Addr} {c : Str} {oe : Obj} {pn : List (Addr × Obj)} {p p1 p2 : Pos} (hce : c ∈ errs) (C : ExcC X.K (He.ga X.K c)) (hz : Zc (.ref (He.ga X.K c)) none oe) (hf : ∃ vs, oe.data = .fields vs)
    (io : IsOk X.K mt errs h (.type T)) (hg : Gl (X.suite a ((a, oe) :: pn)) "isinstance") (hm : X.mg "isinstance" = none) (hvar : PE (X.suite a ((a, oe) :: pn)) (.Name n p1) (tVar i)) (hgc : Gl (X.suite a ((a, oe) :: pn)) h) (hmc : X.mg h = none) (hvt : bootBuiltins h = some (.type T))
    (hdb : (h == ("__debug__" : Str)) = false := by decide) (hnn : h ≠ "__name__" := by decide)
    (he : starEach [.Name n p1, .Name h p2] (X.suite a ((a, oe) :: pn)).env = (false, eval (.Name n p1) (X.suite a ((a, oe) :: pn)).env) :: starEach [.Name h p2] (X.suite a ((a, oe) :: pn)).env := by rfl) (hpl : (backTo pos (starEach [.Name h p2] (X.suite a ((a, oe) :: pn)).env)).any (·.1) = false := by rfl)
    (hb : bootBuiltins "isinstance" = some (.builtin "isinstance") := by decide +kernel) (hs1 : starEach [.Name h p2] (X.suite a ((a, oe) :: pn)).env = (false, eval (.Name h p2) (X.suite a ((a, oe) :: pn)).env) :: starEach [] (X.suite a ((a, oe) :: pn)).env := by rfl) :
    PE (X.suite a ((a, oe) :: pn)) (.Call (.Name "isinstance" p) [.Name n p1, .Name h p2] [] pos) (cE X.K (a, c) Wx (xIsE mt i h)) :=
  x_isE (cv := .ty T) hce C hz hf (fun _ h => h) io hg hm hvar (pe_bltn (X := X.suite a ((a, oe) :: pn)) (v := .ty T) hgc hmc hvt rfl hnn hdb) he hpl hb hs1
end
end RK
namespace RK
open PySem PySem.Spec PyProof.Rows L2
/-- the end of a law's row over a head of facts, what its def may let out told by the world -/
theorem law_end {lw : PySem.W.OpenLaw} {many lev : Nat} {vw : Program} {rest : List Str} {XQ : (Str → Option Value) → Heap → Prop} {YQ : World → Heap → Prop} {dr : DefRec} {arg : Str}
    (h1 : lw.most = some many) (h2 : many ≤ sizeLine) (h3 : dr.params.defaults = []) (h4 : Room lev callerA)
    (FF : ∀ (wd : World) (mgl : Str → Option Value) (at_ : Addr) (hp : Heap), YQ wd hp → hp.Ns mainGlobals mgl → mgl dr.name = some (.ref at_) →
      ∃ (KK : PySem.W.Frag) (fdt : FuncData) (pr : Sp), KK.In hp ∧ (∀ (sh : Shared) (val : Value), BindsTo sh fdt ⟨[val], []⟩ [(arg, val)]) ∧
        (∀ (HH : Hp) (ad : Addr) (nums : List Int), nums.length ≤ many → SqL KK HH ad (nums.map V.int) → pr [.ref ad] HH (fun v _ => v = .bl true) fun _ _ _ => False) ∧
        ∀ gr : Heap, KK.In gr → gr.Ns mainGlobals mgl → FnOk lw.prog wd KK mgl gr (L2.CX lw.prog wd) lev at_ fdt [arg] pr) :
    PySem.W.WalkO vw rest XQ YQ lw.row.toRowW dr [] (fun f vs => PySem.call f vs) := by
  refine Att.attach_call h1 h3 fun wd s0 s1 mgl mbl at_ ob pm cd doc ad vs nums G Y ho hd hcd hmg hob hin hle hgr => ?_
  obtain ⟨KK, fdt, pr, KX, hb, hsp, hF⟩ := FF wd mgl at_ _ Y G.T.g hmg
  refine law_call KX G.T.g G.T.b G.T.builtins G.T.nolimit hgr hob hin (Nat.le_trans hle h2) h4 hF hb (fun HH _ hS => hsp HH ad nums hle hS) fun HH er st hx => ?_
  obtain ⟨_, _, _, _, _, _, _, _, _, _, _, _, zz⟩ := hx
  exact zz.elim
end RK
namespace RK
open PySem PySem.Spec PyProof.Rows L2
section
variable {P : Program} {w : World} {K : PySem.W.Frag} {mg : Str → Option Value} {base : Heap} {x C m qual : Str} {params : Arguments} {body : List Stmt} {scope : Scope} {fd : FuncData} {N ps : List Str} {k n l : Nat} {s : SM}
theorem mk_okP {f : FP} (hf : f = runP l s) (hl : N.length = l) (hn : ps.length = n) (F : FunD K x qual params body scope [] [] (He.ga K x) fd) (S : FnScope N ps scope)
    (hb : BodyOk P w K mg base qual body scope (He.ga K x) N k s) : FnOk P w K mg base (L2.CX P w) (k + 1) (He.ga K x) fd ps (spP K n f) := by
  subst hf; subst hl; subst hn
  exact ok_P F S hb
theorem mk_okW {f : FW} (hf : f = runW l s) (hl : N.length = l) (hn : ps.length = n) (F : FunD K x qual params body scope [] [] (He.ga K x) fd) (S : FnScope N ps scope)
    (hb : BodyOk P w K mg base qual body scope (He.ga K x) N k s) : FnOk P w K mg base (L2.CX P w) (k + 1) (He.ga K x) fd ps (spW K n f) := by
  subst hf; subst hl; subst hn
  exact ok_W F S hb
end
end RK

set_option Elab.async false
set_option linter.all false
set_option maxRecDepth 100000
set_option maxHeartbeats 4000000
/-! RKit, part F: slices. -/
namespace RK
open PySem PySem.Spec PyProof.Rows L2
abbrev OM := En → Wd → Rs (Option Int)
def poN : OM := fun _ w => .ok none w
def poS (x : XM) : OM := fun e w => (x e w).bind fun d w1 => match d with
  | .d (.int i) => .ok (some i) w1
  | _ => .bad
def cutL {α : Type} (xs : List α) (lo hi : Option Int) : List α := (xs.drop (HT.sIx xs.length 0 lo)).take (HT.sIx xs.length xs.length hi - HT.sIx xs.length 0 lo)
def xSl (op : DV → Option Int → Option Int → Wd → Rs DV) (x : XM) (lo hi : OM) : XM := fun e w => (x e w).bind fun d w1 => (lo e w1).bind fun l w2 => (hi e w2).bind fun u w3 => op d l u w3
def oSlL (x : DV) (l u : Option Int) (w : Wd) : Rs DV := match itemsD w x with
  | some ds => .ok (.d (.list (cutL ds l u))) w
  | none => .bad
def oSlS (x : DV) (l u : Option Int) (w : Wd) : Rs DV := match x with
  | .d (.str z) => if z.length ≤ 100000 then .ok (.d (.str (cutS z l u))) w else .bad
  | _ => .bad
abbrev xSlL := xSl oSlL
abbrev xSlS := xSl oSlS
section
variable {K : PySem.W.Frag} {Wx : WX} {α : Addr × Str}
def PostO (K : PySem.W.Frag) (Wx : WX) (ι : List Addr) (G H : Hp) (σ : L2.St) (r : Rs (Option Int)) (Q : Option Int → Hp → Prop) : Prop :=
  match r with
  | .ok d w' => ∀ ι' G' H', Evo ι G H ι' G' H' → WS K ι' G' H' w' → Q d H'
  | .ex c w' => ∀ ι' G' H', Evo ι G H ι' G' H' → WS K ι' G' H' w' → Wx (.ref (He.ga K c)) none σ H'
  | .bad => False
def cO (K : PySem.W.Frag) (α : Addr × Str) (Wx : WX) (x : OM) : TO := fun σ H Q => ∃ ι G w env, WS K ι G H w ∧ EnvR K α ι G σ env ∧ PostO K Wx ι G H σ (x env w) Q
theorem po_imp {X : Cx} {e : Option Expr} {t t' : TO} (h : PO X e t) (i : ∀ σ H Q, t' σ H Q → t σ H Q) : PO X e t' := ⟨fun pins s σ H Q I q => h.run pins s σ H Q I (i _ _ _ q)⟩
theorem po_n {X : Cx} : PO X none (cO X.K α Wx poN) := po_imp po_none fun σ H Q ⟨ι, G, w, env, s, ev, p⟩ => p ι G H .refl s
theorem PostO.mono {ι ι' : List Addr} {G G' H H' : Hp} {σ : L2.St} {r : Rs (Option Int)} {Q : Option Int → Hp → Prop} (e : Evo ι G H ι' G' H') (p : PostO K Wx ι G H σ r Q) : PostO K Wx ι' G' H' σ r Q := by
  cases r with
  | ok d w => exact fun i2 G2 H2 e2 s => p i2 G2 H2 (e.trans e2) s
  | ex c w => exact fun i2 G2 H2 e2 s => p i2 G2 H2 (e.trans e2) s
  | bad => exact p
theorem PostE.bindO {ι : List Addr} {G H : Hp} {σ : L2.St} {Q : Option Int → Hp → Prop} {Q' : VK} {r : Rs DV} {f : DV → Wd → Rs (Option Int)} (p : PostO K Wx ι G H σ (r.bind f) Q)
    (k : ∀ d w' v ι' G' H', r = .ok d w' → Evo ι G H ι' G' H' → WS K ι' G' H' w' → RD K ι' G' v d → PostO K Wx ι' G' H' σ (f d w') Q → Q' v H') : PostE K Wx ι G H σ r Q' := by
  cases r with
  | ok d w => exact fun v i2 G2 H2 e2 s r => k d w v i2 G2 H2 rfl e2 s r (PostO.mono e2 p)
  | ex c w => exact p
  | bad => exact p
theorem PostO.bindE {ι : List Addr} {G H : Hp} {σ : L2.St} {Q : VK} {Q' : Option Int → Hp → Prop} {r : Rs (Option Int)} {f : Option Int → Wd → Rs DV} (p : PostE K Wx ι G H σ (r.bind f) Q)
    (k : ∀ d w' ι' G' H', Evo ι G H ι' G' H' → WS K ι' G' H' w' → PostE K Wx ι' G' H' σ (f d w') Q → Q' d H') : PostO K Wx ι G H σ r Q' := by
  cases r with
  | ok d w => exact fun i2 G2 H2 e2 s => k d w i2 G2 H2 e2 s (PostE.mono e2 p)
  | ex c w => exact p
  | bad => exact p
theorem po_s {X : Cx} {e : Expr} {xa : XM} (he : PE X e (cE X.K α Wx xa)) : PO X (some e) (cO X.K α Wx (poS xa)) := by
  refine po_imp (po_some he) fun σ H Q ⟨ι, G, w, env, s, ev, p⟩ => ⟨ι, G, w, env, s, ev, PostE.bindO p fun d1 w1 v1 ι1 G1 H1 _ e1 s1 r1 p1 => ?_⟩
  cases d1 with
  | loc l => exact p1.elim
  | exc c => exact p1.elim
  | d z =>
    cases z with
    | int i =>
      cases r1
      exact ⟨i, rfl, p1 ι1 G1 H1 .refl s1⟩
    | _ => exact p1.elim
/-- the slice of a value -/
def SlOk (K : PySem.W.Frag) (Wx : WX) (op : DV → Option Int → Option Int → Wd → Rs DV) (r : V → Option Int → Option Int → Hp → VK → Prop) : Prop :=
  ∀ ι G H w σ x dx l u Q, WS K ι G H w → RD K ι G x dx → PostE K Wx ι G H σ (op dx l u w) Q → r x l u H Q
theorem x_sl {X : Cx} {e : Expr} {lo hi : Option Expr} {pos p2 : Pos} {op : DV → Option Int → Option Int → Wd → Rs DV} {r : V → Option Int → Option Int → Hp → VK → Prop} {xa : XM} {ol oh : OM} (hk : SlOk X.K Wx op r) (hr : SlR X r) (he : PE X e (cE X.K α Wx xa)) (hl : PO X lo (cO X.K α Wx ol)) (hh : PO X hi (cO X.K α Wx oh)) :
    PE X (.Subscript e (.Slice lo hi none p2) pos) (cE X.K α Wx (xSl op xa ol oh)) :=
  pe_imp (pe_slice hr he hl hh) fun σ H Q ⟨ι, G, w, env, s, ev, p⟩ => ⟨ι, G, w, env, s, ev, PostE.bind p fun d1 w1 v1 ι1 G1 H1 _ e1 s1 r1 p1 =>
    ⟨ι1, G1, w1, env, s1, ev.mono e1, PostO.bindE p1 fun l w2 ι2 G2 H2 e2 s2 p2 => ⟨ι2, G2, w2, env, s2, (ev.mono e1).mono e2, PostO.bindE p2 fun u w3 ι3 G3 H3 e3 s3 p3 => hk ι3 G3 H3 w3 σ v1 d1 l u Q s3 ((r1.mono e2).mono e3) p3⟩⟩⟩
theorem dps_drop {G : Hp} : ∀ (n : Nat) {vs : List V} {ds : List PyData}, DpAll K G vs ds → DpAll K G (vs.drop n) (ds.drop n)
  | 0, _, _, h => by simpa using h
  | n + 1, _, _, .nil => by simpa using (DpAll.nil : DpAll K G [] [])
  | n + 1, _, _, .cons _ h => by simpa using dps_drop n h
theorem dps_take {G : Hp} : ∀ (n : Nat) {vs : List V} {ds : List PyData}, DpAll K G vs ds → DpAll K G (vs.take n) (ds.take n)
  | 0, _, _, h => by simpa using (DpAll.nil : DpAll K G [] [])
  | n + 1, _, _, .nil => by simpa using (DpAll.nil : DpAll K G [] [])
  | n + 1, _, _, .cons h1 h => by simpa using DpAll.cons h1 (dps_take n h)
theorem k_slL : SlOk K Wx oSlL (rSlL K) := by
  intro ι G H w σ x dx l u Q s r p
  unfold oSlL at p
  split at p
  · rename_i ds h
    obtain ⟨a, vs, rfl, f1, f2⟩ := items_dp s r h
    refine ⟨a, vs, rfl, f1, fun q hq => p _ ι _ _ (Evo.newD s.sub hq) (s.newD hq) (.lst (Evl.sq_of upd_same) ?_)⟩
    have e : cutV vs l u = cutL vs l u := rfl
    rw [e]
    unfold cutL
    rw [dps_len f2]
    exact dps_take _ (dps_drop _ (dp_monos (Evl.Ex.new (Evl.fresh_back s.sub hq)) _ _ f2))
  · exact p.elim
theorem k_slS : SlOk K Wx oSlS rSlS := by
  intro ι G H w σ x dx l u Q s r p
  unfold oSlS at p
  split at p
  · rename_i z
    cases r
    split at p
    · rename_i h
      exact ⟨z, rfl, Evl.sz_of h, p _ ι G H .refl s (.str _)⟩
    · exact p.elim
  · exact p.elim
/-- minus a number -/
def xNeg (x : XM) : XM := fun e w => (x e w).bind fun d w1 => match d with
  | .d (.int i) => .ok (.d (.int (-i))) w1
  | _ => .bad
theorem x_neg {X : Cx} {a : Expr} {pos : Pos} {xa : XM} (ha : PE X a (cE X.K α Wx xa)) : PE X (.UnaryOp .USub a pos) (cE X.K α Wx (xNeg xa)) :=
  pe_imp (pe_un un_neg ha) fun σ H Q ⟨ι, G, w, env, s, ev, p⟩ => ⟨ι, G, w, env, s, ev, PostE.bind p fun d1 w1 v1 ι1 G1 H1 _ e1 s1 r1 p1 => by
    cases d1 with
    | loc l => exact p1.elim
    | exc c => exact p1.elim
    | d z =>
      cases z with
      | int i =>
        cases r1
        exact ⟨i, rfl, p1 _ ι1 G1 H1 .refl s1 (.int _)⟩
      | _ => exact p1.elim⟩
end
end RK

set_option Elab.async false
set_option linter.all false
set_option maxRecDepth 100000
set_option maxHeartbeats 4000000
/-! RKit, part G: list comprehensions, sum, sorted. -/
namespace RK
open PySem PySem.Spec PyProof.Rows L2
def lcT (t : Option XM) : XM := match t with
  | none => fun _ w => .ok (.d (.bool true)) w
  | some x => x
/-- the turns of a comprehension whose items are plain data -/
def lcF (j : Nat) (t : Option XM) (s : XM) (e : En) : List PyData → Wd → List PyData → Rs (List PyData)
  | [], w, acc => .ok acc w
  | d :: ds, w, acc => match lcT t (e.set j (some (.d d))) w with
    | .ok (.d (.bool p)) w1 => if p = true then (match s (e.set j (some (.d d))) w1 with
        | .ok (.d y) w2 => if acc.length < 100000 then lcF j t s e ds w2 (acc ++ [y]) else .bad
        | _ => .bad) else lcF j t s e ds w1 acc
    | _ => .bad
def lcFin (st : Bool) (out : List PyData) (w : Wd) : Rs DV := if st = true then .ok (.loc w.length) (w ++ [.lst (out.map .d)]) else .ok (.d (.list out)) w
def lcRun (st : Bool) (j : Nat) (t : Option XM) (s : XM) (e : En) (ds : List PyData) (w : Wd) : Rs DV := match lcF j t s (e.set j none) ds w [] with
  | .ok out w' => lcFin st out w'
  | _ => .bad
def xLc (st : Bool) (j : Nat) (x : XM) (t : Option XM) (s : XM) : XM := fun e w => (x e w).bind fun d w1 => match d with
  | .d (.list ds) => lcRun st j t s e ds w1
  | _ => .bad
def xLcT (st : Bool) (j : Nat) (x : XM) (t : Option XM) (s : XM) : XM := fun e w => (x e w).bind fun d w1 => match d with
  | .d (.tuple ds) => lcRun st j t s e ds w1
  | _ => .bad
def xLcR (st : Bool) (j : Nat) (x : XM) (t : Option XM) (s : XM) : XM := fun e w => (x e w).bind fun d w1 => match d with
  | .d (.int n) => if okR n = true then lcRun st j t s e (rngD 0 n.toNat) w1 else .bad
  | _ => .bad
section
variable {K : PySem.W.Frag} {Wx : WX} {α : Addr × Str}
theorem takes0 {X : Cx} : Takes X noX := fun u s' ⟨a, B, sI, pins, σ, H, cls, d, e, I, nb, up, sky, na, os, ag, w⟩ => w.elim
/-- the heap without D -/
def rmv (H : Hp) (D : Addr) : Hp := fun a => if a = D then none else H a
theorem rmv_same {H : Hp} {D : Addr} : rmv H D D = none := if_pos rfl
theorem rmv_ne {H : Hp} {D a : Addr} (h : a ≠ D) : rmv H D a = H a := if_neg h
theorem rmv_upd {H : Hp} {D : Addr} {o : HO} (h : H D = some o) : upd (rmv H D) D o = H := by
  funext a
  by_cases e : a = D
  · subst e; rw [upd_same, h]
  · rw [upd_ne e, rmv_ne e]
variable {ι ι0 : List Addr} {G G0 H H0 : Hp} {w : Wd} {D : Addr}
theorem WS.rmv (s : WS K ι G H w) (hD : D ∉ ι) (hG : G D = none) : WS K ι G (RK.rmv H D) w := by
  refine ⟨fun a u e => ?_, s.nd, s.len, s.out, fun l a o h1 h2 => ?_⟩
  · have : a ≠ D := fun h => by rw [h, hG] at e; cases e
    rw [rmv_ne this]; exact s.sub a u e
  · have : a ≠ D := fun h => hD (h ▸ List.mem_of_getElem? h1)
    rw [rmv_ne this]; exact s.ob l a o h1 h2
theorem Evo.rmv (e : Evo ι0 G0 H0 ι G H) (h0 : H0 D = none) : Evo ι0 G0 H0 ι G (RK.rmv H D) := by
  refine ⟨e.pre, e.g, e.gn, fun a o h1 h2 => ?_, fun a h => ?_⟩
  · rw [rmv_ne (ne_of_none h2 h0)]; exact e.h a o h1 h2
  · rw [rmv_ne (fun q => h (by rw [q]; exact h0))]; exact e.dom a h
theorem WS.updN (s : WS K ι G H w) {o : HO} (hD : D ∉ ι) (hG : G D = none) : WS K ι G (upd H D o) w := by
  refine ⟨fun a u e => ?_, s.nd, s.len, s.out, fun l a o h1 h2 => ?_⟩
  · have : a ≠ D := fun h => by rw [h, hG] at e; cases e
    rw [upd_ne this]; exact s.sub a u e
  · have : a ≠ D := fun h => hD (h ▸ List.mem_of_getElem? h1)
    rw [upd_ne this]; exact s.ob l a o h1 h2
theorem Evo.updN (e : Evo ι0 G0 H0 ι G H) {o : HO} (h0 : H0 D = none) : Evo ι0 G0 H0 ι G (upd H D o) := by
  refine ⟨e.pre, e.g, e.gn, fun a o h1 h2 => ?_, fun a h => ?_⟩
  · rw [upd_ne (ne_of_none h2 h0)]; exact e.h a o h1 h2
  · rw [upd_ne (fun q => h (by rw [q]; exact h0))]; exact e.dom a h
theorem Evo.notin {ι' : List Addr} {G' H' : Hp} {o : HO} (e : Evo ι G H ι' G' H') (hD : D ∉ ι) (h : H D = some o) : D ∉ ι' := by
  obtain ⟨new, e1, e2⟩ := e.pre
  rw [e1]
  intro m
  rcases List.mem_append.mp m with m | m
  · exact hD m
  · rw [e2 D m] at h; cases h
theorem dps_ix : ∀ {xs : List V} {ds : List PyData} {i : Nat} {x : V}, DpAll K G xs ds → xs[i]? = some x → ∃ d, ds[i]? = some d ∧ Dp K G x d
  | _, _, i, x, .nil, h => by simp at h
  | _, _, 0, x, .cons h1 h2, h => by
    simp only [List.getElem?_cons_zero, Option.some.injEq] at h
    subst h
    exact ⟨_, rfl, h1⟩
  | _, _, i + 1, x, .cons h1 h2, h => by
    simp only [List.getElem?_cons_succ] at h ⊢
    exact dps_ix h2 h
theorem rds_all {ι : List Addr} : ∀ {vs : List V} {ds : List PyData}, DpAll K G vs ds → RDs K ι G vs (ds.map .d)
  | _, _, .nil => .nil
  | _, _, .cons h1 h2 => .cons h1 (rds_all h2)
/-- what stands between the turns -/
def LcP (K : PySem.W.Frag) (ι0 : List Addr) (G0 H0 : Hp) (D : Addr) (j : Nat) (t : Option XM) (s : XM) (e : En) (ds : List PyData) (out : List PyData) (w' : Wd) (i : Nat) (H : Hp) : Prop :=
  ∃ ι G w acc vs, WS K ι G H w ∧ Evo ι0 G0 H0 ι G H ∧ D ∉ ι ∧ G D = none ∧ H D = some (.lst vs) ∧ DpAll K G vs acc ∧ lcF j t s e (ds.drop i) w acc = .ok out w'
def ttL (K : PySem.W.Frag) (α : Addr × Str) (t : Option XM) : TT := match t with
  | none => tYes
  | some x => cT K α noX x
theorem lc_turn {σ : L2.St} {e : En} {j : Nat} {t : Option XM} {s : XM} {ds out : List PyData} {w' : Wd} (ev : EnvR K α ι0 G0 σ e) (h0 : H0 D = none) {i : Nat} {x : V} {d : PyData} (hd : ds[i]? = some d) (hx : Dp K G0 x d) {H : Hp} (p : LcP K ι0 G0 H0 D j t s (e.set j none) ds out w' i H) :
    gName j x (wipe σ [j]) H fun σ2 H2 => wipe σ2 [j] = wipe σ [j] ∧ ttL K α t σ2 H2 fun b H3 =>
      if b = true then cE K α noX s σ2 H3 fun y H4 => ∃ acc, H4 D = some (.lst acc) ∧ acc.length < sizeLine ∧ LcP K ι0 G0 H0 D j t s (e.set j none) ds out w' (i + 1) (upd H4 D (.lst (acc ++ [y]))) else LcP K ι0 G0 H0 D j t s (e.set j none) ds out w' (i + 1) H3 := by
  obtain ⟨ι, G, w, acc, vs, ws, eo, hD, hG, hv, ha, hl⟩ := p
  have hi : i < ds.length := (List.getElem?_eq_some_iff.mp hd).1
  have hdr : ds.drop i = d :: ds.drop (i + 1) := by
    rw [List.drop_eq_getElem_cons hi]
    congr 1
    exact Option.some.inj ((List.getElem?_eq_getElem hi).symm.trans hd)
  rw [hdr] at hl
  have ev2 : EnvR K α ι G ((σ.set j none).set j (some x)) ((e.set j none).set j (some (.d d))) :=
    EnvR.set (SlotR.of (show RD K ι G x (.d d) from dp_mono eo.g _ _ hx)) j (EnvR.set (show SlotR K α ι G none none from trivial) j (ev.mono eo))
  refine ⟨by show ((σ.set j none).set j (some x)).set j none = σ.set j none; rw [List.set_set, List.set_set], ?_⟩
  have rest : ∀ (b : Bool) (w1 : Wd) (ι1 : List Addr) (G1 H1 : Hp), Evo ι G H ι1 G1 H1 → WS K ι1 G1 H1 w1 → lcT t ((e.set j none).set j (some (.d d))) w = .ok (.d (.bool b)) w1 →
      if b = true then cE K α noX s ((σ.set j none).set j (some x)) H1 fun y H4 => ∃ acc, H4 D = some (.lst acc) ∧ acc.length < sizeLine ∧ LcP K ι0 G0 H0 D j t s (e.set j none) ds out w' (i + 1) (upd H4 D (.lst (acc ++ [y]))) else LcP K ι0 G0 H0 D j t s (e.set j none) ds out w' (i + 1) H1 := by
    intro b w1 ι1 G1 H1 e1 s1 ht
    rw [lcF, ht] at hl
    simp only at hl
    have hD1 := e1.notin hD hv
    have hG1 : G1 D = none := by rw [e1.gn D (by rw [hv]; exact fun h => by cases h)]; exact hG
    have hv1 := e1.h D _ hD hv
    cases b with
    | false =>
      rw [if_neg (by decide)] at hl ⊢
      exact ⟨ι1, G1, w1, acc, vs, s1, eo.trans e1, hD1, hG1, hv1, dp_monos e1.g _ _ ha, hl⟩
    | true =>
      rw [if_pos rfl] at hl ⊢
      refine ⟨ι1, G1, w1, _, s1, ev2.mono e1, ?_⟩
      cases q : s ((e.set j none).set j (some (.d d))) w1 with
      | bad => rw [q] at hl; cases hl
      | ex c w2 => rw [q] at hl; cases hl
      | ok y w2 =>
        rw [q] at hl
        cases y with
        | loc l => cases hl
        | exc c => cases hl
        | d y =>
          simp only at hl
          split at hl
          · rename_i hlen
            intro v ι2 G2 H2 e2 s2 r2
            have hD2 := e2.notin hD1 hv1
            have hG2 : G2 D = none := by rw [e2.gn D (by rw [hv1]; exact fun h => by cases h)]; exact hG1
            have hv2 := e2.h D _ hD1 hv1
            refine ⟨vs, hv2, Evl.sz_lt (by rw [dps_len ha]; exact hlen), ι2, G2, w2, acc ++ [y], vs ++ [v], s2.updN hD2 hG2, ((eo.trans e1).trans e2).updN h0, hD2, hG2, upd_same, ?_, hl⟩
            exact dps_app (dp_monos e2.g _ _ (dp_monos e1.g _ _ ha)) (.cons r2 .nil)
          · cases hl
  cases t with
  | none => exact rest true w ι G H .refl ws rfl
  | some t =>
    refine ⟨ι, G, w, _, ws, ev2, ?_⟩
    have hl2 := hl
    rw [lcF] at hl2
    simp only [lcT] at hl2
    cases q : t ((e.set j none).set j (some (.d d))) w with
    | bad => rw [q] at hl2; cases hl2
    | ex c w2 => rw [q] at hl2; cases hl2
    | ok y w1 =>
      rw [q] at hl2
      cases y with
      | loc l => cases hl2
      | exc c => cases hl2
      | d z =>
        cases z with
        | bool b =>
          intro v ι1 G1 H1 e1 s1 r1
          cases r1
          exact ⟨b, rfl, rest b w1 ι1 G1 H1 e1 s1 q⟩
        | _ => cases hl2
theorem lc_done {σ : L2.St} {st : Bool} {j : Nat} {t : Option XM} {s : XM} {e : En} {ds out : List PyData} {w' : Wd} {Q : VK} (h0 : H0 D = none) (p : PostE K Wx ι0 G0 H0 σ (lcFin st out w') Q) {H : Hp} (q : LcP K ι0 G0 H0 D j t s e ds out w' ds.length H) : Q (.ref D) H := by
  obtain ⟨ι, G, w, acc, vs, ws, eo, hD, hG, hv, ha, hl⟩ := q
  rw [List.drop_length] at hl
  cases hl
  have ws2 := ws.rmv hD hG
  have eo2 := eo.rmv h0
  have hz : RK.rmv H D D = none := rmv_same
  have hu : upd (RK.rmv H D) D (.lst vs) = H := rmv_upd hv
  cases st with
  | false =>
    refine p (.ref D) ι (upd G D (.lst vs)) H ?_ ?_ ?_
    · have := eo2.trans (Evo.newD (o := .lst vs) ws2.sub hz)
      rw [hu] at this; exact this
    · have := ws2.newD (o := .lst vs) hz
      rw [hu] at this; exact this
    · exact Dp.lst (Evl.sq_of upd_same) (dp_monos (Evl.Ex.new hG) _ _ ha)
  | true =>
    refine p (.ref D) (ι ++ [D]) G H ?_ ?_ ?_
    · have := eo2.trans (Evo.newL (o := .lst vs) (ι := ι) (G := G) hz)
      rw [hu] at this; exact this
    · have h2 : OR K (ι ++ [D]) G (some (.lst vs)) (.lst (out.map .d)) := ⟨vs, rfl, rds_all ha⟩
      have := ws2.newL (o := .lst vs) hz h2
      rw [hu] at this; exact this
    · exact ⟨D, by rw [← ws.len]; simp, rfl⟩
theorem lc_tl {σ : L2.St} {st : Bool} {j : Nat} {t : Option XM} {s : XM} {e : En} {ds : List PyData} {xs : List V} {w : Wd} {Q : VK} {J : It} (ev : EnvR K α ι0 G0 σ e) (s0 : WS K ι0 G0 H0 w) (hx : DpAll K G0 xs ds) (p : PostE K Wx ι0 G0 H0 σ (lcRun st j t s e ds w) Q) (h0 : H0 D = none)
    (hJ : ∀ Pv : Nat → Hp → Prop, Pv 0 (upd H0 D (.lst [])) → (∀ i H, Pv i H → Ex G0 H) → (∀ i x H, xs[i]? = some x → Pv i H → gName j x (wipe σ [j]) H fun σ2 H2 => wipe σ2 [j] = wipe σ [j] ∧ ttL K α t σ2 H2 fun b H3 =>
        if b = true then cE K α noX s σ2 H3 fun y H4 => ∃ acc, H4 D = some (.lst acc) ∧ acc.length < sizeLine ∧ Pv (i + 1) (upd H4 D (.lst (acc ++ [y]))) else Pv (i + 1) H3) → (∀ H, Pv xs.length H → Q (.ref D) H) →
      ∃ W : Nat → Nat → Hp → Prop, (∃ m, W 0 m (upd H0 D (.lst []))) ∧ ∀ i m H, W i m H →
      (J.stop i H ∧ Q (.ref D) H) ∨ (J.go i H ∧ ∃ Nx : Hp → Prop, (∀ H', Nx H' → ∃ m', m' < m ∧ W (i + 1) m' H') ∧ ∀ x H', J.yld i H x H' → gName j x (wipe σ [j]) H' fun σ2 H2 => wipe σ2 [j] = wipe σ [j] ∧ ttL K α t σ2 H2 fun b H3 =>
        if b = true then cE K α noX s σ2 H3 fun y H4 => ∃ acc, H4 D = some (.lst acc) ∧ acc.length < sizeLine ∧ Nx (upd H4 D (.lst (acc ++ [y]))) else Nx H3)) :
    ∃ W : Nat → Nat → Hp → Prop, (∃ m, W 0 m (upd H0 D (.lst []))) ∧ ∀ i m H, W i m H →
      (J.stop i H ∧ Q (.ref D) H) ∨ (J.go i H ∧ ∃ Nx : Hp → Prop, (∀ H', Nx H' → ∃ m', m' < m ∧ W (i + 1) m' H') ∧ ∀ x H', J.yld i H x H' → gName j x (wipe σ [j]) H' fun σ2 H2 => wipe σ2 [j] = wipe σ [j] ∧ ttL K α t σ2 H2 fun b H3 =>
        if b = true then cE K α noX s σ2 H3 fun y H4 => ∃ acc, H4 D = some (.lst acc) ∧ acc.length < sizeLine ∧ Nx (upd H4 D (.lst (acc ++ [y]))) else Nx H3) := by
  unfold lcRun at p
  cases q : lcF j t s (e.set j none) ds w [] with
  | bad => rw [q] at p; exact p.elim
  | ex c w2 => rw [q] at p; exact p.elim
  | ok out w' =>
    rw [q] at p
    simp only at p
    have hD : D ∉ ι0 := fun m => s0.dom m h0
    have hG : G0 D = none := Evl.fresh_back s0.sub h0
    refine hJ (LcP K ι0 G0 H0 D j t s (e.set j none) ds out w') ⟨ι0, G0, w, [], [], s0.updN hD hG, Evo.refl.updN h0, hD, hG, upd_same, .nil, by simpa using q⟩ (fun i H ⟨ι, G, w, acc, vs, ws, eo, _⟩ => fun a u h => ws.sub a u (eo.g a u h)) (fun i x H hi hp => ?_) (fun H hp => ?_)
    · obtain ⟨d, hd, hdx⟩ := dps_ix hx hi
      exact lc_turn ev h0 hd hdx hp
    · rw [dps_len hx] at hp
      exact lc_done h0 p hp
theorem lc_readL {σ : L2.St} {H : Hp} {st : Bool} {j : Nat} {x : XM} {t : Option XM} {s : XM} {Q : VK} (h : cE K α Wx (xLc st j x t s) σ H Q) : tLc (iList K (cE K α Wx x)) (gName j) (ttL K α t) (cE K α noX s) [j] σ H Q := by
  obtain ⟨ι, G, w, env, sw, ev, p⟩ := h
  refine ⟨ι, G, w, env, sw, ev, PostE.bind p fun d1 w1 v1 ι1 G1 H1 _ e1 s1 r1 p1 => ?_⟩
  cases d1 with
  | loc l => exact p1.elim
  | exc c => exact p1.elim
  | d z =>
    cases z with
    | list ds =>
      cases r1 with
      | lst h1 h2 =>
        refine ⟨_, rfl, ⟨_, Evl.ex_l s1.sub h1⟩, fun D hD => lc_tl (ev.mono e1) s1 h2 p1 hD fun Pv g0 gE gs gd => ?_⟩
        exact lc_list (K := K) Pv g0 (fun i H _ q => Evl.ex_l (gE i H q) h1) gs gd
    | _ => exact p1.elim
theorem lc_readT {σ : L2.St} {H : Hp} {st : Bool} {j : Nat} {x : XM} {t : Option XM} {s : XM} {Q : VK} (h : cE K α Wx (xLcT st j x t s) σ H Q) : tLc (iTup K (cE K α Wx x)) (gName j) (ttL K α t) (cE K α noX s) [j] σ H Q := by
  obtain ⟨ι, G, w, env, sw, ev, p⟩ := h
  refine ⟨ι, G, w, env, sw, ev, PostE.bind p fun d1 w1 v1 ι1 G1 H1 _ e1 s1 r1 p1 => ?_⟩
  cases d1 with
  | loc l => exact p1.elim
  | exc c => exact p1.elim
  | d z =>
    cases z with
    | tuple ds =>
      cases r1 with
      | tup h1 h2 =>
        refine ⟨_, rfl, ⟨_, Evl.ex_t s1.sub h1⟩, fun D hD => lc_tl (ev.mono e1) s1 h2 p1 hD fun Pv g0 gE gs gd => ?_⟩
        exact lc_tup (K := K) Pv g0 (fun i H _ q => Evl.ex_t (gE i H q) h1) gs gd
    | _ => exact p1.elim
theorem dps_rng {lo : Int} {n : Nat} : DpAll K G ((List.range n).map fun (k : Nat) => V.int (lo + (k : Int))) (rngD lo n) := by
  unfold rngD
  generalize List.range n = l
  induction l with
  | nil => exact .nil
  | cons x l ih => exact .cons (.int _) ih
theorem lc_readR {σ : L2.St} {H : Hp} {st : Bool} {j : Nat} {x : XM} {t : Option XM} {s : XM} {Q : VK} (h : cE K α Wx (xLcR st j x t s) σ H Q) :
    tLc (iRng1 (fun σ H Q => cE K α Wx x σ H fun v H1 => Q [v] H1)) (gName j) (ttL K α t) (cE K α noX s) [j] σ H Q := by
  obtain ⟨ι, G, w, env, sw, ev, p⟩ := h
  refine ⟨ι, G, w, env, sw, ev, PostE.bind p fun d1 w1 v1 ι1 G1 H1 _ e1 s1 r1 p1 => ?_⟩
  cases d1 with
  | loc l => exact p1.elim
  | exc c => exact p1.elim
  | d z =>
    cases z with
    | int n =>
      cases r1
      simp only at p1
      split at p1
      · rename_i hr
        obtain ⟨a, b⟩ := okR_iff hr
        refine ⟨n, rfl, a, b, fun D hD => lc_tl (xs := (List.range n.toNat).map fun (k : Nat) => V.int (0 + (k : Int))) (ev.mono e1) s1 dps_rng p1 hD fun Pv g0 gE gs gd => ?_⟩
        refine lc_range Pv g0 (fun i H hi q => gs i _ H ?_ q) (fun H q => gd H ?_)
        · rw [List.getElem?_map, List.getElem?_range hi]
          rfl
        · rw [List.length_map, List.length_range]
          exact q
      · exact p1.elim
    | _ => exact p1.elim
section
variable {X : Cx} {elt iter : Expr} {ifs : List Expr} {scope : Scope} {y : Str} {py pos spos : Pos} {j : Nat} {st : Bool} {xa s : XM} {t : Option XM}
theorem x_lc (hc : X.calm = true) (hN : X.N.Nodup) (hx : PE X iter (cE X.K α Wx xa)) (ok : BlkOk X.N X.env.scope scope [(y, j)])
    (hg : ∀ (s : Shared) (H : Hp) (C : Addr) (cl : List (Str × Addr)) (fp : List Addr), PG (X.blk s H scope (compEnvC scope cl C X.env) fp) (.Name y py) (gName j)) (ht : ∀ (s : Shared) (H : Hp) (C : Addr) (cl : List (Str × Addr)) (fp : List Addr), PTs (X.blk s H scope (compEnvC scope cl C X.env) fp) ifs (ttL X.K α t))
    (he : ∀ (s_ : Shared) (H : Hp) (C : Addr) (cl : List (Str × Addr)) (fp : List Addr), PE (X.blk s_ H scope (compEnvC scope cl C X.env) fp) elt (cE X.K α noX s)) (hs : ∀ x, foldedSetIterable iter X.env x = pure x := by intro _; rfl) :
    PE X (.ListComp elt [⟨.Name y py, iter, ifs, 0⟩] scope pos) (cE X.K α Wx (xLc st j xa t s)) := pe_imp (pe_lc hc hN (pi_list hx) ok hg ht he hs) fun _ _ _ h => lc_readL h
theorem x_lcT (hc : X.calm = true) (hN : X.N.Nodup) (hx : PE X iter (cE X.K α Wx xa)) (ok : BlkOk X.N X.env.scope scope [(y, j)])
    (hg : ∀ (s : Shared) (H : Hp) (C : Addr) (cl : List (Str × Addr)) (fp : List Addr), PG (X.blk s H scope (compEnvC scope cl C X.env) fp) (.Name y py) (gName j)) (ht : ∀ (s : Shared) (H : Hp) (C : Addr) (cl : List (Str × Addr)) (fp : List Addr), PTs (X.blk s H scope (compEnvC scope cl C X.env) fp) ifs (ttL X.K α t))
    (he : ∀ (s_ : Shared) (H : Hp) (C : Addr) (cl : List (Str × Addr)) (fp : List Addr), PE (X.blk s_ H scope (compEnvC scope cl C X.env) fp) elt (cE X.K α noX s)) (hs : ∀ x, foldedSetIterable iter X.env x = pure x := by intro _; rfl) :
    PE X (.ListComp elt [⟨.Name y py, iter, ifs, 0⟩] scope pos) (cE X.K α Wx (xLcT st j xa t s)) := pe_imp (pe_lc hc hN (pi_tup hx) ok hg ht he hs) fun _ _ _ h => lc_readT h
theorem x_lcR {a : Expr} {np cpos : Pos} (hc : X.calm = true) (hN : X.N.Nodup) (hgl : Gl X "range") (hm : X.mg "range" = none) (hx : PE X a (cE X.K α Wx xa)) (ok : BlkOk X.N X.env.scope scope [(y, j)])
    (hg : ∀ (s : Shared) (H : Hp) (C : Addr) (cl : List (Str × Addr)) (fp : List Addr), PG (X.blk s H scope (compEnvC scope cl C X.env) fp) (.Name y py) (gName j)) (ht : ∀ (s : Shared) (H : Hp) (C : Addr) (cl : List (Str × Addr)) (fp : List Addr), PTs (X.blk s H scope (compEnvC scope cl C X.env) fp) ifs (ttL X.K α t))
    (he : ∀ (s_ : Shared) (H : Hp) (C : Addr) (cl : List (Str × Addr)) (fp : List Addr), PE (X.blk s_ H scope (compEnvC scope cl C X.env) fp) elt (cE X.K α noX s)) (hs1 : starEach [a] X.env = (false, eval a X.env) :: starEach [] X.env := by rfl) (hs : ∀ x, foldedSetIterable (.Call (.Name "range" np) [a] [] cpos) X.env x = pure x := by intro _; rfl) :
    PE X (.ListComp elt [⟨.Name y py, .Call (.Name "range" np) [a] [] cpos, ifs, 0⟩] scope pos) (cE X.K α Wx (xLcR st j xa t s)) := pe_imp (pe_lc hc hN (pi_range1 hgl hm (pa_cons hx pa_nil hs1) hs1) ok hg ht he hs) fun _ _ _ h => lc_readR h
variable {i : Nat} {z : Str} {pz : Pos}
theorem set_lc {wi : TI} {tt : TT} {te : TE} {x : XM} (h : PS X (.Assign [.Name z pz] (.ListComp elt [⟨.Name y py, iter, ifs, 0⟩] scope pos) spos) (tAsg (tLc wi (gName j) tt te [j]) (gName i))) (r : ∀ σ H Q, cE X.K α Wx x σ H Q → tLc wi (gName j) tt te [j] σ H Q) :
    PS X (.Assign [.Name z pz] (.ListComp elt [⟨.Name y py, iter, ifs, 0⟩] scope pos) spos) (cS X.K α Wx (sSet i x)) :=
  ps_imp h fun D σ H ⟨ι, G, w, env, sw, ev, p⟩ => r _ _ _ ⟨ι, G, w, env, sw, ev, PostS.st p ev fun d1 w1 v1 ι1 G1 H1 _ e1 s1 r1 p1 => p1 _ ι1 G1 H1 .refl s1 ((ev.mono e1).set (SlotR.of r1) i)⟩
theorem s_lc (hz : X.N[i]? = some z) (hzl : X.env.scope.names.lookup z = some .local) (hsw : swapsWith (.ListComp elt [⟨.Name y py, iter, ifs, 0⟩] scope pos) (some (.Name z pz)) spos.line X.env = pure true) (hc : X.calm = true) (hN : X.N.Nodup) (hx : PE X iter (cE X.K α Wx xa)) (ok : BlkOk X.N X.env.scope scope [(y, j)])
    (hg : ∀ (s : Shared) (H : Hp) (C : Addr) (cl : List (Str × Addr)) (fp : List Addr), PG (X.blk s H scope (compEnvC scope cl C X.env) fp) (.Name y py) (gName j)) (ht : ∀ (s : Shared) (H : Hp) (C : Addr) (cl : List (Str × Addr)) (fp : List Addr), PTs (X.blk s H scope (compEnvC scope cl C X.env) fp) ifs (ttL X.K α t))
    (he : ∀ (s_ : Shared) (H : Hp) (C : Addr) (cl : List (Str × Addr)) (fp : List Addr), PE (X.blk s_ H scope (compEnvC scope cl C X.env) fp) elt (cE X.K α noX s)) (hs : ∀ x, foldedSetIterable iter X.env x = pure x := by intro _; rfl) :
    PS X (.Assign [.Name z pz] (.ListComp elt [⟨.Name y py, iter, ifs, 0⟩] scope pos) spos) (cS X.K α Wx (sSet i (xLc st j xa t s))) := set_lc (ps_setLc hc hN hz hzl hsw (pi_list hx) ok hg ht he hs) fun _ _ _ h => lc_readL h
theorem s_lcR {a : Expr} {np cpos : Pos} (hz : X.N[i]? = some z) (hzl : X.env.scope.names.lookup z = some .local) (hsw : swapsWith (.ListComp elt [⟨.Name y py, .Call (.Name "range" np) [a] [] cpos, ifs, 0⟩] scope pos) (some (.Name z pz)) spos.line X.env = pure true) (hc : X.calm = true) (hN : X.N.Nodup) (hgl : Gl X "range") (hm : X.mg "range" = none) (hx : PE X a (cE X.K α Wx xa)) (ok : BlkOk X.N X.env.scope scope [(y, j)])
    (hg : ∀ (s : Shared) (H : Hp) (C : Addr) (cl : List (Str × Addr)) (fp : List Addr), PG (X.blk s H scope (compEnvC scope cl C X.env) fp) (.Name y py) (gName j)) (ht : ∀ (s : Shared) (H : Hp) (C : Addr) (cl : List (Str × Addr)) (fp : List Addr), PTs (X.blk s H scope (compEnvC scope cl C X.env) fp) ifs (ttL X.K α t))
    (he : ∀ (s_ : Shared) (H : Hp) (C : Addr) (cl : List (Str × Addr)) (fp : List Addr), PE (X.blk s_ H scope (compEnvC scope cl C X.env) fp) elt (cE X.K α noX s)) (hs1 : starEach [a] X.env = (false, eval a X.env) :: starEach [] X.env := by rfl) (hs : ∀ x, foldedSetIterable (.Call (.Name "range" np) [a] [] cpos) X.env x = pure x := by intro _; rfl) :
    PS X (.Assign [.Name z pz] (.ListComp elt [⟨.Name y py, .Call (.Name "range" np) [a] [] cpos, ifs, 0⟩] scope pos) spos) (cS X.K α Wx (sSet i (xLcR st j xa t s))) := set_lc (ps_setLc hc hN hz hzl hsw (pi_range1 hgl hm (pa_cons hx pa_nil hs1) hs1) ok hg ht he hs) fun _ _ _ h => lc_readR h
end
/-- all of them whole numbers -/
def intsOf : List PyData → Option (List Int)
  | [] => some []
  | .int i :: ds => (intsOf ds).map (i :: ·)
  | _ => none
theorem intsOf_map (ns : List Int) : intsOf (ns.map .int) = some ns := by
  induction ns with
  | nil => rfl
  | cons n ns ih => rw [List.map_cons, intsOf, ih]; rfl
theorem ints_vs {G : Hp} : ∀ {vs : List V} {ds : List PyData} {ns : List Int}, DpAll K G vs ds → intsOf ds = some ns → vs = ns.map V.int
  | _, [], ns, h, e => by
    cases h
    cases e
    rfl
  | _, d :: ds, ns, h, e => by
    cases h with
    | cons h1 h2 =>
      cases d with
      | int i =>
        rw [intsOf] at e
        cases q : intsOf ds with
        | none => rw [q] at e; cases e
        | some ms =>
          rw [q] at e
          cases e
          cases h1
          rw [List.map_cons, ints_vs h2 q]
      | _ => cases e
def oSumL : List DV → Wd → Rs DV
  | [x], w => match itemsD w x with
    | some ds => match intsOf ds with
      | some ns => .ok (.d (.int ns.sum)) w
      | none => .bad
    | none => .bad
  | _, _ => .bad
def sortI (ns : List Int) : List Int := ns.mergeSort fun a b => decide (a ≤ b)
def oSortedL : List DV → Wd → Rs DV
  | [x], w => match itemsD w x with
    | some ds => match intsOf ds with
      | some ns => .ok (.d (.list ((sortI ns).map .int))) w
      | none => .bad
    | none => .bad
  | _, _ => .bad
theorem sortI_uniq {ns ms : List Int} (h : ms.Perm ns) (r : ms.Pairwise (· ≤ ·)) : ms = sortI ns := by
  refine List.Perm.eq_of_pairwise (le := (· ≤ ·)) (fun a b _ _ h1 h2 => Int.le_antisymm h1 h2) r ?_ (h.trans (List.mergeSort_perm _ _).symm)
  have := List.pairwise_mergeSort (le := fun (a b : Int) => decide (a ≤ b)) (fun a b c h1 h2 => by simp only [decide_eq_true_eq] at *; omega) (fun a b => by simp only [Bool.or_eq_true, decide_eq_true_eq]; omega) ns
  exact this.imp fun h => of_decide_eq_true h
theorem k_sumL : CallOk K Wx oSumL (rSum K) := by
  intro ι G H w σ vs ds Q s r p
  unfold oSumL at p
  split at p
  · split at p
    · rename_i x ds h
      split at p
      · rename_i ns hn
        obtain ⟨v, rfl, hv⟩ := one_v r
        obtain ⟨a, us, rfl, f1, f2⟩ := items_dp s hv h
        have e := ints_vs f2 hn
        subst e
        exact ⟨a, ns, rfl, f1, p _ ι G H .refl s (.int _)⟩
      · exact p.elim
    · exact p.elim
  · exact p.elim
theorem ints_dps {G : Hp} (ns : List Int) : DpAll K G (ns.map V.int) (ns.map .int) := by
  induction ns with
  | nil => exact .nil
  | cons n ns ih => exact .cons (.int _) ih
theorem k_sortedL : CallOk K Wx oSortedL (rSortedI K) := by
  intro ι G H w σ vs ds Q s r p
  unfold oSortedL at p
  split at p
  · split at p
    · rename_i x ds h
      split at p
      · rename_i ns hn
        obtain ⟨v, rfl, hv⟩ := one_v r
        obtain ⟨a, us, rfl, f1, f2⟩ := items_dp s hv h
        have e := ints_vs f2 hn
        subst e
        refine ⟨a, ns, rfl, f1, fun ms q hp hr hq => ?_⟩
        rw [sortI_uniq hp hr]
        exact p _ ι _ _ (Evo.newD s.sub hq) (s.newD hq) (.lst (Evl.sq_of upd_same) (ints_dps _))
      · exact p.elim
    · exact p.elim
  · exact p.elim
end
end RK

set_option Elab.async false
set_option linter.all false
set_option maxRecDepth 100000
set_option maxHeartbeats 4000000
/-! RKit, part H: instances of own classes. -/
namespace RK
open PySem PySem.Spec PyProof.Rows L2
def insAt (w : Wd) : DV → Option (Nat × Str × List (Str × DV))
  | .loc l => match w[l]? with
    | some (.ins c fs) => some (l, c, fs)
    | _ => none
  | _ => none
def putD (f : Str) (v : DV) : List (Str × DV) → List (Str × DV)
  | [] => [(f, v)]
  | (g, x) :: r => if g = f then (g, v) :: r else (g, x) :: putD f v r
/-- o.f -/
def xFld (c f : Str) (x : XM) : XM := fun e w => (x e w).bind fun d w1 => match insAt w1 d with
  | some (_, c', fs) => if c' = c then (match fs.lookup f with
    | some v => .ok v w1
    | none => .bad) else .bad
  | none => .bad
/-- o.f = v -/
def sFld (c f : Str) (xo xv : XM) : SM := fun e w => (xv e w).st e fun y w1 => (xo e w1).st e fun d w2 => match insAt w2 d with
  | some (l, c', fs) => if c' = c ∧ fs.length < 1000 then .ok (.nx e) (w2.set l (.ins c (putD f y fs))) else .bad
  | none => .bad
/-- o.m(..) -/
def xMeth (c m : Str) (f : FW) (xo : XM) (xs : AM) : XM := fun e w => (xo e w).bind fun d w1 => match insAt w1 d with
  | some (_, c', fs) => if c' = c ∧ fs.lookup m = none then (xs e w1).bind fun ds w2 => f (d :: ds) w2 else .bad
  | none => .bad
/-- C(..) -/
def xMake (c : Str) (f : FW) (xs : AM) : XM := fun e w => (xs e w).bind fun ds w1 => match f (.loc w1.length :: ds) (w1 ++ [.ins c []]) with
  | .ok (.d .none) w2 => .ok (.loc w1.length) w2
  | .ex c' w2 => .ex c' w2
  | _ => .bad
abbrev xMeth0 (c m : Str) (f : FW) (xo : XM) : XM := xMeth c m f xo xNil
abbrev xMake0 (c : Str) (f : FW) : XM := xMake c f xNil
section
variable {K : PySem.W.Frag} {Wx : WX} {α : Addr × Str}
theorem ins_of {ι : List Addr} {G H : Hp} {w : Wd} {v : V} {d : DV} {l : Nat} {c : Str} {fs : List (Str × DV)} (s : WS K ι G H w) (r : RD K ι G v d) (h : insAt w d = some (l, c, fs)) :
    ∃ a dx gs, v = .ref a ∧ d = .loc l ∧ ι[l]? = some a ∧ H a = some (.ins (He.ga K c) dx gs) ∧ RKv K ι G gs fs := by
  cases d with
  | d z => cases h
  | exc z => cases h
  | loc l' =>
    obtain ⟨a, h1, rfl⟩ := r
    unfold insAt at h
    cases q : w[l']? with
    | none => simp only [q] at h; cases h
    | some o =>
      simp only [q] at h
      cases o with
      | ins c' fs' =>
        cases h
        obtain ⟨dx, gs, h2, h3⟩ := s.ob _ a _ h1 q
        exact ⟨a, dx, gs, rfl, rfl, h1, h2, h3⟩
      | _ => cases h
theorem rkv_lookup {ι : List Addr} {G : Hp} {f : Str} {d : DV} : ∀ {gs : List (Str × V)} {fs : List (Str × DV)}, RKv K ι G gs fs → fs.lookup f = some d → ∃ v, gs.lookup f = some v ∧ RD K ι G v d
  | [], _, r, h => by cases r; cases h
  | (g, x) :: gs, fs, r, h => by
    cases r with
    | cons r1 r2 =>
      rename_i q qs
      obtain ⟨g', y⟩ := q
      obtain ⟨e, ry⟩ := r1
      simp only at e ry
      subst e
      rw [List.lookup_cons] at h ⊢
      by_cases b : (f == g) = true
      · rw [b] at h ⊢
        simp only [Option.some.injEq] at h ⊢
        subst h
        exact ⟨x, rfl, ry⟩
      · rw [show (f == g) = false from by simpa using b] at h ⊢
        exact rkv_lookup r2 h
theorem rkv_none {ι : List Addr} {G : Hp} {f : Str} : ∀ {gs : List (Str × V)} {fs : List (Str × DV)}, RKv K ι G gs fs → fs.lookup f = none → gs.lookup f = none
  | [], _, r, h => rfl
  | (g, x) :: gs, fs, r, h => by
    cases r with
    | cons r1 r2 =>
      rename_i q qs
      obtain ⟨g', y⟩ := q
      obtain ⟨e, ry⟩ := r1
      simp only at e ry
      subst e
      rw [List.lookup_cons] at h ⊢
      by_cases b : (f == g) = true
      · rw [b] at h; cases h
      · rw [show (f == g) = false from by simpa using b] at h ⊢
        exact rkv_none r2 h
theorem rkv_len {ι : List Addr} {G : Hp} {gs : List (Str × V)} {fs : List (Str × DV)} (r : RKv K ι G gs fs) : gs.length = fs.length := Paired.length r
theorem rkv_put {ι : List Addr} {G : Hp} {f : Str} {v : V} {d : DV} (rv : RD K ι G v d) : ∀ {gs : List (Str × V)} {fs : List (Str × DV)}, RKv K ι G gs fs → RKv K ι G (putF f v gs) (putD f d fs)
  | [], _, r => by cases r; exact .cons ⟨rfl, rv⟩ .nil
  | (g, x) :: gs, fs, r => by
    cases r with
    | cons r1 r2 =>
      rename_i q qs
      obtain ⟨g', y⟩ := q
      obtain ⟨e, ry⟩ := r1
      simp only at e ry
      subst e
      unfold putF putD
      by_cases b : g = f
      · rw [if_pos b, if_pos b]
        exact .cons ⟨rfl, rv⟩ r2
      · rw [if_neg b, if_neg b]
        exact .cons ⟨rfl, ry⟩ (rkv_put rv r2)
variable {X : Cx} {o e value : Expr} {es : List Expr} {f m c : Str} {pos pos' apos : Pos} {xo xv : XM} {xs : AM} {n k : Nat} {fw : FW}
theorem x_fld (hb : attributeBase o f X.env (eval o X.env) = eval o X.env) (hc : Cls X.K (He.ga X.K c)) (hn : NoAttr X.K (He.ga X.K c) f) (he : PE X o (cE X.K α Wx xo)) : PE X (.Attribute o f pos) (cE X.K α Wx (xFld c f xo)) :=
  pe_imp (pe_fld he hb) fun σ H Q ⟨ι, G, w, env, s, ev, p⟩ => ⟨ι, G, w, env, s, ev, PostE.bind p fun d1 w1 v1 ι1 G1 H1 _ e1 s1 r1 p1 => by
    cases q : insAt w1 d1 with
    | none => simp only [q] at p1; exact p1.elim
    | some t =>
      obtain ⟨l, c', fs⟩ := t
      simp only [q] at p1
      obtain ⟨a, dx, gs, rfl, rfl, h1, h2, h3⟩ := ins_of s1 r1 q
      split at p1
      · rename_i ec
        subst ec
        cases q2 : fs.lookup f with
        | none => simp only [q2] at p1; exact p1.elim
        | some d =>
          simp only [q2] at p1
          obtain ⟨v, h4, h5⟩ := rkv_lookup h3 q2
          exact ⟨a, _, dx, gs, v, rfl, h2, hc, hn, h4, p1 v ι1 G1 H1 .refl s1 h5⟩
      · exact p1.elim⟩
theorem s_fld (hc : Cls X.K (He.ga X.K c)) (hn : NoAttr X.K (He.ga X.K c) f) (ho : PE X o (cE X.K α Wx xo)) (hv : PE X value (cE X.K α Wx xv)) (hs : swapsWith value (some (.Attribute o f pos')) pos.line X.env = pure false := by rfl) :
    PS X (.Assign [.Attribute o f pos'] value pos) (cS X.K α Wx (sFld c f xo xv)) :=
  ps_imp (ps_fld ho hv hs) fun D σ H ⟨ι, G, w, env, sw, ev, p⟩ => ⟨ι, G, w, env, sw, ev, PostS.st p ev fun y w1 vy ι1 G1 H1 _ e1 s1 ry p1 => ⟨ι1, G1, w1, env, s1, ev.mono e1, PostS.st p1 (ev.mono e1) fun d2 w2 v2 ι2 G2 H2 _ e2 s2 r2 p2 => by
    cases q : insAt w2 d2 with
    | none => simp only [q] at p2; exact p2.elim
    | some t =>
      obtain ⟨l, c', fs⟩ := t
      simp only [q] at p2
      obtain ⟨a, dx, gs, rfl, rfl, h1, h2, h3⟩ := ins_of s2 r2 q
      split at p2
      · rename_i ec
        obtain ⟨ec, hl⟩ := ec
        subst ec
        refine ⟨a, _, dx, gs, rfl, h2, hc, hn, by rw [rkv_len h3]; exact hl, ?_⟩
        exact p2 _ ι2 G2 _ (Evo.write h1) (s2.write h1 ⟨dx, _, rfl, rkv_put (ry.mono e2) h3⟩) ((ev.mono e1).mono e2)
      · exact p2.elim⟩⟩
/-! methods, made instances: with what a raise may leave by the caller's slots -/
def tMethS (C : Addr) (m : Str) (sp : Sp) (E : L2.St → XK) (ta : TE) (t : TA) : TE := fun σ H Q => ta σ H fun x H1 => ∃ a dx fs, x = .ref a ∧ H1 a = some (.ins C dx fs) ∧ fs.lookup m = none ∧ t σ H1 fun vs H2 => sp (x :: vs) H2 Q (E σ)
def tMakeS (C : Addr) (sp : Sp) (E : L2.St → XK) (t : TA) : TE := fun σ H Q => t σ H fun vs H1 => ∀ x dx, H1 x = none → H1 dx = none → dx ≠ x → sp (.ref x :: vs) (upd (upd H1 dx (.own x)) x (.ins C dx [])) (fun v H2 => v = .non ∧ Q (.ref x) H2) (E σ)
section
variable {CX : CXT} {C g : Addr} {fd : FuncData} {ps : List Str} {sp : Sp} {E : L2.St → XK} {ta : TE} {t : TA} {x : Str} {p : Pos}
theorem pe_methS {pl : Sem Bool} (he : PE X o ta) (hc : Cls X.K C) (hm : Meth X.K C m g) (F : FnOk X.prog X.w X.K X.mg X.base CX k g fd ps sp) (hr : Room k X.A) (hb : Binds X.K fd ps []) (hx : ∀ σ, PassesAt CX X σ (E σ)) (ha : PA X (e :: es) t)
    (hst : starEach (e :: es) X.env = (false, eval e X.env) :: starEach es X.env := by rfl) (hpl : (backTo pos (starEach es X.env)).any (·.1) = false := by rfl)
    (ht : eval (.Call (.Attribute o m apos) (e :: es) [] pos) X.env = (do
      let ov ← eval o X.env
      standAt apos.atName
      let (f, first) ← holding [ov] (getMethod ov m pl)
      callWith pos f first (backTo pos (starEach (e :: es) X.env)) (backToKw pos (keywordEach [] X.env))) := by rfl) :
    PE X (.Call (.Attribute o m apos) (e :: es) [] pos) (tMethS C m sp E ta t) := by
  refine ⟨fun pins s σ H Q I h => ?_⟩
  refine PySem.W.methodCall_KW (pl := pl) (thn (he.run pins s σ H _ I h) fun u s1 ⟨x, H1, I1, rx, a, dx, fs, ex, ea, l, q⟩ => ?_) ht
  subst ex
  obtain rfl : u = Value.ref a := rx
  refine getmeth_ok I1 ea hc hm l ?_
  refine PySem.W.callWith_K (first := [.ref a]) (h₀ := X.base) I.ok.mod.kin hm.kp (thn (ha.run pos pins s1 σ H1 _ I1 q) fun us s2 ⟨vs, H2, I2, r, q2⟩ => ⟨I2.kIn, ?_⟩) hst hpl
  exact run_fnS (us := .ref a :: us) (vs := .ref a :: vs) F hr hb (hx σ) I2 (.cons rfl r) q2
theorem pe_methS0 {pl : Sem Bool} (he : PE X o ta) (hc : Cls X.K C) (hm : Meth X.K C m g) (F : FnOk X.prog X.w X.K X.mg X.base CX k g fd ps sp) (hr : Room k X.A) (hb : Binds X.K fd ps []) (hx : ∀ σ, PassesAt CX X σ (E σ))
    (ht : eval (.Call (.Attribute o m apos) [] [] pos) X.env = (do
      let ov ← eval o X.env
      standAt apos.atName
      let (f, first) ← holding [ov] (getMethod ov m pl)
      callWith pos f first (backTo pos (starEach [] X.env)) (backToKw pos (keywordEach [] X.env))) := by rfl) :
    PE X (.Call (.Attribute o m apos) [] [] pos) (tMethS C m sp E ta tNil) := by
  refine ⟨fun pins s σ H Q I h => ?_⟩
  refine PySem.W.methodCall_KW (pl := pl) (thn (he.run pins s σ H _ I h) fun u s1 ⟨x, H1, I1, rx, a, dx, fs, ex, ea, l, q⟩ => ?_) ht
  subst ex
  obtain rfl : u = Value.ref a := rx
  refine getmeth_ok I1 ea hc hm l ?_
  exact PySem.W.callWith_K0 (first := [.ref a]) I1.kIn hm.kp (run_fnS (us := [.ref a]) (vs := [.ref a]) F hr hb (hx σ) I1 (.cons rfl .nil) q)
theorem run_makeS {pins : List (Addr × Obj)} {σ : L2.St} {H : Hp} {s : Shared} {Q : VK} {us : List Value} {vs : List V} {E : XK} (M : Mk X.K C g) (F : FnOk X.prog X.w X.K X.mg X.base CX k g fd ps sp) (hr : Room (k + 1) X.A) (hb : Binds X.K fd ps [])
    (hx : PassesAt CX X σ E) (I : Inv X pins σ H s) (r : Vals vs us)
    (h : ∀ x dx, H x = none → H dx = none → dx ≠ x → sp (.ref x :: vs) (upd (upd H dx (.own x)) x (.ins C dx [])) (fun v H2 => v = .non ∧ Q (.ref x) H2) E) :
    wpAny (model X.prog X.w) X.A (call (.ref C) us) (EP X pins σ Q) X.xe s := by
  have hq := h (s.heap.objs.size + 1) s.heap.objs.size (I.hok.fresh (Nat.le_succ _)) (I.hok.fresh (Nat.le_refl _)) (Nat.ne_of_lt (Nat.lt_succ_self _))
  have I2 := Inv.made (C := C) I
  have r2 : Vals (V.ref (s.heap.objs.size + 1) :: vs) (Value.ref (s.heap.objs.size + 1) :: us) := .cons rfl r
  have hl : (Value.ref (s.heap.objs.size + 1) :: us ++ []).length = ps.length := by
    rw [List.append_nil, ← r2.length]
    exact F.len _ _ _ _ hq
  have b := hb _ (Value.ref (s.heap.objs.size + 1) :: us) I2.kIn hl
  rw [List.append_nil] at b
  refine wpAny_call (make_map (f := g) I.kIn M.makes M.init (beq_iff_eq.mp M.fn) (codeAny_mono (F.run _ X.stack _ _ ⟨Value.ref (s.heap.objs.size + 1) :: us, []⟩ (Value.ref (s.heap.objs.size + 1) :: us) _ _ E (hr.make C us [])
    (I2.env0.make C us []) b r2 hq) fun r s' hq' => ?_))
  cases r with
  | error e => exact hx pins _ _ e s' I2 hq'
  | ok fl =>
    cases fl with
    | ret u =>
      obtain ⟨v, H', I3, rv, ev, q3⟩ := I2.after hq'
      subst ev
      exact ⟨rv, ⟨V.ref (s.heap.objs.size + 1), H', I3, rfl, q3⟩⟩
    | next => exact False.elim hq'
    | brk => exact False.elim hq'
    | cont => exact False.elim hq'
theorem pe_makeS (M : Mk X.K C g) (F : FnOk X.prog X.w X.K X.mg X.base CX k g fd ps sp) (hr : Room (k + 1) X.A) (hg : Gl X x) (hm : X.mg x = some (.ref C)) (hb : Binds X.K fd ps []) (hx : ∀ σ, PassesAt CX X σ (E σ))
    (ha : PA X (e :: es) t) (hdb : (x == ("__debug__" : Str)) = false := by decide) (he : starEach (e :: es) X.env = (false, eval e X.env) :: starEach es X.env := by rfl) (hpl : (backTo pos (starEach es X.env)).any (·.1) = false := by rfl) :
    PE X (.Call (.Name x p) (e :: es) [] pos) (tMakeS C sp E t) := by
  refine ⟨fun pins s σ H Q I h => ?_⟩
  refine wpAny_Call_Name_kw (ld_glob I hg hm ?_ hdb)
  refine PySem.W.callWith_K (h₀ := X.base) I.ok.mod.kin M.kp (thn (ha.run pos pins s σ H _ I h) fun us s1 ⟨vs, H1, I1, r, q⟩ => ⟨I1.kIn, ?_⟩) he hpl
  exact run_makeS M F hr hb (hx σ) I1 r q
theorem pe_makeS0 (M : Mk X.K C g) (F : FnOk X.prog X.w X.K X.mg X.base CX k g fd ps sp) (hr : Room (k + 1) X.A) (hg : Gl X x) (hm : X.mg x = some (.ref C)) (hb : Binds X.K fd ps []) (hx : ∀ σ, PassesAt CX X σ (E σ))
    (hdb : (x == ("__debug__" : Str)) = false := by decide) : PE X (.Call (.Name x p) [] [] pos) (tMakeS C sp E tNil) := by
  refine ⟨fun pins s σ H Q I h => ?_⟩
  refine wpAny_Call_Name_kw (ld_glob I hg hm ?_ hdb)
  exact PySem.W.callWith_K0 I.kIn M.kp (run_makeS (us := []) M F hr hb (hx σ) I .nil h)
end
/-- a new instance laid at x, its dict at dx -/
theorem made_ws {ι : List Addr} {G H : Hp} {w : Wd} {x dx : Addr} {c : Str} (s : WS K ι G H w) (h1 : H x = none) (h2 : H dx = none) (h3 : dx ≠ x) :
    Evo ι G H (ι ++ [x]) G (upd (upd H dx (.own x)) x (.ins (He.ga K c) dx [])) ∧ WS K (ι ++ [x]) G (upd (upd H dx (.own x)) x (.ins (He.ga K c) dx [])) (w ++ [.ins c []]) := by
  have hD : dx ∉ ι := fun m => s.dom m h2
  have hG : G dx = none := Evl.fresh_back s.sub h2
  have s2 : WS K ι G (upd H dx (.own x)) w := s.updN hD hG
  have e2 : Evo ι G H ι G (upd H dx (.own x)) := Evo.refl.updN h2
  have h4 : upd H dx (.own x) x = none := by rw [upd_ne (fun e => h3 e.symm)]; exact h1
  have e3 : Evo ι G (upd H dx (.own x)) (ι ++ [x]) G (upd (upd H dx (.own x)) x (.ins (He.ga K c) dx [])) := Evo.newL h4
  refine ⟨⟨⟨[x], rfl, fun a m => by rw [List.mem_singleton] at m; rw [m]; exact h1⟩, Evl.Ex.refl _, fun _ _ => rfl, fun a o hn q => ?_, fun a q => e3.dom a (e2.dom a q)⟩, s2.newL h4 ⟨dx, [], rfl, .nil⟩⟩
  exact e3.h a o hn (e2.h a o hn q)
theorem x_meth (hc : Cls X.K (He.ga X.K c)) (F : Md X.prog X.w X.K X.mg X.base c m k (spW X.K (n + 1) fw)) (hr : Room k X.A) (tk : Takes X Wx) (he : PE X o (cE X.K α Wx xo)) (ha : PA X (e :: es) (cA X.K α Wx xs)) (ar : ArN n xs) {pl : Sem Bool}
    (hst : starEach (e :: es) X.env = (false, eval e X.env) :: starEach es X.env := by rfl) (hpl : (backTo pos (starEach es X.env)).any (·.1) = false := by rfl)
    (ht : eval (.Call (.Attribute o m apos) (e :: es) [] pos) X.env = (do
      let ov ← eval o X.env
      standAt apos.atName
      let (f, first) ← holding [ov] (getMethod ov m pl)
      callWith pos f first (backTo pos (starEach (e :: es) X.env)) (backToKw pos (keywordEach [] X.env))) := by rfl) :
    PE X (.Call (.Attribute o m apos) (e :: es) [] pos) (cE X.K α Wx (xMeth c m fw xo xs)) := by
  obtain ⟨hm, fd, ps, ok, bd⟩ := F
  refine pe_imp (pe_methS (pl := pl) (E := WE Wx) he hc hm ok hr bd (fun σ => passAt tk σ) ha hst hpl ht) fun σ H Q ⟨ι, G, w, env, s, ev, p⟩ => ⟨ι, G, w, env, s, ev, PostE.bind p fun d1 w1 v1 ι1 G1 H1 _ e1 s1 r1 p1 => ?_⟩
  cases q : insAt w1 d1 with
  | none => simp only [q] at p1; exact p1.elim
  | some t =>
    obtain ⟨l, c', fs⟩ := t
    simp only [q] at p1
    obtain ⟨a, dx, gs, rfl, rfl, h1, h2, h3⟩ := ins_of s1 r1 q
    split at p1
    · rename_i ec
      obtain ⟨ec, hl⟩ := ec
      subst ec
      refine ⟨a, dx, gs, rfl, h2, rkv_none h3 hl, ι1, G1, w1, env, s1, ev.mono e1, PostA.bind p1 fun ds w2 vs ι2 G2 H2 q2 e2 s2 r2 p2 => ?_⟩
      exact ⟨by rw [List.length_cons, rds_len r2, ar _ _ _ _ q2], ι2, G2, w2, _, s2, .cons (r1.mono e2) r2, post_nil p2⟩
    · exact p1.elim
theorem x_meth0 (hc : Cls X.K (He.ga X.K c)) (F : Md X.prog X.w X.K X.mg X.base c m k (spW X.K 1 fw)) (hr : Room k X.A) (tk : Takes X Wx) (he : PE X o (cE X.K α Wx xo)) {pl : Sem Bool}
    (ht : eval (.Call (.Attribute o m apos) [] [] pos) X.env = (do
      let ov ← eval o X.env
      standAt apos.atName
      let (f, first) ← holding [ov] (getMethod ov m pl)
      callWith pos f first (backTo pos (starEach [] X.env)) (backToKw pos (keywordEach [] X.env))) := by rfl) :
    PE X (.Call (.Attribute o m apos) [] [] pos) (cE X.K α Wx (xMeth0 c m fw xo)) := by
  obtain ⟨hm, fd, ps, ok, bd⟩ := F
  refine pe_imp (pe_methS0 (pl := pl) (E := WE Wx) he hc hm ok hr bd (fun σ => passAt tk σ) ht) fun σ H Q ⟨ι, G, w, env, s, ev, p⟩ => ⟨ι, G, w, env, s, ev, PostE.bind p fun d1 w1 v1 ι1 G1 H1 _ e1 s1 r1 p1 => ?_⟩
  cases q : insAt w1 d1 with
  | none => simp only [q] at p1; exact p1.elim
  | some t =>
    obtain ⟨l, c', fs⟩ := t
    simp only [q] at p1
    obtain ⟨a, dx, gs, rfl, rfl, h1, h2, h3⟩ := ins_of s1 r1 q
    split at p1
    · rename_i ec
      obtain ⟨ec, hl⟩ := ec
      subst ec
      exact ⟨a, dx, gs, rfl, h2, rkv_none h3 hl, rfl, ι1, G1, w1, _, s1, .cons r1 .nil, post_nil p1⟩
    · exact p1.elim
theorem make_post {ι : List Addr} {G H : Hp} {w : Wd} {σ : L2.St} {Q : VK} {vs : List V} {ds : List DV} {x dx : Addr} (hn : vs.length = n) (s : WS K ι G H w) (r : RDs K ι G vs ds) (h1 : H x = none) (h2 : H dx = none) (h3 : dx ≠ x)
    (p : PostE K Wx ι G H σ (match fw (.loc w.length :: ds) (w ++ [.ins c []]) with
      | .ok (.d .none) w2 => .ok (.loc w.length) w2
      | .ex c' w2 => .ex c' w2
      | _ => .bad) Q) : spW K (n + 1) fw (.ref x :: vs) (upd (upd H dx (.own x)) x (.ins (He.ga K c) dx [])) (fun v H2 => v = .non ∧ Q (.ref x) H2) (WE Wx σ) := by
  obtain ⟨E, S⟩ := made_ws (c := c) s h1 h2 h3
  have hx : (ι ++ [x])[w.length]? = some x := by rw [← s.len]; simp
  refine ⟨by rw [List.length_cons, hn], ι ++ [x], G, w ++ [.ins c []], .loc w.length :: ds, S, .cons (show RD K (ι ++ [x]) G (.ref x) (.loc w.length) from ⟨x, hx, rfl⟩) (r.mono E), ?_⟩
  cases q : fw (.loc w.length :: ds) (w ++ [.ins c []]) with
  | bad => rw [q] at p; exact p
  | ex c' w2 =>
    rw [q] at p
    exact fun ι' G' H' e1 s1 => p ι' G' H' (E.trans e1) s1
  | ok y w2 =>
    rw [q] at p
    cases y with
    | loc l => exact p.elim
    | exc l => exact p.elim
    | d z =>
      cases z with
      | none =>
        intro v ι' G' H' e1 s1 r1
        cases r1
        refine ⟨rfl, p (.ref x) ι' G' H' (E.trans e1) s1 ⟨x, ?_, rfl⟩⟩
        obtain ⟨new, e2, _⟩ := e1.pre
        rw [e2, List.getElem?_append_left (by rw [List.length_append, s.len]; simp)]
        exact hx
      | _ => exact p.elim
theorem x_make {x : Str} {p : Pos} (M : Mk X.K (He.ga X.K c) (He.ma X.K (He.ga X.K c) (Str.ofString "__init__"))) (F : Md X.prog X.w X.K X.mg X.base c (Str.ofString "__init__") k (spW X.K (n + 1) fw)) (hr : Room (k + 1) X.A) (tk : Takes X Wx) (hg : Gl X x) (hm : X.mg x = some (.ref (He.ga X.K c)))
    (ha : PA X (e :: es) (cA X.K α Wx xs)) (ar : ArN n xs) (hdb : (x == ("__debug__" : Str)) = false := by decide) (he : starEach (e :: es) X.env = (false, eval e X.env) :: starEach es X.env := by rfl) (hpl : (backTo pos (starEach es X.env)).any (·.1) = false := by rfl) :
    PE X (.Call (.Name x p) (e :: es) [] pos) (cE X.K α Wx (xMake c fw xs)) := by
  obtain ⟨hmt, fd, ps, ok, bd⟩ := F
  refine pe_imp (pe_makeS (E := WE Wx) M ok hr hg hm bd (fun σ => passAt tk σ) ha hdb he hpl) fun σ H Q ⟨ι, G, w, env, s, ev, p⟩ => ⟨ι, G, w, env, s, ev, PostA.bind p fun ds w1 vs ι1 G1 H1 q1 e1 s1 r1 p1 => ?_⟩
  exact fun x dx h1 h2 h3 => make_post (by rw [rds_len r1, ar _ _ _ _ q1]) s1 r1 h1 h2 h3 p1
theorem x_make0 {x : Str} {p : Pos} (M : Mk X.K (He.ga X.K c) (He.ma X.K (He.ga X.K c) (Str.ofString "__init__"))) (F : Md X.prog X.w X.K X.mg X.base c (Str.ofString "__init__") k (spW X.K 1 fw)) (hr : Room (k + 1) X.A) (tk : Takes X Wx) (hg : Gl X x) (hm : X.mg x = some (.ref (He.ga X.K c)))
    (hdb : (x == ("__debug__" : Str)) = false := by decide) : PE X (.Call (.Name x p) [] [] pos) (cE X.K α Wx (xMake0 c fw)) := by
  obtain ⟨hmt, fd, ps, ok, bd⟩ := F
  refine pe_imp (pe_makeS0 (E := WE Wx) M ok hr hg hm bd (fun σ => passAt tk σ) hdb) fun σ H Q ⟨ι, G, w, env, s, ev, p⟩ x dx h1 h2 h3 => make_post rfl s .nil h1 h2 h3 p
end
end RK

set_option Elab.async false
set_option linter.all false
set_option maxRecDepth 100000
set_option maxHeartbeats 4000000
/-! RKit, part I: enumerate, loops over a text, texts repeated, tries with several clauses. -/
namespace RK
open PySem PySem.Spec PyProof.Rows L2
open Classical in
noncomputable def forE (i j : Nat) (s : SM) (C : Wd → Prop) : List DV → Nat → En → Wd → Rt
  | [], _, e, w => if C w then .ok (.nx e) w else .bad
  | d :: ds, k, e, w => if C w then (match s ((e.set i (some (.d (.int (k : Int))))).set j (some d)) w with
      | .ok (.nx e2) w2 => forE i j s C ds (k + 1) e2 w2
      | .ok (.ct e2) w2 => forE i j s C ds (k + 1) e2 w2
      | .ok (.bk e2) w2 => .ok (.nx e2) w2
      | .ok (.rt d) w2 => .ok (.rt d) w2
      | .ex c e2 w2 => .ex c e2 w2
      | .bad => .bad) else .bad
/-- for i, x in enumerate(xs) -/
noncomputable def sForE (i j : Nat) (x : XM) (s : SM) : SM := fun e w => (x e w).st e fun d w1 => match d with
  | .d (.list ds) => forE i j s (fun _ => True) (ds.map .d) 0 e w1
  | .loc l => match w1[l]? with
    | some (.lst xs) => forE i j s (fun w => w[l]? = some (.lst xs)) xs 0 e w1
    | _ => .bad
  | _ => .bad
section
variable {K : PySem.W.Frag} {Wx : WX} {α : Addr × Str} {s : SM}
theorem for_enum {D : Ends} {ι : List Addr} {G H : Hp} {w : Wd} {σ : L2.St} {env : En} {a : Addr} {items : List DV} {i0 j0 : Nat} {C : Wd → Prop}
    (sw : WS K ι G H w) (ev : EnvR K α ι G σ env) (hsrc : ∀ ι1 G1 H1 w1, Evo ι G H ι1 G1 H1 → WS K ι1 G1 H1 w1 → C w1 → ∃ vs, SqL K H1 a vs ∧ RDs K ι1 G1 vs items) (p : PostS K α Wx ι G H (forE i0 j0 s C items 0 env w) D) :
    ∃ W : Nat → Nat → L2.St → Hp → Prop, (∃ m, W 0 m σ H) ∧ ∀ i m σ H, W i m σ H →
      ((Ite K a).stop i H ∧ D.nx σ H) ∨ ((Ite K a).go i H ∧ ∃ N : L2.St → Hp → Prop, (∀ σ' H', N σ' H' → ∃ m', m' < m ∧ W (i + 1) m' σ' H') ∧ ∀ x H', (Ite K a).yld i H x H' → gTup K 2 (gNs [i0, j0]) x σ H' fun σ2 H2 => cS K α Wx s { D with nx := N, ct := N, bk := D.nx } σ2 H2) := by
  refine ⟨fun i k σ' H' => k = items.length - i ∧ i ≤ items.length ∧ TurnP K α Wx D ι G H (forE i0 j0 s C (items.drop i) i) σ' H', ⟨items.length, by simp, Nat.zero_le _, ι, G, w, env, .refl, sw, ev, p⟩, ?_⟩
  rintro i k σ' H' ⟨rfl, hi, ι1, G1, w1, n1, e1, s1, ev1, p1⟩
  by_cases hlt : i < items.length
  · right
    have e : items.drop i = items[i] :: items.drop (i + 1) := List.drop_eq_getElem_cons hlt
    rw [e] at p1
    unfold forE at p1
    split at p1
    · rename_i hC
      obtain ⟨vs, f1, f2⟩ := hsrc ι1 G1 H' w1 e1 s1 hC
      obtain ⟨v, f3, f4⟩ := rds_at f2 (show items[i]? = some items[i] by simp [hlt])
      refine ⟨⟨vs, v, f1, f3⟩, fun σ2 H2 => TurnP K α Wx D ι G H (forE i0 j0 s C (items.drop (i + 1)) (i + 1)) σ2 H2, fun σ2 H2 q => ⟨items.length - (i + 1), by omega, rfl, hlt, q⟩, fun x H2 y => ?_⟩
      obtain ⟨T, x', rfl, hT, rfl, y⟩ := y
      have hx := y vs f1
      rw [hx] at f3; cases f3
      have hD : T ∉ ι1 := fun m => s1.dom m hT
      have hG : G1 T = none := Evl.fresh_back s1.sub hT
      have s2 : WS K ι1 G1 (upd H' T (.tup [.int (i : Nat), v])) w1 := s1.updN hD hG
      have e2 : Evo ι1 G1 H' ι1 G1 (upd H' T (.tup [.int (i : Nat), v])) := Evo.refl.updN hT
      refine ⟨T, _, rfl, Evl.st_of upd_same, rfl, ?_⟩
      refine sets_ok (ds := [.d (.int (i : Int)), items[i]]) ev1 (.cons (show RD K ι1 G1 (.int (i : Int)) (.d (.int (i : Int))) from .int _) (.cons f4 .nil)) rfl fun σ2 ev2 => ⟨ι1, G1, w1, _, s2, ev2, ?_⟩
      exact turn_end (F := forE i0 j0 s C (items.drop (i + 1)) (i + 1)) (σ := σ2) (env := (n1.set i0 (some (.d (.int (i : Int))))).set j0 (some items[i])) (w := w1) (PostS.mono e2 p1) fun σ' ι' G' H' e3 w3 E1 S1 EV1 P1 => ⟨ι', G', w3, e3, (e1.trans e2).trans E1, S1, EV1, P1⟩
    · exact p1.elim
  · left
    have e : i = items.length := by omega
    subst e
    rw [List.drop_length] at p1
    unfold forE at p1
    split at p1
    · rename_i hC
      obtain ⟨vs, f1, f2⟩ := hsrc ι1 G1 H' w1 e1 s1 hC
      exact ⟨⟨vs, f1, by rw [rds_len f2]; exact Nat.le_refl _⟩, p1 σ' ι1 G1 H' .refl s1 ev1⟩
    · exact p1.elim
variable {X : Cx} {e : Expr} {ss : List Stmt} {xa : XM} {pos : Pos} {i j : Nat}
theorem s_forE {tx ty : Str} {k : Nat} {px py tpos np cpos : Pos} (hp : PassesOwn (model X.prog X.w) X.A X.env X.xe) (hc : X.calm = true) (hgt : PG X (.Tuple [.Name tx px, .Name ty py] k tpos) (gTup X.K 2 (gNs [i, j]))) (hgl : Gl X "enumerate") (hm : X.mg "enumerate" = none) (hx : PE X e (cE X.K α Wx xa)) (hb : PSs X ss (cS X.K α Wx s))
    (hs1 : starEach [e] X.env = (false, eval e X.env) :: starEach [] X.env := by rfl) (hs : ∀ x, foldedSetIterable (.Call (.Name "enumerate" np) [e] [] cpos) X.env x = pure x := by intro _; rfl) :
    PS X (.For (.Tuple [.Name tx px, .Name ty py] k tpos) (.Call (.Name "enumerate" np) [e] [] cpos) ss [] pos) (cS X.K α Wx (sForE i j xa s)) :=
  ps_imp (ps_for hp hc (pi_enum hgl hm (pa_cons hx pa_nil hs1) hs1) hgt hb hs) fun D σ H ⟨ι, G, w, env, sw, ev, p⟩ => ⟨ι, G, w, env, sw, ev, PostS.st p ev fun d1 w1 v1 ι1 G1 H1 _ e1 s1 r1 p1 => by
    cases d1 with
    | exc l => exact p1.elim
    | loc l =>
      obtain ⟨a, h1, rfl⟩ := r1
      simp only at p1
      cases q : w1[l]? with
      | none => rw [q] at p1; exact p1.elim
      | some o =>
        rw [q] at p1
        cases o with
        | lst xs =>
          obtain ⟨vs, f1, f2⟩ := s1.ob l a _ h1 q
          refine ⟨a, vs, rfl, Evl.sq_of f1, for_enum s1 (ev.mono e1) (fun ι2 G2 H2 w2 e2 s2 hC => ?_) p1⟩
          have h2 : ι2[l]? = some a := by
            obtain ⟨n, e, _⟩ := e2.pre
            rw [e, List.getElem?_append_left (List.getElem?_eq_some_iff.mp h1).1]
            exact h1
          obtain ⟨us, g1, g2⟩ := s2.ob l a _ h2 hC
          exact ⟨us, Evl.sq_of g1, g2⟩
        | _ => exact p1.elim
    | d z =>
      cases z with
      | list ds =>
        cases r1 with
        | lst h1 h2 => exact ⟨_, _, rfl, Evl.ex_l s1.sub h1, for_enum s1 (ev.mono e1) (fun ι2 G2 H2 w2 e2 s2 _ => ⟨_, Evl.ex_l (e2.g.trans s2.sub) h1, rds_of_dps (dp_monos e2.g _ _ h2)⟩) p1⟩
      | _ => exact p1.elim⟩
end
end RK

set_option Elab.async false
set_option linter.all false
set_option maxRecDepth 100000
set_option maxHeartbeats 4000000
/-! RKit, part J: dicts with whole numbers or texts as keys. -/
namespace RK
open PySem PySem.Spec PyProof.Rows L2
def keyD : DV → Option Key
  | .d (.int i) => some (.inl i)
  | .d (.str z) => some (.inr z)
  | _ => none
def valD (kvs : List (Key × DV)) (k : Key) : Option DV := (kvs.find? fun kv => decide (kv.1 = k)).map (·.2)
def putKD (kvs : List (Key × DV)) (k : Key) (v : DV) : List (Key × DV) :=
  if (kvs.any fun kv => decide (kv.1 = k)) = true then kvs.map (fun kv => if kv.1 = k then (kv.1, v) else kv) else kvs ++ [(k, v)]
def dctAt (w : Wd) : DV → Option (Nat × List (Key × DV))
  | .loc l => match w[l]? with
    | some (.dct kvs) => some (l, kvs)
    | _ => none
  | _ => none
def xDNew : XM := fun _ w => .ok (.loc w.length) (w ++ [.dct []])
def xDGet (x y : XM) : XM := fun e w => (x e w).bind fun d w1 => (y e w1).bind fun k w2 => match dctAt w2 d, keyD k with
  | some (_, kvs), some k => match valD kvs k with
    | some v => .ok v w2
    | none => .bad
  | _, _ => .bad
def xDIn (y x : XM) : XM := fun e w => (y e w).bind fun k w1 => (x e w1).bind fun d w2 => match dctAt w2 d, keyD k with
  | some (_, kvs), some k => .ok (.d (.bool (valD kvs k).isSome)) w2
  | _, _ => .bad
def xDNotIn (y x : XM) : XM := fun e w => (y e w).bind fun k w1 => (x e w1).bind fun d w2 => match dctAt w2 d, keyD k with
  | some (_, kvs), some k => .ok (.d (.bool (!(valD kvs k).isSome))) w2
  | _, _ => .bad
def sDPut (x y v : XM) : SM := fun e w => (v e w).st e fun v w1 => (x e w1).st e fun d w2 => (y e w2).st e fun k w3 => match dctAt w3 d, keyD k with
  | some (l, kvs), some k => if kvs.length < 100000 then .ok (.nx e) (w3.set l (.dct (putKD kvs k v))) else .bad
  | _, _ => .bad
section
variable {K : PySem.W.Frag} {Wx : WX} {α : Addr × Str}
theorem dct_of {ι : List Addr} {G H : Hp} {w : Wd} {v : V} {d : DV} {l : Nat} {kvs : List (Key × DV)} (s : WS K ι G H w) (r : RD K ι G v d) (h : dctAt w d = some (l, kvs)) :
    ∃ a ks, v = .ref a ∧ d = .loc l ∧ ι[l]? = some a ∧ H a = some (.dK ks) ∧ RKv K ι G ks kvs := by
  cases d with
  | d z => cases h
  | exc z => cases h
  | loc l' =>
    obtain ⟨a, h1, rfl⟩ := r
    unfold dctAt at h
    cases q : w[l']? with
    | none => simp only [q] at h; cases h
    | some o =>
      simp only [q] at h
      cases o with
      | dct kvs' =>
        cases h
        obtain ⟨ks, h2, h3⟩ := s.ob _ a _ h1 q
        exact ⟨a, ks, rfl, rfl, h1, h2, h3⟩
      | _ => cases h
theorem key_of {ι : List Addr} {G : Hp} {v : V} {d : DV} {k : Key} (r : RD K ι G v d) (h : keyD d = some k) : v = kV k := by
  unfold keyD at h
  split at h
  · cases h; cases r; rfl
  · cases h; cases r; rfl
  · cases h
theorem rkv_val {ι : List Addr} {G : Hp} {k : Key} : ∀ {gs : List (Key × V)} {fs : List (Key × DV)}, RKv K ι G gs fs → (valD fs k = none → valV gs k = none) ∧ ∀ d, valD fs k = some d → ∃ v, valV gs k = some v ∧ RD K ι G v d
  | [], _, r => by
    cases r
    exact ⟨fun _ => rfl, fun d h => by cases h⟩
  | (g, x) :: gs, fs, r => by
    cases r with
    | cons r1 r2 =>
      rename_i q qs
      obtain ⟨g', y⟩ := q
      obtain ⟨e, ry⟩ := r1
      simp only at e ry
      subst e
      by_cases b : g = k
      · rw [valV_pos (p := (g, x)) b]
        unfold valD
        rw [List.find?_cons_of_pos (by simpa using b)]
        exact ⟨fun h => (by cases h), fun d h => (by cases h; exact ⟨x, rfl, ry⟩)⟩
      · rw [valV_neg (p := (g, x)) b]
        unfold valD
        rw [List.find?_cons_of_neg (by simpa using b)]
        exact rkv_val r2
theorem rkv_any {ι : List Addr} {G : Hp} {k : Key} : ∀ {gs : List (Key × V)} {fs : List (Key × DV)}, RKv K ι G gs fs → (gs.any fun kv => decide (kv.1 = k)) = (fs.any fun kv => decide (kv.1 = k))
  | [], _, r => by cases r; rfl
  | (g, x) :: gs, fs, r => by
    cases r with
    | cons r1 r2 =>
      rename_i q qs
      obtain ⟨g', y⟩ := q
      obtain ⟨e, ry⟩ := r1
      simp only at e ry
      subst e
      rw [List.any_cons, List.any_cons, rkv_any r2]
theorem rkv_map {ι : List Addr} {G : Hp} {k : Key} {v : V} {d : DV} (rv : RD K ι G v d) : ∀ {gs : List (Key × V)} {fs : List (Key × DV)}, RKv K ι G gs fs → RKv K ι G (gs.map fun kv => if kv.1 = k then (kv.1, v) else kv) (fs.map fun kv => if kv.1 = k then (kv.1, d) else kv)
  | [], _, r => by cases r; exact .nil
  | (g, x) :: gs, fs, r => by
    cases r with
    | cons r1 r2 =>
      rename_i q qs
      obtain ⟨g', y⟩ := q
      obtain ⟨e, ry⟩ := r1
      simp only at e ry
      subst e
      rw [List.map_cons, List.map_cons]
      refine .cons ?_ (rkv_map rv r2)
      by_cases b : g = k
      · simp only [if_pos b]
        exact ⟨trivial, rv⟩
      · simp only [if_neg b]
        exact ⟨trivial, ry⟩
theorem rkv_app {ι : List Addr} {G : Hp} {k : Key} {v : V} {d : DV} (rv : RD K ι G v d) : ∀ {gs : List (Key × V)} {fs : List (Key × DV)}, RKv K ι G gs fs → RKv K ι G (gs ++ [(k, v)]) (fs ++ [(k, d)])
  | [], _, r => by cases r; exact .cons ⟨rfl, rv⟩ .nil
  | (g, x) :: gs, fs, r => by
    cases r with
    | cons r1 r2 => exact .cons r1 (rkv_app rv r2)
theorem rkv_putK {ι : List Addr} {G : Hp} {k : Key} {v : V} {d : DV} (rv : RD K ι G v d) {gs : List (Key × V)} {fs : List (Key × DV)} (r : RKv K ι G gs fs) : RKv K ι G (putK gs k v) (putKD fs k d) := by
  unfold putK putKD
  rw [rkv_any (k := k) r]
  split
  · exact rkv_map rv r
  · exact rkv_app rv r
variable {X : Cx} {o i value e : Expr} {pos pos' : Pos} {xo xi xv : XM}
theorem x_dnew : PE X (.Dict [] [] pos) (cE X.K α Wx xDNew) :=
  pe_imp pe_dnewK fun σ H Q ⟨ι, G, w, env, s, ev, p⟩ a ha => p (.ref a) _ G _ (Evo.newL ha) (s.newL ha ⟨[], rfl, .nil⟩) ⟨a, by rw [← s.len]; simp, rfl⟩
theorem x_dget (hu : X.A.units + 1 < cLine) (ho : PE X o (cE X.K α Wx xo)) (hi : PE X i (cE X.K α Wx xi)) (hs : NoSl i := by intro _ _; rfl) : PE X (.Subscript o i pos) (cE X.K α Wx (xDGet xo xi)) :=
  pe_imp (pe_dget hu ho hi hs) fun σ H Q ⟨ι, G, w, env, s, ev, p⟩ => ⟨ι, G, w, env, s, ev, PostE.bind p fun d1 w1 v1 ι1 G1 H1 _ e1 s1 r1 p1 => ⟨ι1, G1, w1, env, s1, ev.mono e1, PostE.bind p1 fun d2 w2 v2 ι2 G2 H2 _ e2 s2 r2 p2 => by
    cases q : dctAt w2 d1 with
    | none => simp only [q] at p2; exact p2.elim
    | some t =>
      obtain ⟨l, kvs⟩ := t
      cases q2 : keyD d2 with
      | none => simp only [q, q2] at p2; exact p2.elim
      | some k =>
        simp only [q, q2] at p2
        obtain ⟨a, ks, rfl, rfl, h1, h2, h3⟩ := dct_of s2 (r1.mono e2) q
        obtain rfl := key_of r2 q2
        cases q3 : valD kvs k with
        | none => simp only [q3] at p2; exact p2.elim
        | some d =>
          simp only [q3] at p2
          obtain ⟨v, h4, h5⟩ := (rkv_val (k := k) h3).2 d q3
          exact ⟨a, v, rfl, by rw [← h4]; exact DGet.k h2, p2 v ι2 G2 H2 .refl s2 h5⟩⟩⟩
theorem din_step {σ : L2.St} {H : Hp} {Q : VK} (h : cE K α Wx (xDIn xi xo) σ H Q) : tDIn (cE K α Wx xi) (cE K α Wx xo) σ H Q := by
  obtain ⟨ι, G, w, env, s, ev, p⟩ := h
  refine ⟨ι, G, w, env, s, ev, PostE.bind p fun d1 w1 v1 ι1 G1 H1 _ e1 s1 r1 p1 => ⟨ι1, G1, w1, env, s1, ev.mono e1, PostE.bind p1 fun d2 w2 v2 ι2 G2 H2 _ e2 s2 r2 p2 => ?_⟩⟩
  cases q : dctAt w2 d2 with
  | none => simp only [q] at p2; exact p2.elim
  | some t =>
    obtain ⟨l, kvs⟩ := t
    cases q2 : keyD d1 with
    | none => simp only [q, q2] at p2; exact p2.elim
    | some k =>
      simp only [q, q2] at p2
      obtain ⟨a, ks, rfl, rfl, h1, h2, h3⟩ := dct_of s2 r2 q
      obtain rfl := key_of r1 q2
      have e : (valV ks k).isSome = (valD kvs k).isSome := by
        cases q3 : valD kvs k with
        | none =>
          rw [(rkv_val (k := k) h3).1 q3]
          rfl
        | some d =>
          obtain ⟨v, h4, _⟩ := (rkv_val (k := k) h3).2 d q3
          rw [h4]
          rfl
      exact ⟨a, _, rfl, DGet.k h2, by rw [e]; exact p2 _ ι2 G2 H2 .refl s2 (.bl _)⟩
theorem dnotin_step {σ : L2.St} {H : Hp} {Q : VK} (h : cE K α Wx (xDNotIn xi xo) σ H Q) : tDNotIn (cE K α Wx xi) (cE K α Wx xo) σ H Q := by
  obtain ⟨ι, G, w, env, s, ev, p⟩ := h
  refine ⟨ι, G, w, env, s, ev, PostE.bind p fun d1 w1 v1 ι1 G1 H1 _ e1 s1 r1 p1 => ⟨ι1, G1, w1, env, s1, ev.mono e1, PostE.bind p1 fun d2 w2 v2 ι2 G2 H2 _ e2 s2 r2 p2 => ?_⟩⟩
  cases q : dctAt w2 d2 with
  | none => simp only [q] at p2; exact p2.elim
  | some t =>
    obtain ⟨l, kvs⟩ := t
    cases q2 : keyD d1 with
    | none => simp only [q, q2] at p2; exact p2.elim
    | some k =>
      simp only [q, q2] at p2
      obtain ⟨a, ks, rfl, rfl, h1, h2, h3⟩ := dct_of s2 r2 q
      obtain rfl := key_of r1 q2
      have e : (valV ks k).isSome = (valD kvs k).isSome := by
        cases q3 : valD kvs k with
        | none =>
          rw [(rkv_val (k := k) h3).1 q3]
          rfl
        | some d =>
          obtain ⟨v, h4, _⟩ := (rkv_val (k := k) h3).2 d q3
          rw [h4]
          rfl
      exact ⟨a, _, rfl, DGet.k h2, by rw [e]; exact p2 _ ι2 G2 H2 .refl s2 (.bl _)⟩
theorem x_din (hu : X.A.units + 1 < cLine) (hi : PE X i (cE X.K α Wx xi)) (ho : PE X o (cE X.K α Wx xo)) (hm : behindInMarks .In o = false := by rfl) : PE X (.Compare i [.In] [o] pos) (cE X.K α Wx (xDIn xi xo)) := pe_imp (pe_cmp (pc_din hu hi ho) hm) fun _ _ _ h => din_step h
theorem x_dnotin (hu : X.A.units + 1 < cLine) (hi : PE X i (cE X.K α Wx xi)) (ho : PE X o (cE X.K α Wx xo)) (hm : behindInMarks .NotIn o = false := by rfl) : PE X (.Compare i [.NotIn] [o] pos) (cE X.K α Wx (xDNotIn xi xo)) := pe_imp (pe_cmp (pc_dnotin hu hi ho) hm) fun _ _ _ h => dnotin_step h
theorem tB_of {x : XM} {t : TE} (h : ∀ {σ : L2.St} {H : Hp} {Q : VK}, cE K α Wx x σ H Q → t σ H Q) {σ : L2.St} {H : Hp} {Q : Bool → Hp → Prop} (q : cT K α Wx x σ H Q) : tB t σ H Q := h q
theorem t_din (hu : X.A.units + 1 < cLine) (hi : PE X i (cE X.K α Wx xi)) (ho : PE X o (cE X.K α Wx xo)) (hm : behindInMarks .In o = false := by rfl) : PT X (.Compare i [.In] [o] pos) (cT X.K α Wx (xDIn xi xo)) := pt_imp (pt_cmp (pc_din hu hi ho) hm) fun _ _ _ h => tB_of din_step h
theorem t_dnotin (hu : X.A.units + 1 < cLine) (hi : PE X i (cE X.K α Wx xi)) (ho : PE X o (cE X.K α Wx xo)) (hm : behindInMarks .NotIn o = false := by rfl) : PT X (.Compare i [.NotIn] [o] pos) (cT X.K α Wx (xDNotIn xi xo)) := pt_imp (pt_cmp (pc_dnotin hu hi ho) hm) fun _ _ _ h => tB_of dnotin_step h
theorem s_dput (hu : X.A.units + 1 < cLine) (ho : PE X o (cE X.K α Wx xo)) (hi : PE X i (cE X.K α Wx xi)) (hv : PE X value (cE X.K α Wx xv)) (hs : swapsWith value (some (.Subscript o i pos')) pos.line X.env = pure false := by rfl) :
    PS X (.Assign [.Subscript o i pos'] value pos) (cS X.K α Wx (sDPut xo xi xv)) :=
  ps_imp (ps_dput hu ho hi hv hs) fun D σ H ⟨ι, G, w, env, sw, ev, p⟩ => ⟨ι, G, w, env, sw, ev, PostS.st p ev fun y w1 vy ι1 G1 H1 _ e1 s1 ry p1 => ⟨ι1, G1, w1, env, s1, ev.mono e1, PostS.st p1 (ev.mono e1) fun d2 w2 v2 ι2 G2 H2 _ e2 s2 r2 p2 => ⟨ι2, G2, w2, env, s2, (ev.mono e1).mono e2, PostS.st p2 ((ev.mono e1).mono e2) fun d3 w3 v3 ι3 G3 H3 _ e3 s3 r3 p3 => by
    cases q : dctAt w3 d2 with
    | none => simp only [q] at p3; exact p3.elim
    | some t =>
      obtain ⟨l, kvs⟩ := t
      cases q2 : keyD d3 with
      | none => simp only [q, q2] at p3; exact p3.elim
      | some k =>
        simp only [q, q2] at p3
        split at p3
        · rename_i hl
          obtain ⟨a, ks, rfl, rfl, h1, h2, h3⟩ := dct_of s3 (r2.mono e3) q
          obtain rfl := key_of r3 q2
          refine ⟨a, _, rfl, DPut.k h2 (Evl.sz_lt (by rw [Paired.length h3]; exact hl)), ?_⟩
          exact p3 _ ι3 G3 _ (Evo.write h1) (s3.write h1 ⟨_, rfl, rkv_putK ((ry.mono e2).mono e3) h3⟩) (((ev.mono e1).mono e2).mono e3)
        · exact p3.elim⟩⟩⟩
end
end RK

set_option Elab.async false
set_option linter.all false
set_option maxRecDepth 100000
set_option maxHeartbeats 4000000
/-! RKit, part K: setdefault, loops over a text, constant rows of pairs. -/
namespace RK
open PySem PySem.Spec PyProof.Rows L2
def xDSetd (x y z : XM) : XM := fun e w => (x e w).bind fun d w1 => match dctAt w1 d with
  | none => .bad
  | some _ => (y e w1).bind fun k w2 => (z e w2).bind fun v w3 => match dctAt w3 d, keyD k with
    | some (l, kvs), some k => if kvs.length < 100000 then (match valD kvs k with
      | some u => .ok u w3
      | none => .ok v (w3.set l (.dct (putKD kvs k v)))) else .bad
    | _, _ => .bad
/-- the signs of a text, each a text -/
def signs (z : Str) : List PyData := z.cps.toList.map fun c => .str ⟨#[c]⟩
def sForS (j : Nat) (x : XM) (s : SM) : SM := fun e w => (x e w).st e fun d w1 => match d with
  | .d (.str z) => forD (gNm j) s (signs z) e w1
  | _ => .bad
section
variable {K : PySem.W.Frag} {Wx : WX} {α : Addr × Str} {X : Cx} {o e f : Expr} {apos cpos pos : Pos} {xo xi xv xa : XM} {ss : List Stmt} {s : SM} {j : Nat}
theorem hu1 {k : Nat} {A : Around} (hr : Room k A) : A.units + 1 < cLine := by
  have := hr.units
  omega
theorem hu1s {X : Cx} {a : Addr} {pn : List (Addr × Obj)} {k : Nat} (hr : Room k X.A) : (X.suite a pn).A.units + 1 < cLine := by
  show X.A.units + 1 < cLine
  exact hu1 hr
theorem x_dsetd (ho : PE X o (cE X.K α Wx xo)) (he : PE X e (cE X.K α Wx xi)) (hf : PE X f (cE X.K α Wx xv)) (m : M2 X o "setdefault" apos e f cpos := by exact ⟨rfl, rfl, rfl, rfl⟩) : PE X (.Call (.Attribute o "setdefault" apos) [e, f] [] cpos) (cE X.K α Wx (xDSetd xo xi xv)) :=
  pe_imp (pe_dsetd ho he hf m) fun σ H Q ⟨ι, G, w, env, s, ev, p⟩ => ⟨ι, G, w, env, s, ev, PostE.bind p fun d1 w1 v1 ι1 G1 H1 _ e1 s1 r1 p1 => by
    cases q : dctAt w1 d1 with
    | none => simp only [q] at p1; exact p1.elim
    | some t =>
      obtain ⟨l, kvs⟩ := t
      simp only [q] at p1
      obtain ⟨a, ks, rfl, rfl, h1, h2, h3⟩ := dct_of s1 r1 q
      refine ⟨a, rfl, .inl ⟨ks, .of h2⟩, ι1, G1, w1, env, s1, ev.mono e1, PostE.bind p1 fun d2 w2 v2 ι2 G2 H2 _ e2 s2 r2 p2 => ⟨ι2, G2, w2, env, s2, (ev.mono e1).mono e2, PostE.bind p2 fun d3 w3 v3 ι3 G3 H3 _ e3 s3 r3 p3 => ?_⟩⟩
      cases q' : dctAt w3 (.loc l) with
      | none => simp only [q'] at p3; exact p3.elim
      | some t =>
        obtain ⟨l', kvs'⟩ := t
        cases q2 : keyD d2 with
        | none => simp only [q', q2] at p3; exact p3.elim
        | some k =>
          simp only [q', q2] at p3
          obtain ⟨a', ks', ea, el, h1', h2', h3'⟩ := dct_of s3 (((show RD X.K ι1 G1 (.ref a) (.loc l) from r1).mono e2).mono e3) q'
          cases ea
          cases el
          obtain rfl := key_of r2 q2
          split at p3
          · rename_i hl
            refine ⟨ks', k, h2', rfl, Evl.sz_lt (by rw [Paired.length h3']; exact hl), fun v hv => ?_, fun hv => ?_⟩
            · cases q3 : valD kvs' k with
              | none =>
                rw [(rkv_val (k := k) h3').1 q3] at hv
                cases hv
              | some d =>
                simp only [q3] at p3
                obtain ⟨v', h4, h5⟩ := (rkv_val (k := k) h3').2 d q3
                rw [h4] at hv
                cases hv
                exact p3 _ ι3 G3 H3 .refl s3 h5
            · cases q3 : valD kvs' k with
              | none =>
                simp only [q3] at p3
                exact p3 _ ι3 G3 _ (Evo.write h1') (s3.write h1' ⟨_, rfl, rkv_putK r3 h3'⟩) r3
              | some d =>
                obtain ⟨v', h4, h5⟩ := (rkv_val (k := k) h3').2 d q3
                rw [h4] at hv
                cases hv
          · exact p3.elim⟩
theorem for_signs {D : Ends} {ι : List Addr} {G H : Hp} {w : Wd} {σ : L2.St} {env : En} {z : Str}
    (sw : WS K ι G H w) (ev : EnvR K α ι G σ env) (p : PostS K α Wx ι G H (forD (gNm j) s (signs z) env w) D) :
    ∃ W : Nat → Nat → L2.St → Hp → Prop, (∃ m, W 0 m σ H) ∧ ∀ i m σ H, W i m σ H →
      ((Its z).stop i H ∧ D.nx σ H) ∨ ((Its z).go i H ∧ ∃ N : L2.St → Hp → Prop, (∀ σ' H', N σ' H' → ∃ m', m' < m ∧ W (i + 1) m' σ' H') ∧ ∀ x H', (Its z).yld i H x H' → gName j x σ H' fun σ2 H2 => cS K α Wx s { D with nx := N, ct := N, bk := D.nx } σ2 H2) := by
  have hl : (signs z).length = z.cps.size := by simp [signs]
  refine ⟨fun i k σ' H' => k = z.cps.size - i ∧ i ≤ z.cps.size ∧ TurnP K α Wx D ι G H (forD (gNm j) s ((signs z).drop i)) σ' H', ⟨z.cps.size, by simp, Nat.zero_le _, ι, G, w, env, .refl, sw, ev, p⟩, ?_⟩
  rintro i k σ' H' ⟨rfl, hi, h⟩
  by_cases hlt : i < z.cps.size
  · refine .inr ⟨hlt, TurnP K α Wx D ι G H (forD (gNm j) s ((signs z).drop (i + 1))), fun σ2 H2 q => ⟨z.cps.size - (i + 1), by omega, rfl, hlt, q⟩, fun x H2 y => ?_⟩
    obtain ⟨rfl, c, hc, rfl⟩ := y
    have e : (signs z).drop i = .str ⟨#[c]⟩ :: (signs z).drop (i + 1) := by
      rw [List.drop_eq_getElem_cons (by rw [hl]; exact hlt)]
      congr 1
      have : z.cps[i] = c := by
        rw [Array.getElem?_eq_getElem hlt] at hc
        exact Option.some.inj hc
      simp [signs, this]
    rw [e] at h
    exact turnD (tg_name j) (fun ι' G' H' E => .str _) h
  · have e : i = z.cps.size := by omega
    subst e
    obtain ⟨ι1, G1, w1, n1, e1, s1, ev1, p1⟩ := h
    rw [show (signs z).drop z.cps.size = [] from List.drop_of_length_le (by rw [hl]; exact Nat.le_refl _)] at p1
    exact .inl ⟨Nat.le_refl _, p1 σ' ι1 G1 H' .refl s1 ev1⟩
theorem s_forS {tg : Str} {tgp : Pos} (hp : PassesOwn (model X.prog X.w) X.A X.env X.xe) (hc : X.calm = true) (hx : PE X e (cE X.K α Wx xa)) (hgt : PG X (.Name tg tgp) (gName j)) (hb : PSs X ss (cS X.K α Wx s))
    (hs : ∀ x, foldedSetIterable e X.env x = pure x := by intro _; rfl) : PS X (.For (.Name tg tgp) e ss [] pos) (cS X.K α Wx (sForS j xa s)) :=
  ps_imp (ps_for hp hc (pi_str hx) hgt hb hs) fun D σ H ⟨ι, G, w, env, sw, ev, p⟩ => ⟨ι, G, w, env, sw, ev, PostS.st p ev fun d1 w1 v1 ι1 G1 H1 _ e1 s1 r1 p1 => by
    cases d1 with
    | exc l => exact p1.elim
    | loc l => exact p1.elim
    | d z =>
      cases z with
      | str z =>
        cases r1
        exact ⟨z, rfl, for_signs s1 (ev.mono e1) p1⟩
      | _ => exact p1.elim⟩
/-! rows of pairs that the top has left -/
def tupA (K : PySem.W.Frag) (a : Addr) (vs : List V) : Bool := match K.lookup a with
  | some ⟨.type c, _, .seq its _, _⟩ => decide (c = "tuple") && (decide (its.size ≤ sizeLine) && He.relAll vs its.toList)
  | _ => false
theorem tupA_ok {K : PySem.W.Frag} {a : Addr} {vs : List V} (h : tupA K a vs = true) (H : Hp) : SqT K H a vs := by
  unfold tupA at h
  cases q : K.lookup a with
  | none =>
    rw [q] at h
    cases h
  | some o =>
    obtain ⟨oc, od, dt, osl⟩ := o
    rw [q] at h
    cases oc with
    | type c =>
      cases dt with
      | seq its n =>
        obtain ⟨h1, h2⟩ := He.ba (show (decide (c = "tuple") && (decide (its.size ≤ sizeLine) && He.relAll vs its.toList)) = true from h)
        obtain ⟨h3, h4⟩ := He.ba h2
        exact .inr ⟨_, its, n, q, congrArg Value.type (of_decide_eq_true h1), rfl, of_decide_eq_true h3, He.relAll_ok h4⟩
      | _ => cases h
    | _ => cases dt <;> cases h
def rowI (K : PySem.W.Frag) : List Value → List (Int × Int) → Bool
  | [], [] => true
  | .ref a :: us, p :: ps => tupA K a [.int p.1, .int p.2] && rowI K us ps
  | _, _ => false
def rowB (K : PySem.W.Frag) (x : Str) (ps : List (Int × Int)) : Bool := match K.lookup (He.ga K x) with
  | some ⟨.type c, _, .seq its _, _⟩ => decide (c = "tuple") && (decide (its.size ≤ sizeLine) && rowI K its.toList ps)
  | _ => false
theorem rowI_ok {K : PySem.W.Frag} (G : Hp) : ∀ {us : List Value} {ps : List (Int × Int)}, rowI K us ps = true → ∃ vs, Vals vs us ∧ DpAll K G vs (ps.map fun p => .tuple [.int p.1, .int p.2])
  | [], [], _ => ⟨[], .nil, .nil⟩
  | u :: us, p :: ps, h => by
    cases u with
    | ref a =>
      obtain ⟨h1, h2⟩ := He.ba (show (tupA K a [.int p.1, .int p.2] && rowI K us ps) = true from h)
      obtain ⟨vs, h3, h4⟩ := rowI_ok G h2
      exact ⟨.ref a :: vs, .cons rfl h3, .cons (.tup (tupA_ok h1 G) (.cons (.int _) (.cons (.int _) .nil))) h4⟩
    | _ => cases h
  | [], _ :: _, h => by cases h
  | u :: _, [], h => by cases u <;> cases h
theorem dp_rowB {K : PySem.W.Frag} {x : Str} {ps : List (Int × Int)} (h : rowB K x ps = true) (G : Hp) : Dp K G (.ref (He.ga K x)) (.tuple (ps.map fun p => .tuple [.int p.1, .int p.2])) := by
  unfold rowB at h
  cases q : K.lookup (He.ga K x) with
  | none =>
    rw [q] at h
    cases h
  | some o =>
    obtain ⟨oc, od, dt, osl⟩ := o
    rw [q] at h
    cases oc with
    | type c =>
      cases dt with
      | seq its n =>
        obtain ⟨h1, h2⟩ := He.ba (show (decide (c = "tuple") && (decide (its.size ≤ sizeLine) && rowI K its.toList ps)) = true from h)
        obtain ⟨h3, h4⟩ := He.ba h2
        obtain ⟨vs, h5, h6⟩ := rowI_ok G h4
        exact .tup (.inr ⟨_, its, n, q, congrArg Value.type (of_decide_eq_true h1), rfl, of_decide_eq_true h3, h5⟩) h6
      | _ => cases h
    | _ => cases dt <;> cases h
end
end RK

set_option Elab.async false
set_option linter.all false
set_option maxRecDepth 100000
set_option maxHeartbeats 4000000
/-! RKit, part L: a list == [] whatever stands in it, in a tuple of plain things, dict displays, get with a default, text times number, tries whose last clause names the error. -/
namespace RK
open PySem PySem.Spec PyProof.Rows L2
/-- xs == [] -/
def oEq0 : DV → DV → Wd → Rs DV := fun x y w => match itemsV w x, y with
  | some ds, .d (.list []) => .ok (.d (.bool ds.isEmpty)) w
  | _, _ => .bad
def rEq0 (K : PySem.W.Frag) : R2 := fun x y H Q => ∃ a b xs, x = .ref a ∧ y = .ref b ∧ SqL K H a xs ∧ SqL K H b [] ∧ Q (.bl xs.isEmpty) H
theorem op_eq0 {X : Cx} (hu : X.A.units + 64 < cLine) : OpR X (compareOp .Eq) (rEq0 X.K) := by
  intro pins s σ H x y v u Q I rx ry ⟨a, b, xs, ea, eb, ha, hb, q⟩
  subst ea eb
  cases (show v = Value.ref a from rx)
  cases (show u = Value.ref b from ry)
  obtain ⟨us, r1, p1, z1⟩ := I.list ha
  obtain ⟨ws, r2, p2, z2⟩ := I.list hb
  have w0 : ws = [] := by cases r2; rfl
  subst w0
  cases xs with
  | nil =>
    cases r1
    exact SeqAt.eq_listAt (e := fun _ => true) p1.isList p2.isList rfl (Nat.lt_of_le_of_lt (Nat.le_add_right _ _) hu) (fun j h1 h2 => absurd h1 (Nat.not_lt_zero j)) ⟨.bl true, H, I, rfl, q⟩
  | cons x xs =>
    cases r1 with
    | cons g1 g2 => exact SeqAt.eq_list_lengthsAt p1.isList p2.isList (by simp) (Nat.lt_of_le_of_lt (Nat.le_add_right _ _) hu) ⟨.bl false, H, I, rfl, q⟩
/-- x in (a, b, ..), plain things without parts -/
def flatD : PyData → Bool
  | .none => true
  | .bool _ => true
  | .int _ => true
  | .str _ => true
  | _ => false
def oInT : DV → DV → Wd → Rs DV
  | .d x, .d (.tuple ds), w => if (flatD x && ds.all flatD) = true then .ok (.d (.bool (ds.any fun z => PyData.eqv z x))) w else .bad
  | _, _, _ => .bad
/-- a text times 0 or 1 -/
def oRepS : DV → DV → Wd → Rs DV
  | .d (.str x), .d (.int n), w => if n = 0 then .ok (.d (.str (PySem.Str.ofString ""))) w else if n = 1 then .ok (.d (.str x)) w else .bad
  | _, _, _ => .bad
def rRep01 : R2 := fun x y H Q => ∃ z n, x = .str z ∧ y = .int n ∧ ((n = 0 ∧ Q (.str (PySem.Str.ofString "")) H) ∨ (n = 1 ∧ Q (.str z) H))
theorem op_repS {X : Cx} : OpR X (binaryOp .Mult) rRep01 := by
  intro pins s σ H x y v u Q I rx ry ⟨z, n, ex, ey, h⟩
  subst ex ey
  obtain ⟨t, rfl⟩ := rx
  obtain ⟨t2, rfl⟩ := ry
  rcases h with ⟨rfl, q⟩ | ⟨rfl, q⟩
  · exact PySem.P.mul_str_none (by decide) (by decide) ⟨.str (PySem.Str.ofString ""), H, I.tok _, ⟨_, rfl⟩, q⟩
  · refine PySem.P.mul_str (by decide) (fun _ h => by simp at h) (fun _ h => by simp at h) ?_
    rw [if_neg (by decide), if_pos (by simp)]
    exact ⟨.str z, H, I, ⟨_, rfl⟩, q⟩
/-- {k: e, ..}: the dict is made first -/
def evalKs : List (Key × XM) → En → Wd → Rs (List (Key × DV))
  | [], _, w => .ok [] w
  | (k, x) :: r, e, w => (x e w).bind fun d w1 => (evalKs r e w1).bind fun kvs w2 => .ok ((k, d) :: kvs) w2
def mergeKD (kvs more : List (Key × DV)) : List (Key × DV) := more.foldl (fun acc kv => putKD acc kv.1 kv.2) kvs
def xDisp (kxs : List (Key × XM)) : XM := fun e w => (evalKs kxs e (w ++ [.dct []])).bind fun kvs w2 => match w2[w.length]? with
  | some (.dct []) => if kvs.length ≤ 15 then .ok (.loc w.length) (w2.set w.length (.dct (mergeKD [] kvs))) else .bad
  | _ => .bad
/-- d.get(k, z) -/
def xDGet2 (x y z : XM) : XM := fun e w => (x e w).bind fun d w1 => match dctAt w1 d with
  | none => .bad
  | some _ => (y e w1).bind fun k w2 => (z e w2).bind fun v w3 => match dctAt w3 d, keyD k with
    | some (_, kvs), some k => (match valD kvs k with
      | some u => .ok u w3
      | none => .ok v w3)
    | _, _ => .bad
section
variable {K : PySem.W.Frag} {Wx : WX} {α : Addr × Str} {X : Cx} {o i value e f : Expr} {pos pos' apos cpos : Pos} {xo xi xv : XM}
theorem k_eq0 : BinOk K Wx oEq0 (rEq0 K) := by
  intro ι G H w σ x y dx dy Q s rx ry p
  unfold oEq0 at p
  split at p
  · rename_i ds h1
    obtain ⟨a, vs, rfl, f1, f2⟩ := items_rd s rx h1
    cases ry with
    | lst g1 g2 =>
      cases g2
      refine ⟨a, _, vs, rfl, rfl, f1, Evl.ex_l s.sub g1, ?_⟩
      have e : vs.isEmpty = ds.isEmpty := by cases f2 <;> rfl
      rw [e]
      exact p _ ι G H .refl s (.bl _)
  · exact p.elim
theorem flat_dp {G : Hp} {v : V} {d : PyData} (h : Dp K G v d) (f : flatD d = true) : flatV v = true := by
  cases d <;> first | (cases h; rfl) | cases f
theorem flat_dps {G : Hp} : ∀ {ds : List PyData} {vs : List V}, DpAll K G vs ds → ds.all flatD = true → vs.all flatV = true
  | [], _, h, _ => by cases h; rfl
  | d :: ds, _, h, f => by
    cases h with
    | cons h1 h2 =>
      rw [List.all_cons, Bool.and_eq_true] at f
      rw [List.all_cons, flat_dp h1 f.1, flat_dps h2 f.2]
      rfl
theorem eqV_dp {G : Hp} {v u : V} {d e : PyData} (h : Dp K G v d) (g : Dp K G u e) (f : flatD d = true) (f2 : flatD e = true) : eqV v u = PyData.eqv d e := by
  cases h <;> cases g <;> first | rfl | cases f | cases f2
theorem any_dp {G : Hp} {u : V} {e : PyData} (g : Dp K G u e) (f2 : flatD e = true) : ∀ {ds : List PyData} {vs : List V}, DpAll K G vs ds → ds.all flatD = true → inV u vs = ds.any fun z => PyData.eqv z e
  | [], _, h, _ => by cases h; rfl
  | d :: ds, _, h, f => by
    cases h with
    | cons h1 h2 =>
      rw [List.all_cons, Bool.and_eq_true] at f
      have := any_dp g f2 h2 f.2
      unfold inV at this ⊢
      rw [List.any_cons, List.any_cons, this, eqV_dp h1 g f.1 f2]
theorem k_inT : BinOk K Wx oInT (rIn K false) := by
  intro ι G H w σ x y dx dy Q s rx ry p
  unfold oInT at p
  split at p
  · rename_i d ds
    split at p
    · rename_i hf
      obtain ⟨f1, f2⟩ := Bool.and_eq_true_iff.mp hf
      cases ry with
      | tup g1 g2 =>
        refine ⟨_, _, rfl, .inr (Evl.ex_t s.sub g1), flat_dp rx f1, flat_dps g2 f2, ?_⟩
        show Q (.bl (inV x _)) H
        rw [any_dp rx f1 g2 f2]
        exact p _ ι G H .refl s (.bl _)
    · exact p.elim
  · exact p.elim
theorem k_repS : BinOk K Wx oRepS rRep01 := by
  intro ι G H w σ x y dx dy Q s rx ry p
  unfold oRepS at p
  split at p
  · rename_i z n
    cases rx
    cases ry
    split at p
    · rename_i h
      exact ⟨z, n, rfl, rfl, .inl ⟨h, p _ ι G H .refl s (.str _)⟩⟩
    · split at p
      · rename_i h
        exact ⟨z, n, rfl, rfl, .inr ⟨h, p _ ι G H .refl s (.str _)⟩⟩
      · exact p.elim
  · exact p.elim
/-! dict displays -/
def PostK (K : PySem.W.Frag) (Wx : WX) (ι : List Addr) (G H : Hp) (σ : L2.St) (r : Rs (List (Key × DV))) (Q : List (Key × V) → Hp → Prop) : Prop :=
  match r with
  | .ok d w' => ∀ v ι' G' H', Evo ι G H ι' G' H' → WS K ι' G' H' w' → RKv K ι' G' v d → Q v H'
  | .ex c w' => ∀ ι' G' H', Evo ι G H ι' G' H' → WS K ι' G' H' w' → Wx (.ref (He.ga K c)) none σ H'
  | .bad => False
inductive DispOk (X : Cx) (α : Addr × Str) (Wx : WX) : List (Option Expr) → List Expr → List (Key × XM) → Prop
  | nil : DispOk X α Wx [] [] []
  | cons {k : Key} {ek ev : Expr} {x : XM} {ks : List (Option Expr)} {vs : List Expr} {kxs : List (Key × XM)} (hk : PE X ek (tC (kV k))) (hv : PE X ev (cE X.K α Wx x)) (r : DispOk X α Wx ks vs kxs) : DispOk X α Wx (some ek :: ks) (ev :: vs) ((k, x) :: kxs)
def trsOf (K : PySem.W.Frag) (α : Addr × Str) (Wx : WX) (kxs : List (Key × XM)) : List (TE × TE) := kxs.map fun p => (tC (kV p.1), cE K α Wx p.2)
theorem DispOk.pps {ks : List (Option Expr)} {vs : List Expr} {kxs : List (Key × XM)} (h : DispOk X α Wx ks vs kxs) : PPs X pos ks vs (trsOf X.K α Wx kxs) := by
  induction h with
  | nil => exact pps_nil
  | cons hk hv r ih => exact pps_cons hk hv ih
theorem pairs_step {σ : L2.St} : ∀ {kxs : List (Key × XM)} {ι : List Addr} {G H : Hp} {w : Wd} {env : En} {Q : List (Key × V) → Hp → Prop}, WS K ι G H w → EnvR K α ι G σ env → PostK K Wx ι G H σ (evalKs kxs env w) Q →
    tPairs (trsOf K α Wx kxs) σ H fun ps H2 => ∃ kvs : List (Key × V), ps = kvs.map (fun kv => (kV kv.1, kv.2)) ∧ Q kvs H2
  | [], ι, G, H, w, env, Q, s, ev, p => ⟨[], rfl, p [] ι G H .refl s .nil⟩
  | (k, x) :: r, ι, G, H, w, env, Q, s, ev, p => by
    show ∃ ι G w env, WS K ι G H w ∧ EnvR K α ι G σ env ∧ PostE K Wx ι G H σ (x env w) fun y H2 => tPairs (trsOf K α Wx r) σ H2 fun ps H3 => ∃ kvs : List (Key × V), (kV k, y) :: ps = kvs.map (fun kv => (kV kv.1, kv.2)) ∧ Q kvs H3
    refine ⟨ι, G, w, env, s, ev, ?_⟩
    unfold evalKs at p
    cases q : x env w with
    | bad => rw [q] at p; exact p
    | ex c w1 => rw [q] at p; exact p
    | ok d w1 =>
      rw [q] at p
      intro v1 ι1 G1 H1 e1 s1 r1
      have step : PostK K Wx ι1 G1 H1 σ (evalKs r env w1) fun kvs H2 => Q ((k, v1) :: kvs) H2 := by
        cases q2 : evalKs r env w1 with
        | bad => exact (show (Rs.bad : Rs (List (Key × DV))) = _ from rfl) ▸ (by
            have p' := p
            simp only [Rs.bind, q2] at p'
            exact p')
        | ex c w2 =>
          have p' := p
          simp only [Rs.bind, q2] at p'
          exact fun ι2 G2 H2 e2 s2 => p' ι2 G2 H2 (e1.trans e2) s2
        | ok ds w2 =>
          have p' := p
          simp only [Rs.bind, q2] at p'
          exact fun vs ι2 G2 H2 e2 s2 r2 => p' _ ι2 G2 H2 (e1.trans e2) s2 (.cons ⟨rfl, r1.mono e2⟩ r2)
      have := pairs_step (kxs := r) s1 (ev.mono e1) step
      refine tpairs_mono this ?_
      rintro ps H3 ⟨kvs, rfl, h⟩
      exact ⟨(k, v1) :: kvs, rfl, h⟩
where
  tpairs_mono : ∀ {kxs : List (Key × XM)} {H : Hp} {Q Q' : List (V × V) → Hp → Prop}, tPairs (trsOf K α Wx kxs) σ H Q → (∀ ps H, Q ps H → Q' ps H) → tPairs (trsOf K α Wx kxs) σ H Q' 
    | [], H, Q, Q', h, f => f _ _ h
    | (k, x) :: r, H, Q, Q', h, f => by
      obtain ⟨ι, G, w, env, s, ev, p⟩ := (show ∃ ι G w env, WS K ι G H w ∧ EnvR K α ι G σ env ∧ PostE K Wx ι G H σ (x env w) fun y H2 => tPairs (trsOf K α Wx r) σ H2 fun ps H3 => Q ((kV k, y) :: ps) H3 from h)
      refine ⟨ι, G, w, env, s, ev, ?_⟩
      show PostE K Wx ι G H σ (x env w) _
      cases q : x env w with
      | bad => rw [q] at p; exact p
      | ex c w1 => rw [q] at p; exact p
      | ok d w1 =>
        rw [q] at p
        exact fun v ι' G' H' e1 s1 r1 => tpairs_mono (p v ι' G' H' e1 s1 r1) fun ps H => f _ H
theorem rkv_merge {ι : List Addr} {G : Hp} : ∀ {vs : List (Key × V)} {ds : List (Key × DV)}, RKv K ι G vs ds → ∀ {gs : List (Key × V)} {fs : List (Key × DV)}, RKv K ι G gs fs → RKv K ι G (mergeK gs vs) (mergeKD fs ds)
  | _, _, .nil, _, _, r => r
  | _, _, .cons (a := (k, v)) (b := (k', d)) h t, gs, fs, r => by
    obtain ⟨e, rv⟩ := h
    simp only at e rv
    subst e
    exact rkv_merge t (rkv_putK rv r)
theorem x_disp {keys : List (Option Expr)} {values : List Expr} {kxs : List (Key × XM)} (h : DispOk X α Wx keys values kxs) (hall : keys.all (·.isSome) = true := by rfl) (hl : keys.length = values.length := by rfl) (h0 : keys ≠ [] := by simp) (h15 : keys.length ≤ 15 := by decide) :
    PE X (.Dict keys values pos) (cE X.K α Wx (xDisp kxs)) :=
  pe_imp (pe_disp h.pps hall hl h0 h15) fun σ H Q ⟨ι, G, w, env, s, ev, p⟩ a ha => by
    have E : Evo ι G H (ι ++ [a]) G (upd H a (.dK [])) := Evo.newL ha
    have s1 : WS X.K (ι ++ [a]) G (upd H a (.dK [])) (w ++ [.dct []]) := s.newL ha ⟨[], rfl, .nil⟩
    have ia : (ι ++ [a])[w.length]? = some a := by rw [← s.len]; simp
    have st : PostK X.K Wx (ι ++ [a]) G (upd H a (.dK [])) σ (evalKs kxs env (w ++ [.dct []])) fun kvs H2 => H2 a = some (.dK []) ∧ kvs.length ≤ 15 ∧ Q (.ref a) (upd H2 a (.dK (mergeK [] kvs))) := by
      unfold xDisp at p
      cases q : evalKs kxs env (w ++ [.dct []]) with
      | bad => rw [q] at p; exact p
      | ex c w1 =>
        rw [q] at p
        exact fun ι2 G2 H2 e2 s2 => p ι2 G2 H2 (E.trans e2) s2
      | ok ds w1 =>
        rw [q] at p
        intro vs ι2 G2 H2 e2 s2 r2
        have i2 : ι2[w.length]? = some a := by
          obtain ⟨n, en, _⟩ := e2.pre
          rw [en, List.getElem?_append_left (List.getElem?_eq_some_iff.mp ia).1]
          exact ia
        simp only [Rs.bind] at p
        split at p
        · rename_i hw
          split at p
          · rename_i hd
            obtain ⟨ks, o1, o2⟩ := s2.ob _ a _ i2 hw
            cases o2
            refine ⟨o1, by rw [Paired.length r2]; exact hd, ?_⟩
            exact p (.ref a) ι2 G2 _ ((E.trans e2).trans (Evo.write i2)) (s2.write i2 ⟨_, rfl, rkv_merge r2 .nil⟩) ⟨a, i2, rfl⟩
          · exact p.elim
        · exact p.elim
    have k := pairs_step s1 (ev.mono E) st
    refine pairs_step.tpairs_mono k ?_
    rintro ps H2 ⟨kvs, e, h1, h2, h3⟩
    exact ⟨h1, kvs, e, h2, h3⟩
theorem x_dget2 (hu : X.A.units + 1 < cLine) (ho : PE X o (cE X.K α Wx xo)) (he : PE X e (cE X.K α Wx xi)) (hf : PE X f (cE X.K α Wx xv)) (m : M2 X o "get" apos e f cpos := by exact ⟨rfl, rfl, rfl, rfl⟩) : PE X (.Call (.Attribute o "get" apos) [e, f] [] cpos) (cE X.K α Wx (xDGet2 xo xi xv)) :=
  pe_imp (pe_dget2 hu ho he hf m) fun σ H Q ⟨ι, G, w, env, s, ev, p⟩ => ⟨ι, G, w, env, s, ev, PostE.bind p fun d1 w1 v1 ι1 G1 H1 _ e1 s1 r1 p1 => by
    cases q : dctAt w1 d1 with
    | none => simp only [q] at p1; exact p1.elim
    | some t =>
      obtain ⟨l, kvs⟩ := t
      simp only [q] at p1
      obtain ⟨a, ks, rfl, rfl, h1, h2, h3⟩ := dct_of s1 r1 q
      refine ⟨a, rfl, .inl ⟨ks, .inl h2⟩, ι1, G1, w1, env, s1, ev.mono e1, PostE.bind p1 fun d2 w2 v2 ι2 G2 H2 _ e2 s2 r2 p2 => ⟨ι2, G2, w2, env, s2, (ev.mono e1).mono e2, PostE.bind p2 fun d3 w3 v3 ι3 G3 H3 _ e3 s3 r3 p3 => ?_⟩⟩
      cases q' : dctAt w3 (.loc l) with
      | none => simp only [q'] at p3; exact p3.elim
      | some t =>
        obtain ⟨l', kvs'⟩ := t
        cases q2 : keyD d2 with
        | none => simp only [q', q2] at p3; exact p3.elim
        | some k =>
          simp only [q', q2] at p3
          obtain ⟨a', ks', ea, el, h1', h2', h3'⟩ := dct_of s3 (((show RD X.K ι1 G1 (.ref a) (.loc l) from r1).mono e2).mono e3) q'
          cases ea
          cases el
          obtain rfl := key_of r2 q2
          refine ⟨_, DGet.k h2', ?_⟩
          cases q3 : valD kvs' k with
          | none =>
            simp only [q3] at p3
            rw [(rkv_val (k := k) h3').1 q3]
            exact p3 _ ι3 G3 H3 .refl s3 r3
          | some d =>
            simp only [q3] at p3
            obtain ⟨v', h4, h5⟩ := (rkv_val (k := k) h3').2 d q3
            rw [h4]
            exact p3 _ ι3 G3 H3 .refl s3 h5⟩
end
end RK

set_option Elab.async false
set_option linter.all false
set_option maxRecDepth 100000
set_option maxHeartbeats 4000000
/-! RKit, part M: a try whose last clause names the error, plain clauses ahead of it. -/
namespace RK
open PySem PySem.Spec PyProof.Rows L2
abbrev Sut := Value × (Addr → Value → Option Addr → TS)
/-- what the clauses want of an error: plain ones, at last the named one -/
def wMix (K : PySem.W.Frag) (i : Nat) (lst : Sut) (Wo : WX) (D : Ends) : List Sut → WX
  | [] => wAs K lst.1 i lst.2 Wo D
  | p :: r => fun cl d σ H => ∃ k, PySem.W.exmOne K cl p.1 = some k ∧ (k = true → ∀ z, H z = none → p.2 z cl d D σ H) ∧ (k = false → wMix K i lst Wo D r cl d σ H)
abbrev SuiteOk (X : Cx) (st : List Stmt) (ts : Addr → Value → Option Addr → TS) : Prop :=
  ∀ (z : Addr) (ob : Obj) (cl : Value) (d : Option Addr) (pn : List (Addr × Obj)), Zc cl d ob → (∃ fs, ob.data = .fields fs) → PSs (X.suite z ((z, ob) :: pn)) st (ts z cl d)
inductive HdsMix (X : Cx) (n : Str) (lst : Sut) : List ExceptHandler → List Sut → Prop
  | last {x : Str} {t₀ : Stmt} {tl : List Stmt} {p1 p2 : Pos} (nm : Names X x lst.1) (ok : SuiteOk X (t₀ :: tl) lst.2) : HdsMix X n lst [.ExceptHandler (some (.Name x p1)) (some n) (t₀ :: tl) p2] []
  | more {x : Str} {p : Sut} {t₀ : Stmt} {tl : List Stmt} {p1 p2 : Pos} {hs : List ExceptHandler} {l : List Sut} (nm : Names X x p.1) (ok : SuiteOk X (t₀ :: tl) p.2) (r : HdsMix X n lst hs l) : HdsMix X n lst (.ExceptHandler (some (.Name x p1)) none (t₀ :: tl) p2 :: hs) (p :: l)
section
variable {X : Cx} {n : Str} {i : Nat} {lst : Sut} {Wo : WX}
/-- the clauses, looked at one by one while the error is in flight -/
theorem mix_go (hst : X.stack = X.env :: X.outer) (fr : X.env.frame = some X.env.locals) (nd : X.N.Nodup) (at_ : X.N[i]? = some n) (lc : X.env.kindOf n = some .local) (tk : Takes X Wo)
    {pins : List (Addr × Obj)} {D : Ends} {z : Addr} {B : Heap} {s0 t : Shared} {σ : L2.St} {H : Hp} {cl : Value} {d : Option Addr} (ok : X.Ok) (J0 : Inv X pins σ H s0)
    (bare : ∀ b o, s0.heap.get? b = some o → b ∉ frs X.stack → B.get? b = some o) (ups : s0.heap.UpToSlots t.heap) (nz : H z = none) (sos : t.os = s0.os) (sag : AllBare t.gens)
    (fl : HandSPX.FlyingZ B (X.env :: X.outer) z (Zc cl d) t.heap) : ∀ {hs : List ExceptHandler} {l : List Sut}, HdsMix X n lst hs l → wMix X.K i lst Wo D l cl d σ H →
      wpAny (model X.prog X.w) X.A (handleBy (.ref z) X.env hs) (SP X pins D) X.xe t := by
  have frm : X.A.frames = some (X.env :: X.outer) := hst ▸ ok.frames
  have J : Inv X pins σ H t := J0.landed bare fl.1 ups sos sag
  obtain ⟨ob, fs, g1, g2, g3⟩ := fl.there
  -- the error is no frame of ours
  have nofr : z ∉ frs (X.env :: X.outer) := fun m => by
    obtain ⟨_, o2, g4, g5⟩ := fl.2.2.1.mem m
    rw [g1] at g4
    exact g5 fs (by cases g4; exact g3)
  have nloc : z ≠ X.env.locals := fun q => nofr (List.mem_filterMap.mpr ⟨_, List.mem_cons_self .., by rw [q]; exact fr⟩)
  have nfs : z ∉ X.fs := fun m => by
    obtain ⟨en, m1, m2⟩ := List.mem_filterMap.mp m
    exact nofr (List.mem_filterMap.mpr ⟨en, .tail _ m1, m2⟩)
  have JS := J.suite g1 g3 nz nloc nfs
  have look : PySem.W.Looks (model X.prog X.w) t.heap (typeOf (.ref z)) cl := fun _ _ _ _ k q => wpAny_typeOf_ref (k _ _ g1) (by rw [g2.1]; exact q)
  -- the clause's name is read
  have name : ∀ {x : Str} {c : Value} {p1 : Pos} {Q E : Value → Shared → Prop}, Names X x c → Q c t → wpAny (model X.prog X.w) (X.A.mark (some (.ref z))) (eval (.Name x p1) X.env) Q E t := fun nm q => by
    obtain ⟨e1, e2, e3⟩ := nm
    rcases e3 with e3 | ⟨e3, e4, e5⟩
    · exact ld_glob (X := X.suite z ((z, ob) :: (X.pn ++ pins))) JS e1 e3 q e2
    · exact ld_blt (X := X.suite z ((z, ob) :: (X.pn ++ pins))) JS e1 e3 e4 q e5 e2
  -- the error, flight off again: a suite may run
  have again : ∀ {A : Around} {Q : Unit → Shared → Prop} {E : Value → Shared → Prop}, (∀ t' ob', Inv X pins σ H t' → Zc cl d ob' → (∃ fs, ob'.data = .fields fs) → Inv (X.suite z ((z, ob') :: (X.pn ++ pins))) [] σ H t' → Q () t') → wpAny (model X.prog X.w) A (setFlight (.ref z) none) Q E t := fun {A Q E} k =>
    HandSPX.lands_againZ fl fun h4 fl4 u4 => by
      have J4 : Inv X pins σ H { t with heap := h4 } := J0.landed bare fl4.1 (ups.trans u4) sos sag
      obtain ⟨ob4, fs4, k1, k2, k3⟩ := fl4.there
      exact k _ ob4 J4 k2 ⟨_, k3⟩ (J4.suite k1 k3 nz nloc nfs)
  -- none fits: it goes on outwards
  have out : Wo cl d σ H → wpAny (model X.prog X.w) X.A (handleBy (.ref z) X.env []) (SP X pins D) X.xe t := fun wo => by
    refine wpAny_handleBy_nil ?_
    obtain ⟨_, _, _, o5, f5, T, oT, tt, m1, m2, m3, m4, _⟩ := id fl
    unfold PySem.passOn
    refine wpAny_bind (wpAny_field m1 m3 m4 ?_)
    rw [if_neg (show ¬ ((Value.ref T == Value.none) = true) by simp)]
    have last : wpAny (model X.prog X.w) X.A (setFlight (.ref z) X.env.frame) (fun _ t4 => wpAny (model X.prog X.w) X.A (throw (.ref z) : Sem Flow) (SP X pins D) X.xe t4) X.xe t := by
      rw [fr]
      refine HandSPX.setFlight_upZ fl fun h6 held u6 => wpAny_throw (tk _ _ ?_)
      exact ⟨z, B, s0, pins, σ, H, cl, d, rfl, J0, bare, ups.trans u6, .inr (.inr (by rw [hst]; exact held)), nz, sos, sag, wo⟩
    first
      | exact wpAny_bind last
      | exact wpAny_bind (wpAny_pure (wpAny_bind last))
  intro hs l hh
  induction hh with
  | last nm sok =>
    rintro ⟨k, k1, k2, k3⟩
    refine wpAny_handleBy_cons (codeAny_handlers_test (name nm ?_)) (fun q => by cases q)
    refine (PySem.W.exm_one (M := model X.prog X.w) J.kIn look k1).here ?_
    cases k with
    | false => exact out (k3 rfl)
    | true =>
      refine codeAny_handlers_suite_as (again fun t' ob' J' c1 c2 S' => ?_)
      refine store_ok (X := X.suite z ((z, ob') :: (X.pn ++ pins))) (v := .ref z) S' nd at_ (.inl lc) rfl (fun t5 S5 => ?_) (.inr lc)
      refine wpAny_mono ((sok z ob' cl d (X.pn ++ pins) c1 c2).run [] t5 _ H _ S5 (k2 rfl z nz)) (fun f t6 r => ?_) (fun _ _ q => q.elim)
      have off : ∀ {σ6 : L2.St} {H6 : Hp} {Q : Shared → Prop} {p2 : Pos}, Inv (X.suite z ((z, ob') :: (X.pn ++ pins))) [] σ6 H6 t6 → (∀ t7, Inv X pins (σ6.set i none) H6 t7 → Q t7) →
          wpAny (model X.prog X.w) X.A (do bindName X.env n .none; unbindBehindTheSuite X.env n p2) (fun _ t7 => Q t7) X.xe t6 := fun S6 q => gone_ok (S6.unsuite ok) nd at_ lc q
      cases f with
      | ret u =>
        obtain ⟨v6, σ6, H6, S6, r6, q6⟩ := r
        exact off S6 fun _ J7 => ⟨_, _, _, J7, r6, q6⟩
      | _ =>
        obtain ⟨σ6, H6, S6, q6⟩ := r
        exact off S6 fun _ J7 => ⟨_, _, J7, q6⟩
  | more nm sok r ih =>
    rintro ⟨k, k1, k2, k3⟩
    refine wpAny_handleBy_cons (codeAny_handlers_test (name nm ?_)) (fun q => by cases q)
    refine (PySem.W.exm_one (M := model X.prog X.w) J.kIn look k1).here ?_
    cases k with
    | false => exact ih (k3 rfl)
    | true =>
      refine codeAny_handlers_suite (again fun t' ob' J' c1 c2 S' => ?_)
      refine wpAny_mono ((sok z ob' cl d (X.pn ++ pins) c1 c2).run [] t' _ H _ S' (k2 rfl z nz)) (fun f t6 r => ?_) (fun _ _ q => q.elim)
      cases f with
      | ret u =>
        obtain ⟨v6, σ6, H6, S6, r6, q6⟩ := r
        exact ⟨_, _, _, S6.unsuite ok, r6, q6⟩
      | _ =>
        obtain ⟨σ6, H6, S6, q6⟩ := r
        exact ⟨_, _, S6.unsuite ok, q6⟩
theorem ps_try_mix {body : List Stmt} {h₀ : ExceptHandler} {hs : List ExceptHandler} {l : List Sut} {pos : Pos} {tb : WX → TS} (hst : X.stack = X.env :: X.outer) (fr : X.env.frame = some X.env.locals) (nd : X.N.Nodup) (at_ : X.N[i]? = some n) (lc : X.env.kindOf n = some .local) (tk : Takes X Wo)
    (hb : ∀ (W : WX) (pn : List (Addr × Obj)) (xe : Value → Shared → Prop), Takes (X.tr pn xe) W → PassesOwn (model X.prog X.w) X.A X.env xe → PSs (X.tr pn xe) body (tb W)) (hh : HdsMix X n lst (h₀ :: hs) l) :
    PS X (.Try body (h₀ :: hs) [] [] pos) (fun D σ H => tb (wMix X.K i lst Wo D l) D σ H) := by
  constructor
  intro pins s σ H D I w
  have ok := I.ok
  have frm : X.A.frames = some (X.env :: X.outer) := hst ▸ ok.frames
  let xe : Value → Shared → Prop := fun u s1 => wpAny (model X.prog X.w) X.A (noteFrame u X.env) (fun _ s2 => wpAny (model X.prog X.w) X.A (setFlight u none)
    (fun _ s3 => wpAny (model X.prog X.w) X.A (handleBy u X.env (h₀ :: hs)) (SP X pins D) X.xe s3) X.xe s2) X.xe s1
  have run := (hb (wMix X.K i lst Wo D l) (X.pn ++ pins) xe (fun u s1 q => by
    obtain ⟨z, B, s0, pn2, σ', H', cl, d, rfl, J', bare, ups, sky, nz, sos, sag, w'⟩ := q
    have sky' : Sky B (X.env :: X.outer) z (Zc cl d) X.env.locals s1.heap := hst ▸ sky
    refine Sky.land Zc.steady frm fr sky' fun h3 fl u3 => ?_
    exact mix_go (t := { s1 with heap := h3 }) hst fr nd at_ lc tk ok (J'.ofTry ok) bare (ups.trans u3) nz sos sag fl hh w') PassesOwn.looking).run [] s σ H D (I.toTry _) w
  refine wpAny_Try_except (wpAny_mono run (fun f s1 r => ?_) fun _ _ q => q)
  cases f with
  | next =>
    obtain ⟨σ', H', J', q⟩ := r
    exact wpAny_execs_nil ⟨_, _, J'.ofTry ok, q⟩
  | ret u =>
    obtain ⟨v, σ', H', J', r, q⟩ := r
    exact ⟨_, _, _, J'.ofTry ok, r, q⟩
  | _ =>
    obtain ⟨σ', H', J', q⟩ := r
    exact ⟨_, _, J'.ofTry ok, q⟩
end
/-! in the machine -/
def handleM (mt : Str → Str → Bool) (h : Str) (i : Nat) (sh : SM) : List (Str × SM) → Str → En → Wd → Rt
  | [], c, e, w => if mt c h = true then clrR (fun e => (clr e).set i none) (sh ((clr e).set i (some (.exc c))) w) else .ex c e w
  | (h', s) :: r, c, e, w => if mt c h' = true then clrR clr (s (clr e) w) else handleM mt h i sh r c e w
def sTryM (mt : Str → Str → Bool) (errs : List Str) (sb : SM) (hds : List (Str × SM)) (h : Str) (i : Nat) (sh : SM) : SM := fun e w => match sb e w with
  | .ex c e1 w1 => if c ∈ errs then handleM mt h i sh hds c e1 w1 else .bad
  | r => r
section
variable {K : PySem.W.Frag} {α : Addr × Str} {Wx : WX} {ι : List Addr} {G H : Hp} {D : Ends}
def lastT (K : PySem.W.Frag) (errs : List Str) (h : Str) (sh : SM) : Sut := (.ref (He.ga K h), fun a cls d D σ H => ∃ c ∈ errs, cls = .ref (He.ga K c) ∧ d = none ∧ cS K (a, c) noX sh D σ H)
theorem handle_mix {mt : Str → Str → Bool} {errs : List Str} {h : Str} {i : Nat} {sh : SM} {c : Str} {e : En} {w : Wd} {σ : L2.St} (hc : c ∈ errs) (hl : MtOk K mt errs h) : ∀ {hds : List (Str × SM)}, (∀ h ∈ hds, MtOk K mt errs h.1) → WS K ι G H w → EnvR K α ι G σ e →
    PostS K α Wx ι G H (handleM mt h i sh hds c e w) D → wMix K i (lastT K errs h sh) Wx D (hdT K hds) (.ref (He.ga K c)) none σ H
  | [], _, sw, ev, p => by
    refine ⟨mt c h, hl c hc, fun hb a ha => ?_, fun hb => ?_⟩
    · unfold handleM at p
      rw [if_pos hb] at p
      refine ⟨c, hc, rfl, rfl, ι, G, w, (clr e).set i (some (.exc c)), sw, ev.clr.set (show SlotR K (a, c) ι G (some (.ref a)) (some (.exc c)) from ⟨rfl, rfl⟩) i, ?_⟩
      exact clr_post (g := fun σ => σ.set i none) (fun ev => ev.clr.set (s := none) (d := none) trivial i) p
    · unfold handleM at p
      rw [if_neg (by rw [hb]; decide)] at p
      exact p σ ι G H .refl sw ev
  | (h', s) :: r, hm, sw, ev, p => by
    refine ⟨mt c h', hm (h', s) (List.mem_cons_self ..) c hc, fun hb a ha => ?_, fun hb => ?_⟩
    · unfold handleM at p
      rw [if_pos hb] at p
      exact ⟨ι, G, w, clr e, sw, ev.clr, clr_post (g := id) (fun ev => ev.clr) p⟩
    · unfold handleM at p
      rw [if_neg (by rw [hb]; decide)] at p
      exact handle_mix hc hl (fun h hh => hm h (List.mem_cons_of_mem _ hh)) sw ev p
end
section
variable {X : Cx} {α : Addr × Str} {Wx : WX} {body : List Stmt} {h₀ : ExceptHandler} {hs : List ExceptHandler} {pos : Pos} {mt : Str → Str → Bool} {errs : List Str} {sb sh : SM} {hds : List (Str × SM)} {h n : Str} {i : Nat}
theorem s_tryM (h1 : X.stack = X.env :: X.outer) (h2 : X.env.frame = some X.env.locals) (hN : X.N.Nodup) (hi : X.N[i]? = some n) (hln : X.env.kindOf n = some .local) (tk : Takes X Wx) (hm : ∀ h ∈ hds, MtOk X.K mt errs h.1) (hl : MtOk X.K mt errs h)
    (hb : ∀ (W : WX) (pn : List (Addr × Obj)) (xe : Value → Shared → Prop), Takes (X.tr pn xe) W → PassesOwn (model X.prog X.w) X.A X.env xe → PSs (X.tr pn xe) body (cS X.K α W sb))
    (hh : HdsMix X n (lastT X.K errs h sh) (h₀ :: hs) (hdT X.K hds)) : PS X (.Try body (h₀ :: hs) [] [] pos) (cS X.K α Wx (sTryM mt errs sb hds h i sh)) :=
  ps_imp (ps_try_mix (tb := fun W => cS X.K α W sb) (Wo := Wx) h1 h2 hN hi hln tk hb hh) fun D σ H ⟨ι, G, w, env, sw, ev, p⟩ => by
    refine ⟨ι, G, w, env, sw, ev, ?_⟩
    unfold sTryM at p
    cases q : sb env w with
    | bad => rw [q] at p; exact p
    | ok c w1 =>
      rw [q] at p
      cases c <;> exact p
    | ex c e1 w1 =>
      rw [q] at p
      simp only at p
      split at p
      · rename_i hc
        exact fun σ' ι' G' H' E1 S1 EV1 => handle_mix hc hl hm S1 EV1 (PostS.mono E1 p)
      · exact p.elim
theorem last_ok {x : Str} {t₀ : Stmt} {tl : List Stmt} {p1 p2 : Pos} (nm : Names X x (.ref (He.ga X.K h)))
    (hsu : ∀ c ∈ errs, ∀ (a : Addr) (oe : Obj) (pn : List (Addr × Obj)), Zc (.ref (He.ga X.K c)) none oe → (∃ vs, oe.data = .fields vs) → PSs (X.suite a ((a, oe) :: pn)) (t₀ :: tl) (cS X.K (a, c) noX sh)) :
    HdsMix X n (lastT X.K errs h sh) [.ExceptHandler (some (.Name x p1)) (some n) (t₀ :: tl) p2] [] :=
  .last nm fun a oe cls d pn hz hf => ⟨fun pins s σ H D I q => by
    obtain ⟨c, hce, rfl, rfl, q⟩ := q
    exact (hsu c hce a oe pn hz hf).run pins s σ H D I q⟩
end
end RK

set_option Elab.async false
set_option linter.all false
set_option maxRecDepth 100000
set_option maxHeartbeats 4000000
/-! RKit, part N: calls without arguments that raise nothing. -/
namespace RK
open PySem PySem.Spec PyProof.Rows L2
def xCallW0 (f : FW) : XM := fun _ w => match f [] w with
  | .ok d w1 => .ok d w1
  | _ => .bad
section
variable {X : Cx} {α : Addr × Str} {Wx : WX} {x : Str} {p pos : Pos} {k : Nat} {fw : FW}
theorem x_callW0 (F : Fn X.prog X.w X.K X.mg X.base x k (spW X.K 0 fw)) (hr : Room k X.A) (tk : Takes X Wx) (hg : Gl X x) (hdb : (x == ("__debug__" : Str)) = false := by decide) :
    PE X (.Call (.Name x p) [] [] pos) (cE X.K α Wx (xCallW0 fw)) := by
  obtain ⟨m, kp, fd, ps, ok, bd⟩ := F
  refine pe_imp (pe_call0 (E := fun _ _ _ => False) (dvs := []) ok hr hg m kp bd .nil (passes_call tk fun _ _ _ _ h => h.elim) hdb) fun σ H Q ⟨ι, G, w, env, s, ev, q⟩ => ?_
  refine ⟨rfl, ι, G, w, [], s, .nil, ?_⟩
  unfold xCallW0 at q
  cases e : fw [] w with
  | bad => rw [e] at q; exact q
  | ex c w1 => rw [e] at q; exact q.elim
  | ok d w1 => rw [e] at q; exact q
end
end RK

set_option Elab.async false
set_option linter.all false
set_option maxRecDepth 100000
set_option maxHeartbeats 4000000
/-! RKit, part O: a comprehension over a list of the store of which no item passes the test. -/
namespace RK
open PySem PySem.Spec PyProof.Rows L2
open Classical in
noncomputable def xLcN (j : Nat) (x : XM) (t : XM) : XM := fun e w => (x e w).bind fun d w1 => match d with
  | .loc l => match w1[l]? with
    | some (.lst xs) => if ∀ d ∈ xs, t ((e.set j none).set j (some d)) w1 = .ok (.d (.bool false)) w1 then .ok (.d (.list [])) w1 else .bad
    | _ => .bad
  | _ => .bad
section
variable {K : PySem.W.Frag} {Wx : WX} {α : Addr × Str}
theorem lcN_read {σ : L2.St} {H : Hp} {j : Nat} {x t s : XM} {Q : VK} (h : cE K α Wx (xLcN j x t) σ H Q) : tLc (iList K (cE K α Wx x)) (gName j) (ttL K α (some t)) (cE K α noX s) [j] σ H Q := by
  obtain ⟨ι, G, w, env, sw, ev, p⟩ := h
  refine ⟨ι, G, w, env, sw, ev, PostE.bind p fun d1 w1 v1 ι1 G1 H1 _ e1 s1 r1 p1 => ?_⟩
  cases d1 with
  | exc c => exact p1.elim
  | d z => exact p1.elim
  | loc l =>
    obtain ⟨a, h1, rfl⟩ := r1
    simp only at p1
    cases q : w1[l]? with
    | none => rw [q] at p1; exact p1.elim
    | some o =>
      rw [q] at p1
      cases o with
      | lst xs =>
        simp only at p1
        split at p1
        · rename_i hall
          obtain ⟨vs, f1, f2⟩ := s1.ob l a _ h1 q
          refine ⟨a, rfl, ⟨vs, Evl.sq_of f1⟩, fun D hD => ?_⟩
          have ev1 := ev.mono e1
          have hDi : D ∉ ι1 := fun m => s1.dom m hD
          have hG : G1 D = none := Evl.fresh_back s1.sub hD
          refine ⟨fun i m H => m = xs.length - i ∧ i ≤ xs.length ∧ ∃ ι G, WS K ι G H w1 ∧ Evo ι1 G1 H1 ι G H ∧ D ∉ ι ∧ G D = none ∧ H D = some (.lst []), ⟨xs.length, by simp, Nat.zero_le _, ι1, G1, s1.updN hDi hG, Evo.refl.updN hD, hDi, hG, upd_same⟩, ?_⟩
          rintro i m H2 ⟨rfl, hi, ι2, G2, ws, eo, hD2, hG2, hv⟩
          have h2 : ι2[l]? = some a := by
            obtain ⟨n, e, _⟩ := eo.pre
            rw [e, List.getElem?_append_left (List.getElem?_eq_some_iff.mp h1).1]
            exact h1
          obtain ⟨us, g1, g2⟩ := ws.ob l a _ h2 q
          by_cases hlt : i < xs.length
          · obtain ⟨v, f3, f4⟩ := rds_at g2 (show xs[i]? = some xs[i] by simp [hlt])
            refine .inr ⟨⟨us, v, Evl.sq_of g1, f3⟩, fun H' => ∃ ι G, WS K ι G H' w1 ∧ Evo ι1 G1 H1 ι G H' ∧ D ∉ ι ∧ G D = none ∧ H' D = some (.lst []), fun H' p' => ⟨xs.length - (i + 1), by omega, rfl, hlt, p'⟩, fun x H' y => ?_⟩
            obtain ⟨e, y⟩ := y
            subst e
            have hx := y us (Evl.sq_of g1)
            rw [hx] at f3
            cases f3
            have ev2 : EnvR K α ι2 G2 ((σ.set j none).set j (some v)) ((env.set j none).set j (some xs[i])) := EnvR.set (SlotR.of f4) j (EnvR.set (show SlotR K α ι2 G2 none none from trivial) j (ev1.mono eo))
            refine ⟨by show ((σ.set j none).set j (some v)).set j none = σ.set j none; rw [List.set_set, List.set_set], ι2, G2, w1, _, ws, ev2, ?_⟩
            rw [hall xs[i] (List.getElem_mem _)]
            intro v' ι3 G3 H3 e3 s3 r3
            cases r3
            refine ⟨false, rfl, ?_⟩
            show ∃ ι G, WS K ι G H3 w1 ∧ Evo ι1 G1 H1 ι G H3 ∧ D ∉ ι ∧ G D = none ∧ H3 D = some (.lst [])
            exact ⟨ι3, G3, s3, eo.trans e3, e3.notin hD2 hv, by rw [e3.gn D (by rw [hv]; exact fun h => by cases h)]; exact hG2, e3.h D _ hD2 hv⟩
          · left
            refine ⟨⟨us, Evl.sq_of g1, by rw [rds_len g2]; omega⟩, ?_⟩
            have ws2 := ws.rmv hD2 hG2
            have eo2 := eo.rmv hD
            have hz : RK.rmv H2 D D = none := rmv_same
            have hu : upd (RK.rmv H2 D) D (.lst []) = H2 := rmv_upd hv
            refine p1 (.ref D) ι2 (upd G2 D (.lst [])) H2 ?_ ?_ ?_
            · have := eo2.trans (Evo.newD (o := .lst []) ws2.sub hz)
              rw [hu] at this; exact this
            · have := ws2.newD (o := .lst []) hz
              rw [hu] at this; exact this
            · exact Dp.lst (Evl.sq_of upd_same) .nil
        · exact p1.elim
      | _ => exact p1.elim
variable {X : Cx} {elt iter : Expr} {ifs : List Expr} {scope : Scope} {y : Str} {py pos : Pos} {j : Nat} {xa s t : XM}
theorem x_lcN (hc : X.calm = true) (hN : X.N.Nodup) (hx : PE X iter (cE X.K α Wx xa)) (ok : BlkOk X.N X.env.scope scope [(y, j)])
    (hg : ∀ (s : Shared) (H : Hp) (C : Addr) (cl : List (Str × Addr)) (fp : List Addr), PG (X.blk s H scope (compEnvC scope cl C X.env) fp) (.Name y py) (gName j)) (ht : ∀ (s : Shared) (H : Hp) (C : Addr) (cl : List (Str × Addr)) (fp : List Addr), PTs (X.blk s H scope (compEnvC scope cl C X.env) fp) ifs (ttL X.K α (some t)))
    (he : ∀ (s_ : Shared) (H : Hp) (C : Addr) (cl : List (Str × Addr)) (fp : List Addr), PE (X.blk s_ H scope (compEnvC scope cl C X.env) fp) elt (cE X.K α noX s)) (hs : ∀ x, foldedSetIterable iter X.env x = pure x := by intro _; rfl) :
    PE X (.ListComp elt [⟨.Name y py, iter, ifs, 0⟩] scope pos) (cE X.K α Wx (xLcN j xa t)) := pe_imp (pe_lc hc hN (pi_list hx) ok hg ht he hs) fun _ _ _ h => lcN_read h
end
end RK

set_option Elab.async false
set_option linter.all false
set_option maxRecDepth 100000
set_option maxHeartbeats 4000000
/-! RKit, part P: dicts with tuples as keys, xs[::-1], max of a list. -/
namespace RK
open PySem PySem.Spec PyProof.Rows L2
abbrev LKey := List Key
def valT (kvs : List (LKey × DV)) (k : LKey) : Option DV := (kvs.find? fun kv => decide (kv.1 = k)).map (·.2)
def putKT (kvs : List (LKey × DV)) (k : LKey) (v : DV) : List (LKey × DV) :=
  if (kvs.any fun kv => decide (kv.1 = k)) = true then kvs.map (fun kv => if kv.1 = k then (kv.1, v) else kv) else kvs ++ [(k, v)]
def dctTAt (w : Wd) : DV → Option (Nat × List (LKey × DV))
  | .loc l => match w[l]? with
    | some (.dcT kvs) => some (l, kvs)
    | _ => none
  | _ => none
def keysD : List DV → Option LKey
  | [] => some []
  | d :: ds => match keyD d, keysD ds with
    | some k, some ks => some (k :: ks)
    | _, _ => none
def keyTD (w : Wd) : DV → Option LKey
  | .loc l => match w[l]? with
    | some (.tup xs) => keysD xs
    | _ => none
  | _ => none
def xTDNew : XM := fun _ w => .ok (.loc w.length) (w ++ [.dcT []])
def xTDNotIn (y x : XM) : XM := fun e w => (y e w).bind fun k w1 => (x e w1).bind fun d w2 => match dctTAt w2 d, keyTD w2 k with
  | some (_, kvs), some k => .ok (.d (.bool (!(valT kvs k).isSome))) w2
  | _, _ => .bad
def sTDPut (x y v : XM) : SM := fun e w => (v e w).st e fun v w1 => (x e w1).st e fun d w2 => (y e w2).st e fun k w3 => match dctTAt w3 d, keyTD w3 k with
  | some (l, kvs), some k => if kvs.length < 100000 then .ok (.nx e) (w3.set l (.dcT (putKT kvs k v))) else .bad
  | _, _ => .bad
def maxI : List Int → Int
  | [] => 0
  | n :: ns => ns.foldl (fun m k => if m < k then k else m) n
def oMaxL : List DV → Wd → Rs DV
  | [x], w => match itemsD w x with
    | some ds => match intsOf ds with
      | some ns => if 0 < ns.length then .ok (.d (.int (maxI ns))) w else .bad
      | none => .bad
    | none => .bad
  | _, _ => .bad
def xRevL (x : XM) : XM := fun e w => (x e w).bind fun d w1 => match itemsD w1 d with
  | some ds => .ok (.d (.list ds.reverse)) w1
  | none => .bad
section
variable {K : PySem.W.Frag} {Wx : WX} {α : Addr × Str}
theorem dctT_of {ι : List Addr} {G H : Hp} {w : Wd} {v : V} {d : DV} {l : Nat} {kvs : List (LKey × DV)} (s : WS K ι G H w) (r : RD K ι G v d) (h : dctTAt w d = some (l, kvs)) :
    ∃ a ks, v = .ref a ∧ d = .loc l ∧ ι[l]? = some a ∧ H a = some (.dT ks) ∧ RKv K ι G ks kvs := by
  cases d with
  | d z => cases h
  | exc z => cases h
  | loc l' =>
    obtain ⟨a, h1, rfl⟩ := r
    unfold dctTAt at h
    cases q : w[l']? with
    | none => simp only [q] at h; cases h
    | some o =>
      simp only [q] at h
      cases o with
      | dcT kvs' =>
        cases h
        obtain ⟨ks, h2, h3⟩ := s.ob _ a _ h1 q
        exact ⟨a, ks, rfl, rfl, h1, h2, h3⟩
      | _ => cases h
theorem keysD_of {ι : List Addr} {G : Hp} : ∀ {xs : List DV} {vs : List V} {k : LKey}, RDs K ι G vs xs → keysD xs = some k → vs = k.map kV
  | [], _, k, r, h => by cases r; cases h; rfl
  | x :: xs, _, k, r, h => by
    cases r with
    | cons r1 r2 =>
      rw [keysD] at h
      cases q1 : keyD x with
      | none => rw [q1] at h; cases h
      | some k1 =>
        cases q2 : keysD xs with
        | none => rw [q1, q2] at h; cases h
        | some k2 =>
          rw [q1, q2] at h
          cases h
          rw [List.map_cons, ← key_of r1 q1, ← keysD_of r2 q2]
theorem keyT_of {ι : List Addr} {G H : Hp} {w : Wd} {v : V} {d : DV} {k : LKey} (s : WS K ι G H w) (r : RD K ι G v d) (h : keyTD w d = some k) : ∃ b, v = .ref b ∧ H b = some (.tup (k.map kV)) := by
  cases d with
  | d z => cases h
  | exc z => cases h
  | loc l =>
    obtain ⟨a, h1, rfl⟩ := r
    unfold keyTD at h
    cases q : w[l]? with
    | none => simp only [q] at h; cases h
    | some o =>
      simp only [q] at h
      cases o with
      | tup xs =>
        obtain ⟨vs, h2, h3⟩ := s.ob _ a _ h1 q
        exact ⟨a, rfl, by rw [h2, keysD_of h3 h]⟩
      | _ => cases h
theorem tkv_val {ι : List Addr} {G : Hp} {k : LKey} : ∀ {gs : List (LKey × V)} {fs : List (LKey × DV)}, RKv K ι G gs fs → (valV gs k).isSome = (valT fs k).isSome
  | [], _, r => by
    cases r
    rfl
  | (g, x) :: gs, fs, r => by
    cases r with
    | cons r1 r2 =>
      rename_i q qs
      obtain ⟨g', y⟩ := q
      obtain ⟨e, ry⟩ := r1
      simp only at e ry
      subst e
      by_cases b : g = k
      · rw [valV_pos (p := (g, x)) b]
        unfold valT
        rw [List.find?_cons_of_pos (by simpa using b)]
        rfl
      · rw [valV_neg (p := (g, x)) b]
        unfold valT
        rw [List.find?_cons_of_neg (by simpa using b)]
        exact tkv_val r2
theorem tkv_any {ι : List Addr} {G : Hp} {k : LKey} : ∀ {gs : List (LKey × V)} {fs : List (LKey × DV)}, RKv K ι G gs fs → (gs.any fun kv => decide (kv.1 = k)) = (fs.any fun kv => decide (kv.1 = k))
  | [], _, r => by cases r; rfl
  | (g, x) :: gs, fs, r => by
    cases r with
    | cons r1 r2 =>
      rename_i q qs
      obtain ⟨g', y⟩ := q
      obtain ⟨e, ry⟩ := r1
      simp only at e ry
      subst e
      rw [List.any_cons, List.any_cons, tkv_any r2]
theorem tkv_map {ι : List Addr} {G : Hp} {k : LKey} {v : V} {d : DV} (rv : RD K ι G v d) : ∀ {gs : List (LKey × V)} {fs : List (LKey × DV)}, RKv K ι G gs fs → RKv K ι G (gs.map fun kv => if kv.1 = k then (kv.1, v) else kv) (fs.map fun kv => if kv.1 = k then (kv.1, d) else kv)
  | [], _, r => by cases r; exact .nil
  | (g, x) :: gs, fs, r => by
    cases r with
    | cons r1 r2 =>
      rename_i q qs
      obtain ⟨g', y⟩ := q
      obtain ⟨e, ry⟩ := r1
      simp only at e ry
      subst e
      rw [List.map_cons, List.map_cons]
      refine .cons ?_ (tkv_map rv r2)
      by_cases b : g = k
      · simp only [if_pos b]
        exact ⟨trivial, rv⟩
      · simp only [if_neg b]
        exact ⟨trivial, ry⟩
theorem tkv_app {ι : List Addr} {G : Hp} {k : LKey} {v : V} {d : DV} (rv : RD K ι G v d) : ∀ {gs : List (LKey × V)} {fs : List (LKey × DV)}, RKv K ι G gs fs → RKv K ι G (gs ++ [(k, v)]) (fs ++ [(k, d)])
  | [], _, r => by cases r; exact .cons ⟨rfl, rv⟩ .nil
  | (g, x) :: gs, fs, r => by
    cases r with
    | cons r1 r2 => exact .cons r1 (tkv_app rv r2)
theorem tkv_putK {ι : List Addr} {G : Hp} {k : LKey} {v : V} {d : DV} (rv : RD K ι G v d) {gs : List (LKey × V)} {fs : List (LKey × DV)} (r : RKv K ι G gs fs) : RKv K ι G (putK gs k v) (putKT fs k d) := by
  unfold putK putKT
  rw [tkv_any (k := k) r]
  split
  · exact tkv_map rv r
  · exact tkv_app rv r
variable {X : Cx} {o i value e : Expr} {pos pos' : Pos} {xo xi xv xa : XM}
theorem x_tdnew : PE X (.Dict [] [] pos) (cE X.K α Wx xTDNew) :=
  pe_imp pe_dnewT fun σ H Q ⟨ι, G, w, env, s, ev, p⟩ a ha => p (.ref a) _ G _ (Evo.newL ha) (s.newL ha ⟨[], rfl, .nil⟩) ⟨a, by rw [← s.len]; simp, rfl⟩
theorem tdnotin_step {σ : L2.St} {H : Hp} {Q : VK} (h : cE K α Wx (xTDNotIn xi xo) σ H Q) : tDNotIn (cE K α Wx xi) (cE K α Wx xo) σ H Q := by
  obtain ⟨ι, G, w, env, s, ev, p⟩ := h
  refine ⟨ι, G, w, env, s, ev, PostE.bind p fun d1 w1 v1 ι1 G1 H1 _ e1 s1 r1 p1 => ⟨ι1, G1, w1, env, s1, ev.mono e1, PostE.bind p1 fun d2 w2 v2 ι2 G2 H2 _ e2 s2 r2 p2 => ?_⟩⟩
  cases q : dctTAt w2 d2 with
  | none => simp only [q] at p2; exact p2.elim
  | some t =>
    obtain ⟨l, kvs⟩ := t
    cases q2 : keyTD w2 d1 with
    | none => simp only [q, q2] at p2; exact p2.elim
    | some k =>
      simp only [q, q2] at p2
      obtain ⟨a, ks, rfl, rfl, h1, h2, h3⟩ := dctT_of s2 r2 q
      obtain ⟨b, rfl, hb⟩ := keyT_of s2 (r1.mono e2) q2
      exact ⟨a, _, rfl, DGet.t h2 hb, by rw [tkv_val (k := k) h3]; exact p2 _ ι2 G2 H2 .refl s2 (.bl _)⟩
theorem x_tdnotin (hu : X.A.units + 1 < cLine) (hi : PE X i (cE X.K α Wx xi)) (ho : PE X o (cE X.K α Wx xo)) (hm : behindInMarks .NotIn o = false := by rfl) : PE X (.Compare i [.NotIn] [o] pos) (cE X.K α Wx (xTDNotIn xi xo)) := pe_imp (pe_cmp (pc_dnotin hu hi ho) hm) fun _ _ _ h => tdnotin_step h
theorem t_tdnotin (hu : X.A.units + 1 < cLine) (hi : PE X i (cE X.K α Wx xi)) (ho : PE X o (cE X.K α Wx xo)) (hm : behindInMarks .NotIn o = false := by rfl) : PT X (.Compare i [.NotIn] [o] pos) (cT X.K α Wx (xTDNotIn xi xo)) := pt_imp (pt_cmp (pc_dnotin hu hi ho) hm) fun _ _ _ h => tB_of tdnotin_step h
theorem s_tdput (hu : X.A.units + 1 < cLine) (ho : PE X o (cE X.K α Wx xo)) (hi : PE X i (cE X.K α Wx xi)) (hv : PE X value (cE X.K α Wx xv)) (hs : swapsWith value (some (.Subscript o i pos')) pos.line X.env = pure false := by rfl) :
    PS X (.Assign [.Subscript o i pos'] value pos) (cS X.K α Wx (sTDPut xo xi xv)) :=
  ps_imp (ps_dput hu ho hi hv hs) fun D σ H ⟨ι, G, w, env, sw, ev, p⟩ => ⟨ι, G, w, env, sw, ev, PostS.st p ev fun y w1 vy ι1 G1 H1 _ e1 s1 ry p1 => ⟨ι1, G1, w1, env, s1, ev.mono e1, PostS.st p1 (ev.mono e1) fun d2 w2 v2 ι2 G2 H2 _ e2 s2 r2 p2 => ⟨ι2, G2, w2, env, s2, (ev.mono e1).mono e2, PostS.st p2 ((ev.mono e1).mono e2) fun d3 w3 v3 ι3 G3 H3 _ e3 s3 r3 p3 => by
    cases q : dctTAt w3 d2 with
    | none => simp only [q] at p3; exact p3.elim
    | some t =>
      obtain ⟨l, kvs⟩ := t
      cases q2 : keyTD w3 d3 with
      | none => simp only [q, q2] at p3; exact p3.elim
      | some k =>
        simp only [q, q2] at p3
        split at p3
        · rename_i hl
          obtain ⟨a, ks, rfl, rfl, h1, h2, h3⟩ := dctT_of s3 (r2.mono e3) q
          obtain ⟨b, rfl, hb⟩ := keyT_of s3 r3 q2
          refine ⟨a, _, rfl, DPut.t h2 hb (Evl.sz_lt (by rw [Paired.length h3]; exact hl)), ?_⟩
          exact p3 _ ι3 G3 _ (Evo.write h1) (s3.write h1 ⟨_, rfl, tkv_putK ((ry.mono e2).mono e3) h3⟩) (((ev.mono e1).mono e2).mono e3)
        · exact p3.elim⟩⟩⟩
theorem dps_rev {G : Hp} {vs : List V} {ds : List PyData} (h : DpAll K G vs ds) : DpAll K G vs.reverse ds.reverse := by
  have app : ∀ {a : List V} {b : List PyData} {c : List V} {d : List PyData}, DpAll K G a b → DpAll K G c d → DpAll K G (a ++ c) (b ++ d) := by
    intro a
    induction a with
    | nil => intro b c d h1 h2; cases h1; exact h2
    | cons x a ih => intro b c d h1 h2; cases h1 with | cons h3 h4 => exact .cons h3 (ih h4 h2)
  have go : ∀ (vs : List V) (ds : List PyData), DpAll K G vs ds → DpAll K G vs.reverse ds.reverse := by
    intro vs
    induction vs with
    | nil => intro ds h; cases h; exact .nil
    | cons x a ih => intro ds h; cases h with | cons h3 h4 => rw [List.reverse_cons, List.reverse_cons]; exact app (ih _ h4) (.cons h3 .nil)
  exact go _ _ h
theorem x_revL {k : Nat} {p1 p2 p3 : Pos} (he : PE X e (cE X.K α Wx xa)) : PE X (.Subscript e (.Slice none none (some (.UnaryOp .USub (.Constant (.int 1) k p1) p2)) p3) pos) (cE X.K α Wx (xRevL xa)) :=
  pe_imp (pe_revL he) fun σ H Q ⟨ι, G, w, env, s, ev, p⟩ => ⟨ι, G, w, env, s, ev, PostE.bind p fun d1 w1 v1 ι1 G1 H1 _ e1 s1 r1 p1 => by
    cases h : itemsD w1 d1 with
    | none => simp only [h] at p1; exact p1.elim
    | some ds =>
      simp only [h] at p1
      obtain ⟨a, vs, rfl, f1, f2⟩ := items_dp s1 r1 h
      exact ⟨a, vs, rfl, f1, fun q hq => p1 _ ι1 _ _ (Evo.newD s1.sub hq) (s1.newD hq) (.lst (Evl.sq_of upd_same) (dps_rev (dp_monos (Evl.Ex.new (Evl.fresh_back s1.sub hq)) _ _ f2)))⟩⟩
theorem maxI_spec : ∀ (ns : List Int) (n : Int), (ns.foldl (fun m k => if m < k then k else m) n ∈ n :: ns) ∧ ∀ y ∈ n :: ns, y ≤ ns.foldl (fun m k => if m < k then k else m) n
  | [], n => ⟨List.mem_cons_self .., fun y h => by rw [List.mem_singleton] at h; subst h; exact Int.le_refl _⟩
  | a :: ns, n => by
    obtain ⟨h1, h2⟩ := maxI_spec ns (if n < a then a else n)
    rw [List.foldl_cons]
    refine ⟨?_, fun y hy => ?_⟩
    · rcases List.mem_cons.mp h1 with h | h
      · rw [h]
        split
        · exact List.mem_cons_of_mem _ (List.mem_cons_self ..)
        · exact List.mem_cons_self ..
      · exact List.mem_cons_of_mem _ (List.mem_cons_of_mem _ h)
    · have h3 := h2 _ (List.mem_cons_self ..)
      rcases List.mem_cons.mp hy with rfl | hy
      · refine Int.le_trans ?_ h3
        split <;> omega
      · rcases List.mem_cons.mp hy with rfl | hy
        · refine Int.le_trans ?_ h3
          split <;> omega
        · exact h2 y (List.mem_cons_of_mem _ hy)
theorem maxI_mem {ns : List Int} (h : 0 < ns.length) : maxI ns ∈ ns := by
  cases ns with
  | nil => cases h
  | cons n ns => exact (maxI_spec ns n).1
theorem maxI_le {ns : List Int} {y : Int} (h : y ∈ ns) : y ≤ maxI ns := by
  cases ns with
  | nil => cases h
  | cons n ns => exact (maxI_spec ns n).2 y h
theorem k_maxL : CallOk K Wx oMaxL (rMax K) := by
  intro ι G H w σ vs ds Q s r p
  unfold oMaxL at p
  split at p
  · split at p
    · rename_i x ds h
      split at p
      · rename_i ns hn
        split at p
        · rename_i hl
          obtain ⟨v, rfl, hv⟩ := one_v r
          obtain ⟨a, us, rfl, f1, f2⟩ := items_dp s hv h
          have e := ints_vs f2 hn
          subst e
          refine ⟨a, ns, rfl, f1, hl, fun m hm hle => ?_⟩
          have : m = maxI ns := Int.le_antisymm (maxI_le hm) (hle _ (maxI_mem hl))
          subst this
          exact p _ ι G H .refl s (.int _)
        · exact p.elim
      · exact p.elim
    · exact p.elim
  · exact p.elim
end
end RK

set_option Elab.async false
set_option linter.all false
set_option maxRecDepth 100000
set_option maxHeartbeats 4000000
namespace LW
open PySem PySem.Spec PyProof.Rows L2 RK
def top (i : Nat) : Stmt := PySem.Challenge.pw_rentroll_k14_whole_told_late.main.body.getD i (.Pass ⟨0, 0, 0, 0⟩)
abbrev st_law_mix : Stmt := top 51
abbrev n_law_mix : List Str := [(PySem.Str.ofString "_law_number_here"), (PySem.Str.ofString "_law_k"), (PySem.Str.ofString "_law_more")]
abbrev p_law_mix : List Str := [(PySem.Str.ofString "_law_number_here"), (PySem.Str.ofString "_law_k")]
abbrev st_law_room : Stmt := top 56
abbrev n_law_room : List Str := [(PySem.Str.ofString "_law_script"), (PySem.Str.ofString "_law_small"), (PySem.Str.ofString "_law_great")]
abbrev p_law_room : List Str := [(PySem.Str.ofString "_law_script"), (PySem.Str.ofString "_law_small"), (PySem.Str.ofString "_law_great")]
abbrev st_law_money : Stmt := top 53
abbrev n_law_money : List Str := [(PySem.Str.ofString "_law_cell")]
abbrev p_law_money : List Str := [(PySem.Str.ofString "_law_cell")]
abbrev st_law_number : Stmt := top 54
abbrev n_law_number : List Str := [(PySem.Str.ofString "_law_cell")]
abbrev p_law_number : List Str := [(PySem.Str.ofString "_law_cell")]
abbrev st_law_some : Stmt := top 57
abbrev n_law_some : List Str := [(PySem.Str.ofString "_law_script"), (PySem.Str.ofString "_law_base_here"), (PySem.Str.ofString "_law_wide"), (PySem.Str.ofString "_law_found"), (PySem.Str.ofString "_law_known"), (PySem.Str.ofString "_law_cell"), (PySem.Str.ofString "_law_day"), (PySem.Str.ofString "_law_number_here"), (PySem.Str.ofString "_law_word"), (PySem.Str.ofString "_law_amount"), (PySem.Str.ofString "_law_letter")]
abbrev p_law_some : List Str := [(PySem.Str.ofString "_law_script"), (PySem.Str.ofString "_law_base_here"), (PySem.Str.ofString "_law_wide")]
abbrev st_Roll__init : Stmt := inClass (top 48) 0
abbrev n_Roll__init : List Str := [(PySem.Str.ofString "self")]
abbrev p_Roll__init : List Str := [(PySem.Str.ofString "self")]
abbrev st_sure_flat : Stmt := top 46
abbrev n_sure_flat : List Str := [(PySem.Str.ofString "flat"), (PySem.Str.ofString "letter")]
abbrev p_sure_flat : List Str := [(PySem.Str.ofString "flat")]
abbrev st_is_whole : Stmt := top 15
abbrev n_is_whole : List Str := [(PySem.Str.ofString "thing")]
abbrev p_is_whole : List Str := [(PySem.Str.ofString "thing")]
abbrev st_is_within : Stmt := top 16
abbrev n_is_within : List Str := [(PySem.Str.ofString "thing"), (PySem.Str.ofString "low"), (PySem.Str.ofString "high")]
abbrev p_is_within : List Str := [(PySem.Str.ofString "thing"), (PySem.Str.ofString "low"), (PySem.Str.ofString "high")]
abbrev st_sure_day : Stmt := top 22
abbrev n_sure_day : List Str := [(PySem.Str.ofString "day")]
abbrev p_sure_day : List Str := [(PySem.Str.ofString "day")]
abbrev st_sure_amount : Stmt := top 47
abbrev n_sure_amount : List Str := [(PySem.Str.ofString "amount"), (PySem.Str.ofString "low"), (PySem.Str.ofString "high")]
abbrev p_sure_amount : List Str := [(PySem.Str.ofString "amount"), (PySem.Str.ofString "low"), (PySem.Str.ofString "high")]
abbrev st_leaps_ahead : Stmt := top 19
abbrev n_leaps_ahead : List Str := [(PySem.Str.ofString "year"), (PySem.Str.ofString "before")]
abbrev p_leaps_ahead : List Str := [(PySem.Str.ofString "year")]
abbrev st_year_start : Stmt := top 20
abbrev n_year_start : List Str := [(PySem.Str.ofString "year")]
abbrev p_year_start : List Str := [(PySem.Str.ofString "year")]
abbrev st_is_leap : Stmt := top 17
abbrev n_is_leap : List Str := [(PySem.Str.ofString "year")]
abbrev p_is_leap : List Str := [(PySem.Str.ofString "year")]
abbrev st_length_of : Stmt := top 18
abbrev n_length_of : List Str := [(PySem.Str.ofString "year"), (PySem.Str.ofString "month")]
abbrev p_length_of : List Str := [(PySem.Str.ofString "year"), (PySem.Str.ofString "month")]
abbrev st_month_of : Stmt := top 23
abbrev n_month_of : List Str := [(PySem.Str.ofString "day"), (PySem.Str.ofString "year"), (PySem.Str.ofString "left"), (PySem.Str.ofString "month")]
abbrev p_month_of : List Str := [(PySem.Str.ofString "day")]
abbrev st_month_days : Stmt := top 21
abbrev n_month_days : List Str := [(PySem.Str.ofString "year"), (PySem.Str.ofString "month")]
abbrev p_month_days : List Str := [(PySem.Str.ofString "year"), (PySem.Str.ofString "month")]
abbrev st_unchanged_through : Stmt := top 27
abbrev n_unchanged_through : List Str := [(PySem.Str.ofString "terms"), (PySem.Str.ofString "day"), (PySem.Str.ofString "last"), (PySem.Str.ofString "pair")]
abbrev p_unchanged_through : List Str := [(PySem.Str.ofString "terms"), (PySem.Str.ofString "day"), (PySem.Str.ofString "last")]
abbrev st_stretch : Stmt := top 34
abbrev n_stretch : List Str := [(PySem.Str.ofString "rent"), (PySem.Str.ofString "start"), (PySem.Str.ofString "many"), (PySem.Str.ofString "days")]
abbrev p_stretch : List Str := [(PySem.Str.ofString "rent"), (PySem.Str.ofString "start"), (PySem.Str.ofString "many"), (PySem.Str.ofString "days")]
abbrev st_pair_held : Stmt := top 25
abbrev n_pair_held : List Str := [(PySem.Str.ofString "terms"), (PySem.Str.ofString "day"), (PySem.Str.ofString "best"), (PySem.Str.ofString "pair")]
abbrev p_pair_held : List Str := [(PySem.Str.ofString "terms"), (PySem.Str.ofString "day")]
abbrev st_held : Stmt := top 26
abbrev n_held : List Str := [(PySem.Str.ofString "terms"), (PySem.Str.ofString "day"), (PySem.Str.ofString "pair")]
abbrev p_held : List Str := [(PySem.Str.ofString "terms"), (PySem.Str.ofString "day")]
abbrev st_rent_on : Stmt := top 33
abbrev n_rent_on : List Str := [(PySem.Str.ofString "steps"), (PySem.Str.ofString "gauges"), (PySem.Str.ofString "day"), (PySem.Str.ofString "step")]
abbrev p_rent_on : List Str := [(PySem.Str.ofString "steps"), (PySem.Str.ofString "gauges"), (PySem.Str.ofString "day")]
abbrev st_owed : Stmt := top 35
abbrev n_owed : List Str := [(PySem.Str.ofString "steps"), (PySem.Str.ofString "gauges"), (PySem.Str.ofString "first"), (PySem.Str.ofString "last"), (PySem.Str.ofString "total"), (PySem.Str.ofString "day"), (PySem.Str.ofString "month"), (PySem.Str.ofString "days"), (PySem.Str.ofString "until")]
abbrev p_owed : List Str := [(PySem.Str.ofString "steps"), (PySem.Str.ofString "gauges"), (PySem.Str.ofString "first"), (PySem.Str.ofString "last")]
abbrev st_Lease_due : Stmt := inClass (top 38) 3
abbrev n_Lease_due : List Str := [(PySem.Str.ofString "self"), (PySem.Str.ofString "gauges"), (PySem.Str.ofString "day")]
abbrev p_Lease_due : List Str := [(PySem.Str.ofString "self"), (PySem.Str.ofString "gauges"), (PySem.Str.ofString "day")]
abbrev st_Lease_rent_lacking : Stmt := inClass (top 38) 5
abbrev n_Lease_rent_lacking : List Str := [(PySem.Str.ofString "self"), (PySem.Str.ofString "gauges"), (PySem.Str.ofString "day"), (PySem.Str.ofString "cents")]
abbrev p_Lease_rent_lacking : List Str := [(PySem.Str.ofString "self"), (PySem.Str.ofString "gauges"), (PySem.Str.ofString "day")]
abbrev st_balance : Stmt := top 30
abbrev n_balance : List Str := [(PySem.Str.ofString "moves"), (PySem.Str.ofString "day"), (PySem.Str.ofString "move")]
abbrev p_balance : List Str := [(PySem.Str.ofString "moves"), (PySem.Str.ofString "day")]
abbrev st_grown : Stmt := top 31
abbrev n_grown : List Str := [(PySem.Str.ofString "moves"), (PySem.Str.ofString "rates"), (PySem.Str.ofString "last"), (PySem.Str.ofString "total"), (PySem.Str.ofString "day"), (PySem.Str.ofString "until")]
abbrev p_grown : List Str := [(PySem.Str.ofString "moves"), (PySem.Str.ofString "rates"), (PySem.Str.ofString "last")]
abbrev st_Lease_worth : Stmt := inClass (top 38) 4
abbrev n_Lease_worth : List Str := [(PySem.Str.ofString "self"), (PySem.Str.ofString "rates"), (PySem.Str.ofString "day")]
abbrev p_Lease_worth : List Str := [(PySem.Str.ofString "self"), (PySem.Str.ofString "rates"), (PySem.Str.ofString "day")]
abbrev st_Lease_pledge_lacking : Stmt := inClass (top 38) 6
abbrev n_Lease_pledge_lacking : List Str := [(PySem.Str.ofString "self"), (PySem.Str.ofString "rates"), (PySem.Str.ofString "cents")]
abbrev p_Lease_pledge_lacking : List Str := [(PySem.Str.ofString "self"), (PySem.Str.ofString "rates")]
abbrev st_Roll_done : Stmt := inClass (top 48) 2
abbrev n_Roll_done : List Str := [(PySem.Str.ofString "self"), (PySem.Str.ofString "letter"), (PySem.Str.ofString "found"), (PySem.Str.ofString "number"), (PySem.Str.ofString "lease"), (PySem.Str.ofString "cents")]
abbrev p_Roll_done : List Str := [(PySem.Str.ofString "self"), (PySem.Str.ofString "letter")]
abbrev st_Lease__init : Stmt := inClass (top 38) 0
abbrev n_Lease__init : List Str := [(PySem.Str.ofString "self"), (PySem.Str.ofString "flat"), (PySem.Str.ofString "first"), (PySem.Str.ofString "rent"), (PySem.Str.ofString "indexed")]
abbrev p_Lease__init : List Str := [(PySem.Str.ofString "self"), (PySem.Str.ofString "flat"), (PySem.Str.ofString "first"), (PySem.Str.ofString "rent"), (PySem.Str.ofString "indexed")]
abbrev st_Lease_is_free_from : Stmt := inClass (top 38) 1
abbrev n_Lease_is_free_from : List Str := [(PySem.Str.ofString "self"), (PySem.Str.ofString "day")]
abbrev p_Lease_is_free_from : List Str := [(PySem.Str.ofString "self"), (PySem.Str.ofString "day")]
abbrev st_Roll_let : Stmt := inClass (top 48) 3
abbrev n_Roll_let : List Str := [(PySem.Str.ofString "self"), (PySem.Str.ofString "flat"), (PySem.Str.ofString "first"), (PySem.Str.ofString "rent"), (PySem.Str.ofString "indexed"), (PySem.Str.ofString "lease")]
abbrev p_Roll_let : List Str := [(PySem.Str.ofString "self"), (PySem.Str.ofString "flat"), (PySem.Str.ofString "first"), (PySem.Str.ofString "rent"), (PySem.Str.ofString "indexed")]
abbrev st_law_roll : Stmt := top 58
abbrev n_law_roll : List Str := [(PySem.Str.ofString "_law_base_here"), (PySem.Str.ofString "_law_roll_here")]
abbrev p_law_roll : List Str := [(PySem.Str.ofString "_law_base_here")]
abbrev st_Roll_sure : Stmt := inClass (top 48) 1
abbrev n_Roll_sure : List Str := [(PySem.Str.ofString "self"), (PySem.Str.ofString "number")]
abbrev p_Roll_sure : List Str := [(PySem.Str.ofString "self"), (PySem.Str.ofString "number")]
abbrev st_Roll_close : Stmt := inClass (top 48) 10
abbrev n_Roll_close : List Str := [(PySem.Str.ofString "self"), (PySem.Str.ofString "number"), (PySem.Str.ofString "day"), (PySem.Str.ofString "lease")]
abbrev p_Roll_close : List Str := [(PySem.Str.ofString "self"), (PySem.Str.ofString "number"), (PySem.Str.ofString "day")]
abbrev st_Roll_many : Stmt := inClass (top 48) 12
abbrev n_Roll_many : List Str := [(PySem.Str.ofString "self")]
abbrev p_Roll_many : List Str := [(PySem.Str.ofString "self")]
abbrev st_Roll_owed : Stmt := inClass (top 48) 16
abbrev n_Roll_owed : List Str := [(PySem.Str.ofString "self"), (PySem.Str.ofString "number"), (PySem.Str.ofString "day"), (PySem.Str.ofString "lease")]
abbrev p_Roll_owed : List Str := [(PySem.Str.ofString "self"), (PySem.Str.ofString "number"), (PySem.Str.ofString "day")]
abbrev st_Roll_pledge : Stmt := inClass (top 48) 17
abbrev n_Roll_pledge : List Str := [(PySem.Str.ofString "self"), (PySem.Str.ofString "number"), (PySem.Str.ofString "day"), (PySem.Str.ofString "lease")]
abbrev p_Roll_pledge : List Str := [(PySem.Str.ofString "self"), (PySem.Str.ofString "number"), (PySem.Str.ofString "day")]
abbrev st_law_asked : Stmt := top 59
abbrev n_law_asked : List Str := [(PySem.Str.ofString "_law_roll_here"), (PySem.Str.ofString "_law_days"), (PySem.Str.ofString "_law_found"), (PySem.Str.ofString "_law_number_here"), (PySem.Str.ofString "_law_day")]
abbrev p_law_asked : List Str := [(PySem.Str.ofString "_law_roll_here"), (PySem.Str.ofString "_law_days")]
abbrev st_Roll_bill : Stmt := inClass (top 48) 11
abbrev n_Roll_bill : List Str := [(PySem.Str.ofString "self"), (PySem.Str.ofString "day")]
abbrev p_Roll_bill : List Str := [(PySem.Str.ofString "self"), (PySem.Str.ofString "day")]
abbrev st_law_base : Stmt := top 52
abbrev n_law_base : List Str := [(PySem.Str.ofString "_law_cell"), (PySem.Str.ofString "_law_near")]
abbrev p_law_base : List Str := [(PySem.Str.ofString "_law_cell")]
abbrev st_Roll_end : Stmt := inClass (top 48) 4
abbrev n_Roll_end : List Str := [(PySem.Str.ofString "self"), (PySem.Str.ofString "number"), (PySem.Str.ofString "last"), (PySem.Str.ofString "lease"), (PySem.Str.ofString "other")]
abbrev p_Roll_end : List Str := [(PySem.Str.ofString "self"), (PySem.Str.ofString "number"), (PySem.Str.ofString "last")]
abbrev st_Roll_step : Stmt := inClass (top 48) 5
abbrev n_Roll_step : List Str := [(PySem.Str.ofString "self"), (PySem.Str.ofString "number"), (PySem.Str.ofString "first"), (PySem.Str.ofString "rent"), (PySem.Str.ofString "lease")]
abbrev p_Roll_step : List Str := [(PySem.Str.ofString "self"), (PySem.Str.ofString "number"), (PySem.Str.ofString "first"), (PySem.Str.ofString "rent")]
abbrev st_Roll_gauge : Stmt := inClass (top 48) 6
abbrev n_Roll_gauge : List Str := [(PySem.Str.ofString "self"), (PySem.Str.ofString "first"), (PySem.Str.ofString "number")]
abbrev p_Roll_gauge : List Str := [(PySem.Str.ofString "self"), (PySem.Str.ofString "first"), (PySem.Str.ofString "number")]
abbrev st_Roll_rate : Stmt := inClass (top 48) 7
abbrev n_Roll_rate : List Str := [(PySem.Str.ofString "self"), (PySem.Str.ofString "first"), (PySem.Str.ofString "hundredths")]
abbrev p_Roll_rate : List Str := [(PySem.Str.ofString "self"), (PySem.Str.ofString "first"), (PySem.Str.ofString "hundredths")]
abbrev st_Roll_paid : Stmt := inClass (top 48) 8
abbrev n_Roll_paid : List Str := [(PySem.Str.ofString "self"), (PySem.Str.ofString "number"), (PySem.Str.ofString "day"), (PySem.Str.ofString "cents"), (PySem.Str.ofString "lease")]
abbrev p_Roll_paid : List Str := [(PySem.Str.ofString "self"), (PySem.Str.ofString "number"), (PySem.Str.ofString "day"), (PySem.Str.ofString "cents")]
abbrev st_Roll_kept : Stmt := inClass (top 48) 9
abbrev n_Roll_kept : List Str := [(PySem.Str.ofString "self"), (PySem.Str.ofString "number"), (PySem.Str.ofString "day"), (PySem.Str.ofString "cents"), (PySem.Str.ofString "lease")]
abbrev p_Roll_kept : List Str := [(PySem.Str.ofString "self"), (PySem.Str.ofString "number"), (PySem.Str.ofString "day"), (PySem.Str.ofString "cents")]
abbrev st_law_do : Stmt := top 55
abbrev n_law_do : List Str := [(PySem.Str.ofString "_law_roll_here"), (PySem.Str.ofString "_law_letter")]
abbrev p_law_do : List Str := [(PySem.Str.ofString "_law_roll_here"), (PySem.Str.ofString "_law_letter")]
abbrev st_law_cell_at : Stmt := top 50
abbrev n_law_cell_at : List Str := [(PySem.Str.ofString "_law_script"), (PySem.Str.ofString "_law_k")]
abbrev p_law_cell_at : List Str := [(PySem.Str.ofString "_law_script"), (PySem.Str.ofString "_law_k")]
abbrev st_Roll_sent : Stmt := inClass (top 48) 18
abbrev n_Roll_sent : List Str := [(PySem.Str.ofString "self"), (PySem.Str.ofString "number")]
abbrev p_Roll_sent : List Str := [(PySem.Str.ofString "self"), (PySem.Str.ofString "number")]
abbrev st_Roll_given : Stmt := inClass (top 48) 19
abbrev n_Roll_given : List Str := [(PySem.Str.ofString "self"), (PySem.Str.ofString "number")]
abbrev p_Roll_given : List Str := [(PySem.Str.ofString "self"), (PySem.Str.ofString "number")]
abbrev st_law : Stmt := top 60
abbrev n_law : List Str := [(PySem.Str.ofString "_law_script"), (PySem.Str.ofString "_law_base_here"), (PySem.Str.ofString "_law_wide"), (PySem.Str.ofString "_law_some_here"), (PySem.Str.ofString "_law_one"), (PySem.Str.ofString "_law_other"), (PySem.Str.ofString "_law_third"), (PySem.Str.ofString "_law_shut"), (PySem.Str.ofString "_law_letter"), (PySem.Str.ofString "_law_days"), (PySem.Str.ofString "_law_half"), (PySem.Str.ofString "_law_kept"), (PySem.Str.ofString "_law_turn"), (PySem.Str.ofString "_law_there"), (PySem.Str.ofString "_law_k"), (PySem.Str.ofString "_law_last"), (PySem.Str.ofString "_law_ones")]
abbrev p_law : List Str := [(PySem.Str.ofString "_law_script")]
end LW

set_option Elab.async false
set_option linter.all false
set_option maxRecDepth 100000
set_option maxHeartbeats 4000000
namespace LW
open PySem PySem.Spec PyProof.Rows L2 RK
noncomputable section
def errs : List Str := [(PySem.Str.ofString "BadDay"), (PySem.Str.ofString "BadFlat"), (PySem.Str.ofString "BadAmount"), (PySem.Str.ofString "NoLease"), (PySem.Str.ofString "Taken"), (PySem.Str.ofString "Full"), (PySem.Str.ofString "Done")]
/-- c is caught by h -/
def mt (c h : Str) : Bool := decide (c = h) || (decide (h = (PySem.Str.ofString "RentError")) || decide (h = (PySem.Str.ofString "ValueError")))
def sm_law_mix : SM := sSeq (sSet 2 (xBin oMod (xBin oAdd (xBin oAdd (xBin oMul (xVar 0) (xLit (.int 48271))) (xBin oMul (xVar 1) (xLit (.int 69621)))) (xLit (.int 11))) (xLit (.int 1000003)))) (sRet (xBin oMod (xBin oAdd (xBin oAdd (xBin oMul (xVar 2) (xVar 2)) (xBin oMul (xLit (.int 7)) (xVar 2))) (xVar 1)) (xLit (.int 999983))))
def f_law_mix : FP := runP 3 sm_law_mix
def sm_law_room : SM := sSeq (sIf (xBin oGt (xCall oLen (xCons (xVar 0) xNil)) (xLit (.int 63))) (sRet (xVar 2)) sNil) (sRet (xVar 1))
def f_law_room : FP := runP 3 sm_law_room
def sm_law_money : SM := sSeq (sIf (xBin oEq (xBin oMod (xVar 0) (xLit (.int 4))) (xLit (.int 0))) (sRet (xBin oIxL (xLst (xCons (xLit (.int 0)) (xCons (xLit (.int 1)) (xCons (xBin oPow (xLit (.int 10)) (xLit (.int 9))) (xCons (xBin oSub (xBin oPow (xLit (.int 10)) (xLit (.int 9))) (xLit (.int 1))) (xCons (xLit (.int 29)) (xCons (xLit (.int 31)) xNil))))))) (xBin oMod (xBin oDiv (xVar 0) (xLit (.int 4))) (xLit (.int 6))))) sNil) (sSeq (sIf (xBin oEq (xBin oMod (xVar 0) (xLit (.int 4))) (xLit (.int 1))) (sRet (xBin oMod (xBin oMul (xBin oDiv (xVar 0) (xLit (.int 4))) (xLit (.int 7919))) (xBin oAdd (xBin oPow (xLit (.int 10)) (xLit (.int 9))) (xLit (.int 1))))) sNil) (sRet (xBin oMod (xBin oDiv (xVar 0) (xLit (.int 4))) (xLit (.int 200000)))))
def f_law_money : FP := runP 1 sm_law_money
def sm_law_number : SM := sSeq (sIf (xBin oEq (xBin oMod (xVar 0) (xLit (.int 4))) (xLit (.int 0))) (sRet (xBin oIxL (xLst (xCons (xLit (.int 1)) (xCons (xBin oPow (xLit (.int 10)) (xLit (.int 6))) (xCons (xLit (.int 100)) (xCons (xLit (.int 101)) xNil))))) (xBin oMod (xBin oDiv (xVar 0) (xLit (.int 4))) (xLit (.int 4))))) sNil) (sSeq (sIf (xBin oEq (xBin oMod (xVar 0) (xLit (.int 4))) (xLit (.int 1))) (sRet (xBin oAdd (xLit (.int 1)) (xBin oMod (xBin oMul (xBin oDiv (xVar 0) (xLit (.int 4))) (xLit (.int 7919))) (xBin oPow (xLit (.int 10)) (xLit (.int 6)))))) sNil) (sRet (xBin oAdd (xLit (.int 90)) (xBin oMod (xBin oDiv (xVar 0) (xLit (.int 4))) (xLit (.int 40))))))
def f_law_number : FP := runP 1 sm_law_number
def sm_law_some_u5 : SM := sIf (xTDNotIn (xTupS (xCons (xVar 8) (xCons (xVar 7) (xCons (xVar 6) xNil)))) (xVar 4)) (sSeq (sTDPut (xVar 4) (xTupS (xCons (xVar 8) (xCons (xVar 7) (xCons (xVar 6) xNil)))) (xLit (.bool true))) (sExp (xApp (xVar 3) (xVar 10)))) sNil
def sm_law_some_u4 : SM := sSeq (sIf (xBin oEq (xVar 8) (xLit (.str (PySem.Str.ofString "gauge")))) (sSeq (sSet 10 (xTup (xCons (xVar 8) (xCons (xVar 6) (xCons (xCallP f_law_number (xCons (xCallP f_law_mix (xCons (xVar 5) (xCons (xLit (.int 3)) xNil))) xNil)) xNil))))) (sSet 7 (xLit (.int 2)))) (sIf (xBin oEq (xVar 8) (xLit (.str (PySem.Str.ofString "rate")))) (sSeq (sSet 10 (xTup (xCons (xVar 8) (xCons (xVar 6) (xCons (xBin oMod (xVar 9) (xBin oAdd (xBin oPow (xLit (.int 10)) (xLit (.int 4))) (xLit (.int 1)))) xNil))))) (sSet 7 (xLit (.int 2)))) (sSet 10 (xTup (xCons (xVar 8) (xCons (xVar 7) (xCons (xVar 6) (xCons (xVar 9) xNil)))))))) sm_law_some_u5
def sm_law_some_u3 : SM := sSeq (sSet 9 (xBin oAdd (xLit (.int 1)) (xBin oMod (xCallP f_law_money (xCons (xCallP f_law_mix (xCons (xVar 5) (xCons (xLit (.int 3)) xNil))) xNil)) (xBin oPow (xLit (.int 10)) (xLit (.int 9)))))) sm_law_some_u4
def sm_law_some_u2 : SM := sSeq (sSet 8 (xBin oIxL (xLst (xCons (xLit (.str (PySem.Str.ofString "step"))) (xCons (xLit (.str (PySem.Str.ofString "gauge"))) (xCons (xLit (.str (PySem.Str.ofString "rate"))) (xCons (xLit (.str (PySem.Str.ofString "paid"))) (xCons (xLit (.str (PySem.Str.ofString "kept"))) xNil)))))) (xBin oMod (xVar 5) (xLit (.int 5))))) sm_law_some_u3
def sm_law_some_u1 : SM := sSeq (sSet 7 (xBin oMod (xCallP f_law_mix (xCons (xVar 5) (xCons (xLit (.int 2)) xNil))) (xLit (.int 2)))) sm_law_some_u2
def sm_law_some_l1 : SM := sSeq (sSet 6 (xBin oAdd (xVar 1) (xBin oMod (xCallP f_law_mix (xCons (xVar 5) (xCons (xLit (.int 1)) xNil))) (xVar 2)))) sm_law_some_u1
def sm_law_some : SM := sSeq (sSet 3 (xLstS xNil)) (sSeq (sSet 4 xTDNew) (sSeq (sFor (gNm 5) (xSlL (xVar 0) (poS (xLit (.int 3))) (poS (xBin oAdd (xLit (.int 3)) (xCallP f_law_room (xCons (xVar 0) (xCons (xLit (.int 12)) (xCons (xLit (.int 30)) xNil))))))) sm_law_some_l1) (sRet (xVar 3))))
def f_law_some : FP := runP 11 sm_law_some
def sm_Roll__init_t4 : SM := sFld (PySem.Str.ofString "Roll") (PySem.Str.ofString "told") (xVar 0) (xLstS xNil)
def sm_Roll__init_t3 : SM := sSeq (sFld (PySem.Str.ofString "Roll") (PySem.Str.ofString "through") (xVar 0) (xNeg (xLit (.int 1)))) sm_Roll__init_t4
def sm_Roll__init_t2 : SM := sSeq (sFld (PySem.Str.ofString "Roll") (PySem.Str.ofString "rates") (xVar 0) (xLstS (xCons (xTup (xCons (xLit (.int 0)) (xCons (xLit (.int 0)) xNil))) xNil))) sm_Roll__init_t3
def sm_Roll__init_t1 : SM := sSeq (sFld (PySem.Str.ofString "Roll") (PySem.Str.ofString "gauges") (xVar 0) (xLstS (xCons (xTup (xCons (xLit (.int 0)) (xCons (xLit (.int 100)) xNil))) xNil))) sm_Roll__init_t2
def sm_Roll__init : SM := sSeq (sFld (PySem.Str.ofString "Roll") (PySem.Str.ofString "leases") (xVar 0) (xLstS xNil)) sm_Roll__init_t1
def f_Roll__init : FW := runW 1 sm_Roll__init
def sm_sure_flat_l1 : SM := sIf (xBin oNotInS (xVar 1) (xLit (.str (PySem.Str.ofString "abcdefghijklmnopqrstuvwxyz")))) (sRaise (PySem.Str.ofString "BadFlat")) sNil
def sm_sure_flat : SM := sSeq (sIf (xOr (xNot (xIsi "str" (xVar 0))) (xNot (xChain oLe oLe (xLit (.int 1)) (xCall oLen (xCons (xVar 0) xNil)) (xLit (.int 8))))) (sRaise (PySem.Str.ofString "BadFlat")) sNil) (sForS 1 (xVar 0) sm_sure_flat_l1)
def f_sure_flat : FP := runP 2 sm_sure_flat
def sm_is_whole : SM := sRet (xAnd (xIsi "int" (xVar 0)) (xNot (xIsi "bool" (xVar 0))))
def f_is_whole : FP := runP 1 sm_is_whole
def sm_is_within : SM := sRet (xAnd (xCallP f_is_whole (xCons (xVar 0) xNil)) (xChain oLe oLe (xVar 1) (xVar 0) (xVar 2)))
def f_is_within : FP := runP 3 sm_is_within
def sm_sure_day : SM := sIf (xNot (xCallP f_is_within (xCons (xVar 0) (xCons (xLit (.int 0)) (xCons (xLit (.int 99999)) xNil))))) (sRaise (PySem.Str.ofString "BadDay")) sNil
def f_sure_day : FP := runP 1 sm_sure_day
def sm_sure_amount : SM := sIf (xNot (xCallP f_is_within (xCons (xVar 0) (xCons (xVar 1) (xCons (xVar 2) xNil))))) (sRaise (PySem.Str.ofString "BadAmount")) sNil
def f_sure_amount : FP := runP 3 sm_sure_amount
def sm_leaps_ahead : SM := sSeq (sSet 1 (xBin oSub (xVar 0) (xLit (.int 1)))) (sRet (xBin oSub (xBin oAdd (xBin oSub (xBin oDiv (xVar 1) (xLit (.int 4))) (xBin oDiv (xVar 1) (xLit (.int 100)))) (xBin oDiv (xVar 1) (xLit (.int 400)))) (xLit (.int 484))))
def f_leaps_ahead : FP := runP 2 sm_leaps_ahead
def sm_year_start : SM := sRet (xBin oAdd (xBin oMul (xLit (.int 365)) (xBin oSub (xVar 0) (xLit (.int 2000)))) (xCallP f_leaps_ahead (xCons (xVar 0) xNil)))
def f_year_start : FP := runP 1 sm_year_start
def sm_is_leap : SM := sRet (xOr (xAnd (xBin oEq (xBin oMod (xVar 0) (xLit (.int 4))) (xLit (.int 0))) (xBin oNe (xBin oMod (xVar 0) (xLit (.int 100))) (xLit (.int 0)))) (xBin oEq (xBin oMod (xVar 0) (xLit (.int 400))) (xLit (.int 0))))
def f_is_leap : FP := runP 1 sm_is_leap
def sm_length_of : SM := sSeq (sIf (xAnd (xBin oEq (xVar 1) (xLit (.int 2))) (xCallP f_is_leap (xCons (xVar 0) xNil))) (sRet (xLit (.int 29))) sNil) (sRet (xBin oIxT (xLit (.tuple [(.int 31), (.int 28), (.int 31), (.int 30), (.int 31), (.int 30), (.int 31), (.int 31), (.int 30), (.int 31), (.int 30), (.int 31)])) (xBin oSub (xVar 1) (xLit (.int 1)))))
def f_length_of : FP := runP 2 sm_length_of
def sm_month_of_l1 : SM := sSet 1 (xBin oAdd (xVar 1) (xLit (.int 1)))
def sm_month_of_l2 : XM := xBin oLe (xCallP f_year_start (xCons (xBin oAdd (xVar 1) (xLit (.int 1))) xNil)) (xVar 0)
def sm_month_of_l3 : SM := sSeq (sSet 2 (xBin oSub (xVar 2) (xCallP f_length_of (xCons (xVar 1) (xCons (xVar 3) xNil))))) (sSet 3 (xBin oAdd (xVar 3) (xLit (.int 1))))
def sm_month_of_l4 : XM := xBin oGe (xVar 2) (xCallP f_length_of (xCons (xVar 1) (xCons (xVar 3) xNil)))
def sm_month_of_t6 : SM := sRet (xTup (xCons (xVar 1) (xCons (xVar 3) (xCons (xBin oAdd (xVar 2) (xLit (.int 1))) xNil))))
def sm_month_of_t5 : SM := sSeq (sWhile 400 sm_month_of_l4 sm_month_of_l3) sm_month_of_t6
def sm_month_of_t4 : SM := sSeq (sSet 3 (xLit (.int 1))) sm_month_of_t5
def sm_month_of_t3 : SM := sSeq (sSet 2 (xBin oSub (xVar 0) (xCallP f_year_start (xCons (xVar 1) xNil)))) sm_month_of_t4
def sm_month_of_t2 : SM := sSeq (sWhile 400 sm_month_of_l2 sm_month_of_l1) sm_month_of_t3
def sm_month_of_t1 : SM := sSeq (sSet 1 (xBin oAdd (xLit (.int 2000)) (xBin oDiv (xVar 0) (xLit (.int 366))))) sm_month_of_t2
def sm_month_of : SM := sSeq (sExp (xCallP f_sure_day (xCons (xVar 0) xNil))) sm_month_of_t1
def f_month_of : FP := runP 4 sm_month_of
def sm_month_days : SM := sSeq (sIf (xOr (xNot (xCallP f_is_within (xCons (xVar 0) (xCons (xLit (.int 2000)) (xCons (xLit (.int 2273)) xNil))))) (xNot (xCallP f_is_within (xCons (xVar 1) (xCons (xLit (.int 1)) (xCons (xLit (.int 12)) xNil)))))) (sRaise (PySem.Str.ofString "BadDay")) sNil) (sRet (xCallP f_length_of (xCons (xVar 0) (xCons (xVar 1) xNil))))
def f_month_days : FP := runP 2 sm_month_days
def sm_unchanged_through_l1 : SM := sIf (xChain oLt oLe (xVar 1) (xBin oIxT (xVar 3) (xLit (.int 0))) (xVar 2)) (sSet 2 (xBin oSub (xBin oIxT (xVar 3) (xLit (.int 0))) (xLit (.int 1)))) sNil
def sm_unchanged_through : SM := sSeq (sFor (gNm 3) (xVar 0) sm_unchanged_through_l1) (sRet (xVar 2))
def f_unchanged_through : FP := runP 4 sm_unchanged_through
def sm_stretch : SM := sRet (xBin oSub (xBin oDiv (xBin oMul (xVar 0) (xBin oSub (xBin oAdd (xVar 1) (xVar 2)) (xLit (.int 1)))) (xVar 3)) (xBin oDiv (xBin oMul (xVar 0) (xBin oSub (xVar 1) (xLit (.int 1)))) (xVar 3)))
def f_stretch : FP := runP 4 sm_stretch
def sm_pair_held_l1 : SM := sIf (xAnd (xBin oLe (xBin oIxT (xVar 3) (xLit (.int 0))) (xVar 1)) (xOr (xBin oIsN (xVar 2) (xLit .none)) (xBin oGe (xBin oIxT (xVar 3) (xLit (.int 0))) (xBin oIxT (xVar 2) (xLit (.int 0)))))) (sSet 2 (xVar 3)) sNil
def sm_pair_held : SM := sSeq (sSet 2 (xLit .none)) (sSeq (sFor (gNm 3) (xVar 0) sm_pair_held_l1) (sRet (xVar 2)))
def f_pair_held : FP := runP 4 sm_pair_held
def sm_held : SM := sSeq (sSet 2 (xCallP f_pair_held (xCons (xVar 0) (xCons (xVar 1) xNil)))) (sSeq (sIf (xBin oIsN (xVar 2) (xLit .none)) (sRet (xLit .none)) sNil) (sRet (xBin oIxT (xVar 2) (xLit (.int 1)))))
def f_held : FP := runP 3 sm_held
def sm_rent_on : SM := sSeq (sSet 3 (xCallP f_pair_held (xCons (xVar 0) (xCons (xVar 2) xNil)))) (sSeq (sIf (xBin oIsN (xVar 3) (xLit .none)) (sRet (xLit (.int 0))) sNil) (sRet (xBin oDiv (xBin oMul (xBin oIxT (xVar 3) (xLit (.int 1))) (xCallP f_held (xCons (xVar 1) (xCons (xVar 2) xNil)))) (xCallP f_held (xCons (xVar 1) (xCons (xBin oIxT (xVar 3) (xLit (.int 0))) xNil))))))
def f_rent_on : FP := runP 4 sm_rent_on
def sm_owed_l1 : SM := sSeq (sSet 6 (xCallP f_month_of (xCons (xVar 5) xNil))) (sSeq (sSet 7 (xCallP f_month_days (xCons (xBin oIxT (xVar 6) (xLit (.int 0))) (xCons (xBin oIxT (xVar 6) (xLit (.int 1))) xNil)))) (sSeq (sSet 8 (xCall oMin2 (xCons (xVar 3) (xCons (xBin oSub (xBin oAdd (xVar 5) (xVar 7)) (xBin oIxT (xVar 6) (xLit (.int 2)))) xNil)))) (sSeq (sSet 8 (xCallP f_unchanged_through (xCons (xVar 0) (xCons (xVar 5) (xCons (xVar 8) xNil))))) (sSeq (sSet 8 (xCallP f_unchanged_through (xCons (xVar 1) (xCons (xVar 5) (xCons (xVar 8) xNil))))) (sSeq (sSet 4 (xBin oAdd (xVar 4) (xCallP f_stretch (xCons (xCallP f_rent_on (xCons (xVar 0) (xCons (xVar 1) (xCons (xVar 5) xNil)))) (xCons (xBin oIxT (xVar 6) (xLit (.int 2))) (xCons (xBin oAdd (xBin oSub (xVar 8) (xVar 5)) (xLit (.int 1))) (xCons (xVar 7) xNil))))))) (sSet 5 (xBin oAdd (xVar 8) (xLit (.int 1)))))))))
def sm_owed_l2 : XM := xBin oLe (xVar 5) (xVar 3)
def sm_owed : SM := sSeq (sSet 4 (xLit (.int 0))) (sSeq (sSet 5 (xVar 2)) (sSeq (sWhile 100001 sm_owed_l2 sm_owed_l1) (sRet (xVar 4))))
def f_owed : FP := runP 9 sm_owed
def sm_Lease_due : SM := sSeq (sIf (xBin oNotN (xFld (PySem.Str.ofString "Lease") (PySem.Str.ofString "last") (xVar 0)) (xLit .none)) (sSet 2 (xCall oMin2 (xCons (xVar 2) (xCons (xFld (PySem.Str.ofString "Lease") (PySem.Str.ofString "last") (xVar 0)) xNil)))) sNil) (sSeq (sIf (xFld (PySem.Str.ofString "Lease") (PySem.Str.ofString "indexed") (xVar 0)) (sRet (xCallS f_owed (xCons (xFld (PySem.Str.ofString "Lease") (PySem.Str.ofString "steps") (xVar 0)) (xCons (xVar 1) (xCons (xFld (PySem.Str.ofString "Lease") (PySem.Str.ofString "first") (xVar 0)) (xCons (xVar 2) xNil)))))) sNil) (sRet (xCallS f_owed (xCons (xFld (PySem.Str.ofString "Lease") (PySem.Str.ofString "steps") (xVar 0)) (xCons (xCall oList (xCons (xLit (.tuple [(.tuple [(.int 0), (.int 100)])])) xNil)) (xCons (xFld (PySem.Str.ofString "Lease") (PySem.Str.ofString "first") (xVar 0)) (xCons (xVar 2) xNil)))))))
def f_Lease_due : FW := runW 3 sm_Lease_due
def sm_Lease_rent_lacking : SM := sSeq (sSet 3 (xBin oSub (xMeth (PySem.Str.ofString "Lease") (PySem.Str.ofString "due") f_Lease_due (xVar 0) (xCons (xVar 1) (xCons (xVar 2) xNil))) (xFld (PySem.Str.ofString "Lease") (PySem.Str.ofString "rent_out") (xVar 0)))) (sSeq (sFld (PySem.Str.ofString "Lease") (PySem.Str.ofString "rent_out") (xVar 0) (xBin oAdd (xFld (PySem.Str.ofString "Lease") (PySem.Str.ofString "rent_out") (xVar 0)) (xVar 3))) (sRet (xVar 3)))
def f_Lease_rent_lacking : FW := runW 4 sm_Lease_rent_lacking
def sm_balance : SM := sRet (xCall oSumL (xCons (xLc false 2 (xVar 0) (some (xBin oLe (xBin oIxT (xVar 2) (xLit (.int 0))) (xVar 1))) (xBin oIxT (xVar 2) (xLit (.int 1)))) xNil))
def f_balance : FP := runP 3 sm_balance
def sm_grown_l1 : SM := sSeq (sSet 5 (xCallP f_unchanged_through (xCons (xVar 0) (xCons (xVar 4) (xCons (xVar 2) xNil))))) (sSeq (sSet 5 (xCallP f_unchanged_through (xCons (xVar 1) (xCons (xVar 4) (xCons (xVar 5) xNil))))) (sSeq (sSet 3 (xBin oAdd (xVar 3) (xBin oMul (xBin oMul (xCallP f_balance (xCons (xVar 0) (xCons (xVar 4) xNil))) (xCallP f_held (xCons (xVar 1) (xCons (xVar 4) xNil)))) (xBin oAdd (xBin oSub (xVar 5) (xVar 4)) (xLit (.int 1)))))) (sSet 4 (xBin oAdd (xVar 5) (xLit (.int 1))))))
def sm_grown_l2 : XM := xBin oLe (xVar 4) (xVar 2)
def sm_grown : SM := sSeq (sSet 3 (xLit (.int 0))) (sSeq (sSet 4 (xLit (.int 0))) (sSeq (sWhile 100001 sm_grown_l2 sm_grown_l1) (sRet (xBin oDiv (xVar 3) (xLit (.int 3650000))))))
def f_grown : FP := runP 6 sm_grown
def sm_Lease_worth : SM := sRet (xBin oAdd (xCallS f_balance (xCons (xFld (PySem.Str.ofString "Lease") (PySem.Str.ofString "moves") (xVar 0)) (xCons (xVar 2) xNil))) (xCallS f_grown (xCons (xFld (PySem.Str.ofString "Lease") (PySem.Str.ofString "moves") (xVar 0)) (xCons (xVar 1) (xCons (xVar 2) xNil)))))
def f_Lease_worth : FW := runW 3 sm_Lease_worth
def sm_Lease_pledge_lacking : SM := sSeq (sIf (xBin oIsN (xFld (PySem.Str.ofString "Lease") (PySem.Str.ofString "shut") (xVar 0)) (xLit .none)) (sRet (xLit (.int 0))) sNil) (sSeq (sSet 2 (xBin oSub (xMeth (PySem.Str.ofString "Lease") (PySem.Str.ofString "worth") f_Lease_worth (xVar 0) (xCons (xVar 1) (xCons (xFld (PySem.Str.ofString "Lease") (PySem.Str.ofString "shut") (xVar 0)) xNil))) (xFld (PySem.Str.ofString "Lease") (PySem.Str.ofString "pledge_out") (xVar 0)))) (sSeq (sFld (PySem.Str.ofString "Lease") (PySem.Str.ofString "pledge_out") (xVar 0) (xBin oAdd (xFld (PySem.Str.ofString "Lease") (PySem.Str.ofString "pledge_out") (xVar 0)) (xVar 2))) (sRet (xVar 2))))
def f_Lease_pledge_lacking : FW := runW 3 sm_Lease_pledge_lacking
def sm_Roll_done_l1 : SM := sSeq (sSet 5 (xMeth (PySem.Str.ofString "Lease") (PySem.Str.ofString "rent_lacking") f_Lease_rent_lacking (xVar 4) (xCons (xFld (PySem.Str.ofString "Roll") (PySem.Str.ofString "gauges") (xVar 0)) (xCons (xFld (PySem.Str.ofString "Roll") (PySem.Str.ofString "through") (xVar 0)) xNil)))) (sSeq (sIf (xBin oNe (xVar 5) (xLit (.int 0))) (sExp (xApp (xVar 2) (xTup (xCons (xLit (.str (PySem.Str.ofString "rent"))) (xCons (xVar 3) (xCons (xVar 5) xNil)))))) sNil) (sSeq (sSet 5 (xMeth (PySem.Str.ofString "Lease") (PySem.Str.ofString "pledge_lacking") f_Lease_pledge_lacking (xVar 4) (xCons (xFld (PySem.Str.ofString "Roll") (PySem.Str.ofString "rates") (xVar 0)) xNil))) (sIf (xBin oNe (xVar 5) (xLit (.int 0))) (sExp (xApp (xVar 2) (xTup (xCons (xLit (.str (PySem.Str.ofString "pledge"))) (xCons (xVar 3) (xCons (xVar 5) xNil)))))) sNil)))
def sm_Roll_done : SM := sSeq (sExp (xApp (xFld (PySem.Str.ofString "Roll") (PySem.Str.ofString "told") (xVar 0)) (xVar 1))) (sSeq (sSet 2 (xLstS xNil)) (sSeq (sForE 3 4 (xFld (PySem.Str.ofString "Roll") (PySem.Str.ofString "leases") (xVar 0)) sm_Roll_done_l1) (sRet (xVar 2))))
def f_Roll_done : FW := runW 6 sm_Roll_done
def sm_Lease__init_t8 : SM := sFld (PySem.Str.ofString "Lease") (PySem.Str.ofString "pledge_out") (xVar 0) (xLit (.int 0))
def sm_Lease__init_t7 : SM := sSeq (sFld (PySem.Str.ofString "Lease") (PySem.Str.ofString "rent_out") (xVar 0) (xLit (.int 0))) sm_Lease__init_t8
def sm_Lease__init_t6 : SM := sSeq (sFld (PySem.Str.ofString "Lease") (PySem.Str.ofString "shut") (xVar 0) (xLit .none)) sm_Lease__init_t7
def sm_Lease__init_t5 : SM := sSeq (sFld (PySem.Str.ofString "Lease") (PySem.Str.ofString "moves") (xVar 0) (xLstS xNil)) sm_Lease__init_t6
def sm_Lease__init_t4 : SM := sSeq (sFld (PySem.Str.ofString "Lease") (PySem.Str.ofString "steps") (xVar 0) (xLstS (xCons (xTup (xCons (xVar 2) (xCons (xVar 3) xNil))) xNil))) sm_Lease__init_t5
def sm_Lease__init_t3 : SM := sSeq (sFld (PySem.Str.ofString "Lease") (PySem.Str.ofString "indexed") (xVar 0) (xVar 4)) sm_Lease__init_t4
def sm_Lease__init_t2 : SM := sSeq (sFld (PySem.Str.ofString "Lease") (PySem.Str.ofString "last") (xVar 0) (xLit .none)) sm_Lease__init_t3
def sm_Lease__init_t1 : SM := sSeq (sFld (PySem.Str.ofString "Lease") (PySem.Str.ofString "first") (xVar 0) (xVar 2)) sm_Lease__init_t2
def sm_Lease__init : SM := sSeq (sFld (PySem.Str.ofString "Lease") (PySem.Str.ofString "flat") (xVar 0) (xVar 1)) sm_Lease__init_t1
def f_Lease__init : FW := runW 5 sm_Lease__init
def sm_Lease_is_free_from : SM := sRet (xAnd (xBin oNotN (xFld (PySem.Str.ofString "Lease") (PySem.Str.ofString "last") (xVar 0)) (xLit .none)) (xBin oLt (xFld (PySem.Str.ofString "Lease") (PySem.Str.ofString "last") (xVar 0)) (xVar 1)))
def f_Lease_is_free_from : FW := runW 2 sm_Lease_is_free_from
def sm_Roll_let_l1 : SM := sIf (xAnd (xBin oEq (xFld (PySem.Str.ofString "Lease") (PySem.Str.ofString "flat") (xVar 5)) (xVar 1)) (xNot (xMeth (PySem.Str.ofString "Lease") (PySem.Str.ofString "is_free_from") f_Lease_is_free_from (xVar 5) (xCons (xVar 2) xNil)))) (sRaise (PySem.Str.ofString "Taken")) sNil
def sm_Roll_let_t6 : SM := sRet (xMeth (PySem.Str.ofString "Roll") (PySem.Str.ofString "done") f_Roll_done (xVar 0) (xCons (xTup (xCons (xLit (.str (PySem.Str.ofString "let"))) (xCons (xVar 1) (xCons (xVar 2) (xCons (xVar 3) (xCons (xVar 4) xNil)))))) xNil))
def sm_Roll_let_t5 : SM := sSeq (sExp (xApp (xFld (PySem.Str.ofString "Roll") (PySem.Str.ofString "leases") (xVar 0)) (xMake (PySem.Str.ofString "Lease") f_Lease__init (xCons (xVar 1) (xCons (xVar 2) (xCons (xVar 3) (xCons (xVar 4) xNil))))))) sm_Roll_let_t6
def sm_Roll_let_t4 : SM := sSeq (sIf (xBin oGe (xCall oLen (xCons (xFld (PySem.Str.ofString "Roll") (PySem.Str.ofString "leases") (xVar 0)) xNil)) (xLit (.int 20))) (sRaise (PySem.Str.ofString "Full")) sNil) sm_Roll_let_t5
def sm_Roll_let_t3 : SM := sSeq (sFor (gNm 5) (xFld (PySem.Str.ofString "Roll") (PySem.Str.ofString "leases") (xVar 0)) sm_Roll_let_l1) sm_Roll_let_t4
def sm_Roll_let_t2 : SM := sSeq (sExp (xCallP f_sure_amount (xCons (xVar 3) (xCons (xLit (.int 0)) (xCons (xLit (.int 1000000000)) xNil))))) sm_Roll_let_t3
def sm_Roll_let_t1 : SM := sSeq (sExp (xCallP f_sure_day (xCons (xVar 2) xNil))) sm_Roll_let_t2
def sm_Roll_let : SM := sSeq (sExp (xCallP f_sure_flat (xCons (xVar 1) xNil))) sm_Roll_let_t1
def f_Roll_let : FW := runW 6 sm_Roll_let
def sm_law_roll : SM := sSeq (sSet 1 (xMake0 (PySem.Str.ofString "Roll") f_Roll__init)) (sSeq (sExp (xMeth (PySem.Str.ofString "Roll") (PySem.Str.ofString "let") f_Roll_let (xVar 1) (xCons (xLit (.str (PySem.Str.ofString "west"))) (xCons (xVar 0) (xCons (xLit (.int 61000)) (xCons (xLit (.bool true)) xNil)))))) (sSeq (sExp (xMeth (PySem.Str.ofString "Roll") (PySem.Str.ofString "let") f_Roll_let (xVar 1) (xCons (xLit (.str (PySem.Str.ofString "wes"))) (xCons (xBin oAdd (xVar 0) (xLit (.int 3))) (xCons (xLit (.int 47000)) (xCons (xLit (.bool false)) xNil)))))) (sRet (xVar 1))))
def f_law_roll : FW := runW 2 sm_law_roll
def sm_Roll_sure : SM := sSeq (sIf (xNot (xCallP f_is_within (xCons (xVar 1) (xCons (xLit (.int 0)) (xCons (xBin oSub (xCall oLen (xCons (xFld (PySem.Str.ofString "Roll") (PySem.Str.ofString "leases") (xVar 0)) xNil)) (xLit (.int 1))) xNil))))) (sRaise (PySem.Str.ofString "NoLease")) sNil) (sRet (xBin oIxL (xFld (PySem.Str.ofString "Roll") (PySem.Str.ofString "leases") (xVar 0)) (xVar 1)))
def f_Roll_sure : FW := runW 2 sm_Roll_sure
def sm_Roll_close_t4 : SM := sRet (xMeth (PySem.Str.ofString "Roll") (PySem.Str.ofString "done") f_Roll_done (xVar 0) (xCons (xTup (xCons (xLit (.str (PySem.Str.ofString "close"))) (xCons (xVar 1) (xCons (xVar 2) xNil)))) xNil))
def sm_Roll_close_t3 : SM := sSeq (sFld (PySem.Str.ofString "Lease") (PySem.Str.ofString "shut") (xVar 3) (xVar 2)) sm_Roll_close_t4
def sm_Roll_close_t2 : SM := sSeq (sIf (xBin oNotN (xFld (PySem.Str.ofString "Lease") (PySem.Str.ofString "shut") (xVar 3)) (xLit .none)) (sRaise (PySem.Str.ofString "Done")) sNil) sm_Roll_close_t3
def sm_Roll_close_t1 : SM := sSeq (sExp (xCallP f_sure_day (xCons (xVar 2) xNil))) sm_Roll_close_t2
def sm_Roll_close : SM := sSeq (sSet 3 (xMeth (PySem.Str.ofString "Roll") (PySem.Str.ofString "sure") f_Roll_sure (xVar 0) (xCons (xVar 1) xNil))) sm_Roll_close_t1
def f_Roll_close : FW := runW 4 sm_Roll_close
def sm_Roll_many : SM := sRet (xCall oLen (xCons (xFld (PySem.Str.ofString "Roll") (PySem.Str.ofString "leases") (xVar 0)) xNil))
def f_Roll_many : FW := runW 1 sm_Roll_many
def sm_Roll_owed : SM := sSeq (sSet 3 (xMeth (PySem.Str.ofString "Roll") (PySem.Str.ofString "sure") f_Roll_sure (xVar 0) (xCons (xVar 1) xNil))) (sSeq (sExp (xCallP f_sure_day (xCons (xVar 2) xNil))) (sRet (xMeth (PySem.Str.ofString "Lease") (PySem.Str.ofString "due") f_Lease_due (xVar 3) (xCons (xFld (PySem.Str.ofString "Roll") (PySem.Str.ofString "gauges") (xVar 0)) (xCons (xVar 2) xNil)))))
def f_Roll_owed : FW := runW 4 sm_Roll_owed
def sm_Roll_pledge : SM := sSeq (sSet 3 (xMeth (PySem.Str.ofString "Roll") (PySem.Str.ofString "sure") f_Roll_sure (xVar 0) (xCons (xVar 1) xNil))) (sSeq (sExp (xCallP f_sure_day (xCons (xVar 2) xNil))) (sRet (xMeth (PySem.Str.ofString "Lease") (PySem.Str.ofString "worth") f_Lease_worth (xVar 3) (xCons (xFld (PySem.Str.ofString "Roll") (PySem.Str.ofString "rates") (xVar 0)) (xCons (xVar 2) xNil)))))
def f_Roll_pledge : FW := runW 4 sm_Roll_pledge
def sm_law_asked_l1 : SM := sExp (xApp (xVar 2) (xTup (xCons (xMeth (PySem.Str.ofString "Roll") (PySem.Str.ofString "owed") f_Roll_owed (xVar 0) (xCons (xVar 3) (xCons (xVar 4) xNil))) (xCons (xMeth (PySem.Str.ofString "Roll") (PySem.Str.ofString "pledge") f_Roll_pledge (xVar 0) (xCons (xVar 3) (xCons (xVar 4) xNil))) xNil))))
def sm_law_asked_l2 : SM := sFor (gNm 4) (xVar 1) sm_law_asked_l1
def sm_law_asked : SM := sSeq (sSet 2 (xLstS xNil)) (sSeq (sForR1 3 (xLit (.int 2)) sm_law_asked_l2) (sRet (xVar 2)))
def f_law_asked : FW := runW 5 sm_law_asked
def sm_Roll_bill : SM := sSeq (sExp (xCallP f_sure_day (xCons (xVar 1) xNil))) (sSeq (sIf (xBin oLt (xVar 1) (xFld (PySem.Str.ofString "Roll") (PySem.Str.ofString "through") (xVar 0))) (sRaise (PySem.Str.ofString "Done")) sNil) (sSeq (sFld (PySem.Str.ofString "Roll") (PySem.Str.ofString "through") (xVar 0) (xVar 1)) (sRet (xMeth (PySem.Str.ofString "Roll") (PySem.Str.ofString "done") f_Roll_done (xVar 0) (xCons (xTup (xCons (xLit (.str (PySem.Str.ofString "bill"))) (xCons (xVar 1) xNil))) xNil)))))
def f_Roll_bill : FW := runW 2 sm_Roll_bill
def sm_law_base : SM := sSeq (sSet 1 (xLst (xCons (xLit (.int 0)) (xCons (xLit (.int 20)) (xCons (xLit (.int 50)) (xCons (xLit (.int 360)) (xCons (xLit (.int 1140)) (xCons (xLit (.int 36500)) (xCons (xLit (.int 36560)) (xCons (xLit (.int 73040)) (xCons (xLit (.int 99600)) xNil))))))))))) (sSeq (sIf (xBin oEq (xBin oMod (xVar 0) (xLit (.int 3))) (xLit (.int 1))) (sRet (xBin oIxL (xVar 1) (xBin oMod (xBin oDiv (xVar 0) (xLit (.int 3))) (xLit (.int 9))))) sNil) (sRet (xBin oMod (xBin oDiv (xVar 0) (xLit (.int 3))) (xLit (.int 99600)))))
def f_law_base : FP := runP 2 sm_law_base
def sm_Roll_end_l1 : SM := sIf (xAnd (xBin oEq (xFld (PySem.Str.ofString "Lease") (PySem.Str.ofString "flat") (xVar 4)) (xFld (PySem.Str.ofString "Lease") (PySem.Str.ofString "flat") (xVar 3))) (xChain oLt oLe (xFld (PySem.Str.ofString "Lease") (PySem.Str.ofString "first") (xVar 3)) (xFld (PySem.Str.ofString "Lease") (PySem.Str.ofString "first") (xVar 4)) (xVar 2))) (sRaise (PySem.Str.ofString "Taken")) sNil
def sm_Roll_end_t5 : SM := sRet (xMeth (PySem.Str.ofString "Roll") (PySem.Str.ofString "done") f_Roll_done (xVar 0) (xCons (xTup (xCons (xLit (.str (PySem.Str.ofString "end"))) (xCons (xVar 1) (xCons (xVar 2) xNil)))) xNil))
def sm_Roll_end_t4 : SM := sSeq (sFld (PySem.Str.ofString "Lease") (PySem.Str.ofString "last") (xVar 3) (xVar 2)) sm_Roll_end_t5
def sm_Roll_end_t3 : SM := sSeq (sFor (gNm 4) (xFld (PySem.Str.ofString "Roll") (PySem.Str.ofString "leases") (xVar 0)) sm_Roll_end_l1) sm_Roll_end_t4
def sm_Roll_end_t2 : SM := sSeq (sIf (xBin oLt (xVar 2) (xFld (PySem.Str.ofString "Lease") (PySem.Str.ofString "first") (xVar 3))) (sRaise (PySem.Str.ofString "BadDay")) sNil) sm_Roll_end_t3
def sm_Roll_end_t1 : SM := sSeq (sExp (xCallP f_sure_day (xCons (xVar 2) xNil))) sm_Roll_end_t2
def sm_Roll_end : SM := sSeq (sSet 3 (xMeth (PySem.Str.ofString "Roll") (PySem.Str.ofString "sure") f_Roll_sure (xVar 0) (xCons (xVar 1) xNil))) sm_Roll_end_t1
def f_Roll_end : FW := runW 5 sm_Roll_end
def sm_Roll_step_t4 : SM := sRet (xMeth (PySem.Str.ofString "Roll") (PySem.Str.ofString "done") f_Roll_done (xVar 0) (xCons (xTup (xCons (xLit (.str (PySem.Str.ofString "step"))) (xCons (xVar 1) (xCons (xVar 2) (xCons (xVar 3) xNil))))) xNil))
def sm_Roll_step_t3 : SM := sSeq (sExp (xApp (xFld (PySem.Str.ofString "Lease") (PySem.Str.ofString "steps") (xVar 4)) (xTup (xCons (xVar 2) (xCons (xVar 3) xNil))))) sm_Roll_step_t4
def sm_Roll_step_t2 : SM := sSeq (sExp (xCallP f_sure_amount (xCons (xVar 3) (xCons (xLit (.int 0)) (xCons (xLit (.int 1000000000)) xNil))))) sm_Roll_step_t3
def sm_Roll_step_t1 : SM := sSeq (sExp (xCallP f_sure_day (xCons (xVar 2) xNil))) sm_Roll_step_t2
def sm_Roll_step : SM := sSeq (sSet 4 (xMeth (PySem.Str.ofString "Roll") (PySem.Str.ofString "sure") f_Roll_sure (xVar 0) (xCons (xVar 1) xNil))) sm_Roll_step_t1
def f_Roll_step : FW := runW 5 sm_Roll_step
def sm_Roll_gauge : SM := sSeq (sExp (xCallP f_sure_day (xCons (xVar 1) xNil))) (sSeq (sExp (xCallP f_sure_amount (xCons (xVar 2) (xCons (xLit (.int 1)) (xCons (xLit (.int 1000000)) xNil))))) (sSeq (sExp (xApp (xFld (PySem.Str.ofString "Roll") (PySem.Str.ofString "gauges") (xVar 0)) (xTup (xCons (xVar 1) (xCons (xVar 2) xNil))))) (sRet (xMeth (PySem.Str.ofString "Roll") (PySem.Str.ofString "done") f_Roll_done (xVar 0) (xCons (xTup (xCons (xLit (.str (PySem.Str.ofString "gauge"))) (xCons (xVar 1) (xCons (xVar 2) xNil)))) xNil)))))
def f_Roll_gauge : FW := runW 3 sm_Roll_gauge
def sm_Roll_rate : SM := sSeq (sExp (xCallP f_sure_day (xCons (xVar 1) xNil))) (sSeq (sExp (xCallP f_sure_amount (xCons (xVar 2) (xCons (xLit (.int 0)) (xCons (xLit (.int 10000)) xNil))))) (sSeq (sExp (xApp (xFld (PySem.Str.ofString "Roll") (PySem.Str.ofString "rates") (xVar 0)) (xTup (xCons (xVar 1) (xCons (xVar 2) xNil))))) (sRet (xMeth (PySem.Str.ofString "Roll") (PySem.Str.ofString "done") f_Roll_done (xVar 0) (xCons (xTup (xCons (xLit (.str (PySem.Str.ofString "rate"))) (xCons (xVar 1) (xCons (xVar 2) xNil)))) xNil)))))
def f_Roll_rate : FW := runW 3 sm_Roll_rate
def sm_Roll_paid_t4 : SM := sRet (xMeth (PySem.Str.ofString "Roll") (PySem.Str.ofString "done") f_Roll_done (xVar 0) (xCons (xTup (xCons (xLit (.str (PySem.Str.ofString "paid"))) (xCons (xVar 1) (xCons (xVar 2) (xCons (xVar 3) xNil))))) xNil))
def sm_Roll_paid_t3 : SM := sSeq (sExp (xApp (xFld (PySem.Str.ofString "Lease") (PySem.Str.ofString "moves") (xVar 4)) (xTup (xCons (xVar 2) (xCons (xVar 3) xNil))))) sm_Roll_paid_t4
def sm_Roll_paid_t2 : SM := sSeq (sExp (xCallP f_sure_amount (xCons (xVar 3) (xCons (xLit (.int 1)) (xCons (xLit (.int 1000000000)) xNil))))) sm_Roll_paid_t3
def sm_Roll_paid_t1 : SM := sSeq (sExp (xCallP f_sure_day (xCons (xVar 2) xNil))) sm_Roll_paid_t2
def sm_Roll_paid : SM := sSeq (sSet 4 (xMeth (PySem.Str.ofString "Roll") (PySem.Str.ofString "sure") f_Roll_sure (xVar 0) (xCons (xVar 1) xNil))) sm_Roll_paid_t1
def f_Roll_paid : FW := runW 5 sm_Roll_paid
def sm_Roll_kept_t4 : SM := sRet (xMeth (PySem.Str.ofString "Roll") (PySem.Str.ofString "done") f_Roll_done (xVar 0) (xCons (xTup (xCons (xLit (.str (PySem.Str.ofString "kept"))) (xCons (xVar 1) (xCons (xVar 2) (xCons (xVar 3) xNil))))) xNil))
def sm_Roll_kept_t3 : SM := sSeq (sExp (xApp (xFld (PySem.Str.ofString "Lease") (PySem.Str.ofString "moves") (xVar 4)) (xTup (xCons (xVar 2) (xCons (xBin oSub (xLit (.int 0)) (xVar 3)) xNil))))) sm_Roll_kept_t4
def sm_Roll_kept_t2 : SM := sSeq (sExp (xCallP f_sure_amount (xCons (xVar 3) (xCons (xLit (.int 1)) (xCons (xLit (.int 1000000000)) xNil))))) sm_Roll_kept_t3
def sm_Roll_kept_t1 : SM := sSeq (sExp (xCallP f_sure_day (xCons (xVar 2) xNil))) sm_Roll_kept_t2
def sm_Roll_kept : SM := sSeq (sSet 4 (xMeth (PySem.Str.ofString "Roll") (PySem.Str.ofString "sure") f_Roll_sure (xVar 0) (xCons (xVar 1) xNil))) sm_Roll_kept_t1
def f_Roll_kept : FW := runW 5 sm_Roll_kept
def sm_law_do_t8 : SM := sRet (xMeth (PySem.Str.ofString "Roll") (PySem.Str.ofString "bill") f_Roll_bill (xVar 0) (xCons (xBin oIxT (xVar 1) (xLit (.int 1))) xNil))
def sm_law_do_t7 : SM := sSeq (sIf (xBin oEq (xBin oIxT (xVar 1) (xLit (.int 0))) (xLit (.str (PySem.Str.ofString "close")))) (sRet (xMeth (PySem.Str.ofString "Roll") (PySem.Str.ofString "close") f_Roll_close (xVar 0) (xCons (xBin oIxT (xVar 1) (xLit (.int 1))) (xCons (xBin oIxT (xVar 1) (xLit (.int 2))) xNil)))) sNil) sm_law_do_t8
def sm_law_do_t6 : SM := sSeq (sIf (xBin oEq (xBin oIxT (xVar 1) (xLit (.int 0))) (xLit (.str (PySem.Str.ofString "kept")))) (sRet (xMeth (PySem.Str.ofString "Roll") (PySem.Str.ofString "kept") f_Roll_kept (xVar 0) (xCons (xBin oIxT (xVar 1) (xLit (.int 1))) (xCons (xBin oIxT (xVar 1) (xLit (.int 2))) (xCons (xBin oIxT (xVar 1) (xLit (.int 3))) xNil))))) sNil) sm_law_do_t7
def sm_law_do_t5 : SM := sSeq (sIf (xBin oEq (xBin oIxT (xVar 1) (xLit (.int 0))) (xLit (.str (PySem.Str.ofString "paid")))) (sRet (xMeth (PySem.Str.ofString "Roll") (PySem.Str.ofString "paid") f_Roll_paid (xVar 0) (xCons (xBin oIxT (xVar 1) (xLit (.int 1))) (xCons (xBin oIxT (xVar 1) (xLit (.int 2))) (xCons (xBin oIxT (xVar 1) (xLit (.int 3))) xNil))))) sNil) sm_law_do_t6
def sm_law_do_t4 : SM := sSeq (sIf (xBin oEq (xBin oIxT (xVar 1) (xLit (.int 0))) (xLit (.str (PySem.Str.ofString "rate")))) (sRet (xMeth (PySem.Str.ofString "Roll") (PySem.Str.ofString "rate") f_Roll_rate (xVar 0) (xCons (xBin oIxT (xVar 1) (xLit (.int 1))) (xCons (xBin oIxT (xVar 1) (xLit (.int 2))) xNil)))) sNil) sm_law_do_t5
def sm_law_do_t3 : SM := sSeq (sIf (xBin oEq (xBin oIxT (xVar 1) (xLit (.int 0))) (xLit (.str (PySem.Str.ofString "gauge")))) (sRet (xMeth (PySem.Str.ofString "Roll") (PySem.Str.ofString "gauge") f_Roll_gauge (xVar 0) (xCons (xBin oIxT (xVar 1) (xLit (.int 1))) (xCons (xBin oIxT (xVar 1) (xLit (.int 2))) xNil)))) sNil) sm_law_do_t4
def sm_law_do_t2 : SM := sSeq (sIf (xBin oEq (xBin oIxT (xVar 1) (xLit (.int 0))) (xLit (.str (PySem.Str.ofString "step")))) (sRet (xMeth (PySem.Str.ofString "Roll") (PySem.Str.ofString "step") f_Roll_step (xVar 0) (xCons (xBin oIxT (xVar 1) (xLit (.int 1))) (xCons (xBin oIxT (xVar 1) (xLit (.int 2))) (xCons (xBin oIxT (xVar 1) (xLit (.int 3))) xNil))))) sNil) sm_law_do_t3
def sm_law_do_t1 : SM := sSeq (sIf (xBin oEq (xBin oIxT (xVar 1) (xLit (.int 0))) (xLit (.str (PySem.Str.ofString "end")))) (sRet (xMeth (PySem.Str.ofString "Roll") (PySem.Str.ofString "end") f_Roll_end (xVar 0) (xCons (xBin oIxT (xVar 1) (xLit (.int 1))) (xCons (xBin oIxT (xVar 1) (xLit (.int 2))) xNil)))) sNil) sm_law_do_t2
def sm_law_do : SM := sSeq (sIf (xBin oEq (xBin oIxT (xVar 1) (xLit (.int 0))) (xLit (.str (PySem.Str.ofString "let")))) (sRet (xMeth (PySem.Str.ofString "Roll") (PySem.Str.ofString "let") f_Roll_let (xVar 0) (xCons (xBin oIxT (xVar 1) (xLit (.int 1))) (xCons (xBin oIxT (xVar 1) (xLit (.int 2))) (xCons (xBin oIxT (xVar 1) (xLit (.int 3))) (xCons (xBin oIxT (xVar 1) (xLit (.int 4))) xNil)))))) sNil) sm_law_do_t1
def f_law_do : FW := runW 2 sm_law_do
def sm_law_cell_at : SM := sSeq (sIf (xBin oLt (xVar 1) (xCall oLen (xCons (xVar 0) xNil))) (sRet (xBin oIxL (xVar 0) (xVar 1))) sNil) (sRet (xLit (.int 0)))
def f_law_cell_at : FP := runP 2 sm_law_cell_at
def sm_Roll_sent : SM := sRet (xFld (PySem.Str.ofString "Lease") (PySem.Str.ofString "rent_out") (xMeth (PySem.Str.ofString "Roll") (PySem.Str.ofString "sure") f_Roll_sure (xVar 0) (xCons (xVar 1) xNil)))
def f_Roll_sent : FW := runW 2 sm_Roll_sent
def sm_Roll_given : SM := sRet (xFld (PySem.Str.ofString "Lease") (PySem.Str.ofString "pledge_out") (xMeth (PySem.Str.ofString "Roll") (PySem.Str.ofString "sure") f_Roll_sure (xVar 0) (xCons (xVar 1) xNil)))
def f_Roll_given : FW := runW 2 sm_Roll_given
def sm_law_l1 : SM := sExp (xCallW f_law_do (xCons (xVar 4) (xCons (xVar 8) xNil)))
def sm_law_l2 : SM := sExp (xCallW f_law_do (xCons (xVar 6) (xCons (xVar 8) xNil)))
def sm_law_l3 : SM := sSeq (sIf (xBin oEq (xVar 14) (xBin oMod (xCallP f_law_cell_at (xCons (xVar 0) (xCons (xLit (.int 2)) xNil))) (xLit (.int 12)))) (sExp (xMeth (PySem.Str.ofString "Roll") (PySem.Str.ofString "bill") f_Roll_bill (xVar 5) (xCons (xBin oIxL (xVar 9) (xLit (.int 0))) xNil))) sNil) (sExp (xCallW f_law_do (xCons (xVar 5) (xCons (xBin oIxL (xVar 13) (xVar 14)) xNil))))
def sm_law_t24 : SM := sRet (xAnd (xBin oEq (xVar 16) (xLcR false 14 (xLit (.int 2)) none (xTup (xCons (xMeth (PySem.Str.ofString "Roll") (PySem.Str.ofString "sent") f_Roll_sent (xVar 5) (xCons (xVar 14) xNil)) (xCons (xMeth (PySem.Str.ofString "Roll") (PySem.Str.ofString "given") f_Roll_given (xVar 5) (xCons (xVar 14) xNil)) xNil))))) (xBin oEq (xBin oIxT (xBin oIxL (xVar 16) (xLit (.int 0))) (xLit (.int 0))) (xMeth (PySem.Str.ofString "Roll") (PySem.Str.ofString "owed") f_Roll_owed (xVar 4) (xCons (xLit (.int 0)) (xCons (xVar 15) xNil)))))
def sm_law_t23 : SM := sSeq (sSet 16 (xLcR false 14 (xLit (.int 2)) none (xTup (xCons (xMeth (PySem.Str.ofString "Roll") (PySem.Str.ofString "sent") f_Roll_sent (xVar 4) (xCons (xVar 14) xNil)) (xCons (xMeth (PySem.Str.ofString "Roll") (PySem.Str.ofString "given") f_Roll_given (xVar 4) (xCons (xVar 14) xNil)) xNil))))) sm_law_t24
def sm_law_t22 : SM := sSeq (sIf (xOr (xBin oNe (xCallW f_law_asked (xCons (xVar 4) (xCons (xVar 9) xNil))) (xCallW f_law_asked (xCons (xVar 5) (xCons (xVar 9) xNil)))) (xOr (xBin oNe (xCallW f_law_asked (xCons (xVar 6) (xCons (xVar 9) xNil))) (xVar 11)) (xBin oNe (xVar 10) (xLit (.int 2))))) (sRet (xLit (.bool false))) sNil) sm_law_t23
def sm_law_t21 : SM := sSeq (sExp (xMeth (PySem.Str.ofString "Roll") (PySem.Str.ofString "close") f_Roll_close (xVar 4) (xCons (xLit (.int 0)) (xCons (xVar 7) xNil)))) sm_law_t22
def sm_law_t20 : SM := sSeq (sExp (xMeth (PySem.Str.ofString "Roll") (PySem.Str.ofString "bill") f_Roll_bill (xVar 5) (xCons (xVar 15) xNil))) sm_law_t21
def sm_law_t19 : SM := sSeq (sExp (xMeth (PySem.Str.ofString "Roll") (PySem.Str.ofString "bill") f_Roll_bill (xVar 4) (xCons (xVar 15) xNil))) sm_law_t20
def sm_law_t18 : SM := sSeq (sSet 15 (xCall oMaxL (xCons (xVar 9) xNil))) sm_law_t19
def sm_law_t17 : SM := sSeq (sForR1 14 (xCall oLen (xCons (xVar 13) xNil)) sm_law_l3) sm_law_t18
def sm_law_t16 : SM := sSeq (sIf (xBin oEq (xBin oMod (xCallP f_law_cell_at (xCons (xVar 0) (xCons (xLit (.int 1)) xNil))) (xLit (.int 2))) (xLit (.int 1))) (sSet 13 (xRevL (xVar 13))) sNil) sm_law_t17
def sm_law_t15 : SM := sSeq (sSet 13 (xBin oCat (xSlL (xVar 3) (poS (xVar 12)) poN) (xSlL (xVar 3) poN (poS (xVar 12))))) sm_law_t16
def sm_law_t14 : SM := sSeq (sSet 12 (xBin oAdd (xLit (.int 1)) (xBin oMod (xBin oDiv (xCallP f_law_cell_at (xCons (xVar 0) (xCons (xLit (.int 1)) xNil))) (xLit (.int 60))) (xCall oMax2 (xCons (xLit (.int 1)) (xCons (xCall oLen (xCons (xVar 3) xNil)) xNil)))))) sm_law_t15
def sm_law_t13 : SM := sSeq (sSet 11 (xCallW f_law_asked (xCons (xVar 6) (xCons (xVar 9) xNil)))) sm_law_t14
def sm_law_t12 : SM := sSeq (sFor (gNm 8) (xSlL (xVar 3) poN (poS (xBin oDiv (xCall oLen (xCons (xVar 3) xNil)) (xLit (.int 2))))) sm_law_l2) sm_law_t13
def sm_law_t11 : SM := sSeq (sSet 10 (xMeth0 (PySem.Str.ofString "Roll") (PySem.Str.ofString "many") f_Roll_many (xVar 6))) sm_law_t12
def sm_law_t10 : SM := sSeq (sSet 9 (xLcR false 14 (xLit (.int 5)) none (xBin oAdd (xVar 1) (xBin oMod (xCallP f_law_mix (xCons (xCallP f_law_cell_at (xCons (xVar 0) (xCons (xLit (.int 2)) xNil))) (xCons (xVar 14) xNil))) (xVar 2))))) sm_law_t11
def sm_law_t9 : SM := sSeq (sFor (gNm 8) (xVar 3) sm_law_l1) sm_law_t10
def sm_law_t8 : SM := sSeq (sExp (xMeth (PySem.Str.ofString "Roll") (PySem.Str.ofString "close") f_Roll_close (xVar 5) (xCons (xLit (.int 0)) (xCons (xVar 7) xNil)))) sm_law_t9
def sm_law_t7 : SM := sSeq (sSet 7 (xBin oAdd (xVar 1) (xBin oMod (xBin oDiv (xCallP f_law_cell_at (xCons (xVar 0) (xCons (xLit (.int 1)) xNil))) (xLit (.int 6))) (xVar 2)))) sm_law_t8
def sm_law_t6 : SM := sSeq (sSet 6 (xCallW f_law_roll (xCons (xVar 1) xNil))) sm_law_t7
def sm_law_t5 : SM := sSeq (sSet 5 (xCallW f_law_roll (xCons (xVar 1) xNil))) sm_law_t6
def sm_law_t4 : SM := sSeq (sSet 4 (xCallW f_law_roll (xCons (xVar 1) xNil))) sm_law_t5
def sm_law_t3 : SM := sSeq (sSet 3 (xCallP f_law_some (xCons (xVar 0) (xCons (xVar 1) (xCons (xVar 2) xNil))))) sm_law_t4
def sm_law_t2 : SM := sSeq (sIf (xBin oEq (xBin oMod (xCallP f_law_cell_at (xCons (xVar 0) (xCons (xLit (.int 1)) xNil))) (xLit (.int 6))) (xLit (.int 1))) (sSet 2 (xLit (.int 3000))) sNil) sm_law_t3
def sm_law_t1 : SM := sSeq (sSet 2 (xLit (.int 60))) sm_law_t2
def sm_law : SM := sSeq (sSet 1 (xBin oMod (xCallP f_law_base (xCons (xCallP f_law_cell_at (xCons (xVar 0) (xCons (xLit (.int 0)) xNil))) xNil)) (xLit (.int 96000)))) sm_law_t1
def f_law : FW := runW 17 sm_law
end
end LW

set_option Elab.async false
set_option linter.all false
set_option maxRecDepth 100000
set_option maxHeartbeats 4000000
namespace LW
open PySem PySem.Spec PyProof.Rows L2 RK
/-- what the top has left -/
structure Txt (K : PySem.W.Frag) (mg : Str → Option Value) : Prop where
  F_law_mix : ∃ fd, FunD K (PySem.Str.ofString "_law_mix") (PySem.Str.ofString "_law_mix") (defArgs st_law_mix) (defBody st_law_mix) (defScope st_law_mix) [] [] (He.ga K (PySem.Str.ofString "_law_mix")) fd
  g_law_mix : mg (PySem.Str.ofString "_law_mix") = some (.ref (He.ga K (PySem.Str.ofString "_law_mix")))
  F_law_room : ∃ fd, FunD K (PySem.Str.ofString "_law_room") (PySem.Str.ofString "_law_room") (defArgs st_law_room) (defBody st_law_room) (defScope st_law_room) [] [] (He.ga K (PySem.Str.ofString "_law_room")) fd
  g_law_room : mg (PySem.Str.ofString "_law_room") = some (.ref (He.ga K (PySem.Str.ofString "_law_room")))
  F_law_money : ∃ fd, FunD K (PySem.Str.ofString "_law_money") (PySem.Str.ofString "_law_money") (defArgs st_law_money) (defBody st_law_money) (defScope st_law_money) [] [] (He.ga K (PySem.Str.ofString "_law_money")) fd
  g_law_money : mg (PySem.Str.ofString "_law_money") = some (.ref (He.ga K (PySem.Str.ofString "_law_money")))
  F_law_number : ∃ fd, FunD K (PySem.Str.ofString "_law_number") (PySem.Str.ofString "_law_number") (defArgs st_law_number) (defBody st_law_number) (defScope st_law_number) [] [] (He.ga K (PySem.Str.ofString "_law_number")) fd
  g_law_number : mg (PySem.Str.ofString "_law_number") = some (.ref (He.ga K (PySem.Str.ofString "_law_number")))
  F_law_some : ∃ fd, FunD K (PySem.Str.ofString "_law_some") (PySem.Str.ofString "_law_some") (defArgs st_law_some) (defBody st_law_some) (defScope st_law_some) [] [] (He.ga K (PySem.Str.ofString "_law_some")) fd
  g_law_some : mg (PySem.Str.ofString "_law_some") = some (.ref (He.ga K (PySem.Str.ofString "_law_some")))
  F_Roll__init : ∃ fd, FunD K (PySem.Str.ofString "__init__") (PySem.Str.ofString "Roll.__init__") (defArgs st_Roll__init) (defBody st_Roll__init) (defScope st_Roll__init) [] [] (He.ma K (He.ga K (PySem.Str.ofString "Roll")) (PySem.Str.ofString "__init__")) fd
  M_Roll__init : Meth K (He.ga K (PySem.Str.ofString "Roll")) (PySem.Str.ofString "__init__") (He.ma K (He.ga K (PySem.Str.ofString "Roll")) (PySem.Str.ofString "__init__"))
  F_sure_flat : ∃ fd, FunD K (PySem.Str.ofString "sure_flat") (PySem.Str.ofString "sure_flat") (defArgs st_sure_flat) (defBody st_sure_flat) (defScope st_sure_flat) [] [] (He.ga K (PySem.Str.ofString "sure_flat")) fd
  g_sure_flat : mg (PySem.Str.ofString "sure_flat") = some (.ref (He.ga K (PySem.Str.ofString "sure_flat")))
  F_is_whole : ∃ fd, FunD K (PySem.Str.ofString "is_whole") (PySem.Str.ofString "is_whole") (defArgs st_is_whole) (defBody st_is_whole) (defScope st_is_whole) [] [] (He.ga K (PySem.Str.ofString "is_whole")) fd
  g_is_whole : mg (PySem.Str.ofString "is_whole") = some (.ref (He.ga K (PySem.Str.ofString "is_whole")))
  F_is_within : ∃ fd, FunD K (PySem.Str.ofString "is_within") (PySem.Str.ofString "is_within") (defArgs st_is_within) (defBody st_is_within) (defScope st_is_within) [] [] (He.ga K (PySem.Str.ofString "is_within")) fd
  g_is_within : mg (PySem.Str.ofString "is_within") = some (.ref (He.ga K (PySem.Str.ofString "is_within")))
  F_sure_day : ∃ fd, FunD K (PySem.Str.ofString "sure_day") (PySem.Str.ofString "sure_day") (defArgs st_sure_day) (defBody st_sure_day) (defScope st_sure_day) [] [] (He.ga K (PySem.Str.ofString "sure_day")) fd
  g_sure_day : mg (PySem.Str.ofString "sure_day") = some (.ref (He.ga K (PySem.Str.ofString "sure_day")))
  F_sure_amount : ∃ fd, FunD K (PySem.Str.ofString "sure_amount") (PySem.Str.ofString "sure_amount") (defArgs st_sure_amount) (defBody st_sure_amount) (defScope st_sure_amount) [] [] (He.ga K (PySem.Str.ofString "sure_amount")) fd
  g_sure_amount : mg (PySem.Str.ofString "sure_amount") = some (.ref (He.ga K (PySem.Str.ofString "sure_amount")))
  F_leaps_ahead : ∃ fd, FunD K (PySem.Str.ofString "leaps_ahead") (PySem.Str.ofString "leaps_ahead") (defArgs st_leaps_ahead) (defBody st_leaps_ahead) (defScope st_leaps_ahead) [] [] (He.ga K (PySem.Str.ofString "leaps_ahead")) fd
  g_leaps_ahead : mg (PySem.Str.ofString "leaps_ahead") = some (.ref (He.ga K (PySem.Str.ofString "leaps_ahead")))
  F_year_start : ∃ fd, FunD K (PySem.Str.ofString "year_start") (PySem.Str.ofString "year_start") (defArgs st_year_start) (defBody st_year_start) (defScope st_year_start) [] [] (He.ga K (PySem.Str.ofString "year_start")) fd
  g_year_start : mg (PySem.Str.ofString "year_start") = some (.ref (He.ga K (PySem.Str.ofString "year_start")))
  F_is_leap : ∃ fd, FunD K (PySem.Str.ofString "is_leap") (PySem.Str.ofString "is_leap") (defArgs st_is_leap) (defBody st_is_leap) (defScope st_is_leap) [] [] (He.ga K (PySem.Str.ofString "is_leap")) fd
  g_is_leap : mg (PySem.Str.ofString "is_leap") = some (.ref (He.ga K (PySem.Str.ofString "is_leap")))
  F_length_of : ∃ fd, FunD K (PySem.Str.ofString "length_of") (PySem.Str.ofString "length_of") (defArgs st_length_of) (defBody st_length_of) (defScope st_length_of) [] [] (He.ga K (PySem.Str.ofString "length_of")) fd
  g_length_of : mg (PySem.Str.ofString "length_of") = some (.ref (He.ga K (PySem.Str.ofString "length_of")))
  F_month_of : ∃ fd, FunD K (PySem.Str.ofString "month_of") (PySem.Str.ofString "month_of") (defArgs st_month_of) (defBody st_month_of) (defScope st_month_of) [] [] (He.ga K (PySem.Str.ofString "month_of")) fd
  g_month_of : mg (PySem.Str.ofString "month_of") = some (.ref (He.ga K (PySem.Str.ofString "month_of")))
  F_month_days : ∃ fd, FunD K (PySem.Str.ofString "month_days") (PySem.Str.ofString "month_days") (defArgs st_month_days) (defBody st_month_days) (defScope st_month_days) [] [] (He.ga K (PySem.Str.ofString "month_days")) fd
  g_month_days : mg (PySem.Str.ofString "month_days") = some (.ref (He.ga K (PySem.Str.ofString "month_days")))
  F_unchanged_through : ∃ fd, FunD K (PySem.Str.ofString "unchanged_through") (PySem.Str.ofString "unchanged_through") (defArgs st_unchanged_through) (defBody st_unchanged_through) (defScope st_unchanged_through) [] [] (He.ga K (PySem.Str.ofString "unchanged_through")) fd
  g_unchanged_through : mg (PySem.Str.ofString "unchanged_through") = some (.ref (He.ga K (PySem.Str.ofString "unchanged_through")))
  F_stretch : ∃ fd, FunD K (PySem.Str.ofString "stretch") (PySem.Str.ofString "stretch") (defArgs st_stretch) (defBody st_stretch) (defScope st_stretch) [] [] (He.ga K (PySem.Str.ofString "stretch")) fd
  g_stretch : mg (PySem.Str.ofString "stretch") = some (.ref (He.ga K (PySem.Str.ofString "stretch")))
  F_pair_held : ∃ fd, FunD K (PySem.Str.ofString "pair_held") (PySem.Str.ofString "pair_held") (defArgs st_pair_held) (defBody st_pair_held) (defScope st_pair_held) [] [] (He.ga K (PySem.Str.ofString "pair_held")) fd
  g_pair_held : mg (PySem.Str.ofString "pair_held") = some (.ref (He.ga K (PySem.Str.ofString "pair_held")))
  F_held : ∃ fd, FunD K (PySem.Str.ofString "held") (PySem.Str.ofString "held") (defArgs st_held) (defBody st_held) (defScope st_held) [] [] (He.ga K (PySem.Str.ofString "held")) fd
  g_held : mg (PySem.Str.ofString "held") = some (.ref (He.ga K (PySem.Str.ofString "held")))
  F_rent_on : ∃ fd, FunD K (PySem.Str.ofString "rent_on") (PySem.Str.ofString "rent_on") (defArgs st_rent_on) (defBody st_rent_on) (defScope st_rent_on) [] [] (He.ga K (PySem.Str.ofString "rent_on")) fd
  g_rent_on : mg (PySem.Str.ofString "rent_on") = some (.ref (He.ga K (PySem.Str.ofString "rent_on")))
  F_owed : ∃ fd, FunD K (PySem.Str.ofString "owed") (PySem.Str.ofString "owed") (defArgs st_owed) (defBody st_owed) (defScope st_owed) [] [] (He.ga K (PySem.Str.ofString "owed")) fd
  g_owed : mg (PySem.Str.ofString "owed") = some (.ref (He.ga K (PySem.Str.ofString "owed")))
  F_Lease_due : ∃ fd, FunD K (PySem.Str.ofString "due") (PySem.Str.ofString "Lease.due") (defArgs st_Lease_due) (defBody st_Lease_due) (defScope st_Lease_due) [] [] (He.ma K (He.ga K (PySem.Str.ofString "Lease")) (PySem.Str.ofString "due")) fd
  M_Lease_due : Meth K (He.ga K (PySem.Str.ofString "Lease")) (PySem.Str.ofString "due") (He.ma K (He.ga K (PySem.Str.ofString "Lease")) (PySem.Str.ofString "due"))
  F_Lease_rent_lacking : ∃ fd, FunD K (PySem.Str.ofString "rent_lacking") (PySem.Str.ofString "Lease.rent_lacking") (defArgs st_Lease_rent_lacking) (defBody st_Lease_rent_lacking) (defScope st_Lease_rent_lacking) [] [] (He.ma K (He.ga K (PySem.Str.ofString "Lease")) (PySem.Str.ofString "rent_lacking")) fd
  M_Lease_rent_lacking : Meth K (He.ga K (PySem.Str.ofString "Lease")) (PySem.Str.ofString "rent_lacking") (He.ma K (He.ga K (PySem.Str.ofString "Lease")) (PySem.Str.ofString "rent_lacking"))
  F_balance : ∃ fd, FunD K (PySem.Str.ofString "balance") (PySem.Str.ofString "balance") (defArgs st_balance) (defBody st_balance) (defScope st_balance) [] [] (He.ga K (PySem.Str.ofString "balance")) fd
  g_balance : mg (PySem.Str.ofString "balance") = some (.ref (He.ga K (PySem.Str.ofString "balance")))
  F_grown : ∃ fd, FunD K (PySem.Str.ofString "grown") (PySem.Str.ofString "grown") (defArgs st_grown) (defBody st_grown) (defScope st_grown) [] [] (He.ga K (PySem.Str.ofString "grown")) fd
  g_grown : mg (PySem.Str.ofString "grown") = some (.ref (He.ga K (PySem.Str.ofString "grown")))
  F_Lease_worth : ∃ fd, FunD K (PySem.Str.ofString "worth") (PySem.Str.ofString "Lease.worth") (defArgs st_Lease_worth) (defBody st_Lease_worth) (defScope st_Lease_worth) [] [] (He.ma K (He.ga K (PySem.Str.ofString "Lease")) (PySem.Str.ofString "worth")) fd
  M_Lease_worth : Meth K (He.ga K (PySem.Str.ofString "Lease")) (PySem.Str.ofString "worth") (He.ma K (He.ga K (PySem.Str.ofString "Lease")) (PySem.Str.ofString "worth"))
  F_Lease_pledge_lacking : ∃ fd, FunD K (PySem.Str.ofString "pledge_lacking") (PySem.Str.ofString "Lease.pledge_lacking") (defArgs st_Lease_pledge_lacking) (defBody st_Lease_pledge_lacking) (defScope st_Lease_pledge_lacking) [] [] (He.ma K (He.ga K (PySem.Str.ofString "Lease")) (PySem.Str.ofString "pledge_lacking")) fd
  M_Lease_pledge_lacking : Meth K (He.ga K (PySem.Str.ofString "Lease")) (PySem.Str.ofString "pledge_lacking") (He.ma K (He.ga K (PySem.Str.ofString "Lease")) (PySem.Str.ofString "pledge_lacking"))
  F_Roll_done : ∃ fd, FunD K (PySem.Str.ofString "done") (PySem.Str.ofString "Roll.done") (defArgs st_Roll_done) (defBody st_Roll_done) (defScope st_Roll_done) [] [] (He.ma K (He.ga K (PySem.Str.ofString "Roll")) (PySem.Str.ofString "done")) fd
  M_Roll_done : Meth K (He.ga K (PySem.Str.ofString "Roll")) (PySem.Str.ofString "done") (He.ma K (He.ga K (PySem.Str.ofString "Roll")) (PySem.Str.ofString "done"))
  F_Lease__init : ∃ fd, FunD K (PySem.Str.ofString "__init__") (PySem.Str.ofString "Lease.__init__") (defArgs st_Lease__init) (defBody st_Lease__init) (defScope st_Lease__init) [] [] (He.ma K (He.ga K (PySem.Str.ofString "Lease")) (PySem.Str.ofString "__init__")) fd
  M_Lease__init : Meth K (He.ga K (PySem.Str.ofString "Lease")) (PySem.Str.ofString "__init__") (He.ma K (He.ga K (PySem.Str.ofString "Lease")) (PySem.Str.ofString "__init__"))
  F_Lease_is_free_from : ∃ fd, FunD K (PySem.Str.ofString "is_free_from") (PySem.Str.ofString "Lease.is_free_from") (defArgs st_Lease_is_free_from) (defBody st_Lease_is_free_from) (defScope st_Lease_is_free_from) [] [] (He.ma K (He.ga K (PySem.Str.ofString "Lease")) (PySem.Str.ofString "is_free_from")) fd
  M_Lease_is_free_from : Meth K (He.ga K (PySem.Str.ofString "Lease")) (PySem.Str.ofString "is_free_from") (He.ma K (He.ga K (PySem.Str.ofString "Lease")) (PySem.Str.ofString "is_free_from"))
  F_Roll_let : ∃ fd, FunD K (PySem.Str.ofString "let") (PySem.Str.ofString "Roll.let") (defArgs st_Roll_let) (defBody st_Roll_let) (defScope st_Roll_let) [] [] (He.ma K (He.ga K (PySem.Str.ofString "Roll")) (PySem.Str.ofString "let")) fd
  M_Roll_let : Meth K (He.ga K (PySem.Str.ofString "Roll")) (PySem.Str.ofString "let") (He.ma K (He.ga K (PySem.Str.ofString "Roll")) (PySem.Str.ofString "let"))
  F_law_roll : ∃ fd, FunD K (PySem.Str.ofString "_law_roll") (PySem.Str.ofString "_law_roll") (defArgs st_law_roll) (defBody st_law_roll) (defScope st_law_roll) [] [] (He.ga K (PySem.Str.ofString "_law_roll")) fd
  g_law_roll : mg (PySem.Str.ofString "_law_roll") = some (.ref (He.ga K (PySem.Str.ofString "_law_roll")))
  F_Roll_sure : ∃ fd, FunD K (PySem.Str.ofString "sure") (PySem.Str.ofString "Roll.sure") (defArgs st_Roll_sure) (defBody st_Roll_sure) (defScope st_Roll_sure) [] [] (He.ma K (He.ga K (PySem.Str.ofString "Roll")) (PySem.Str.ofString "sure")) fd
  M_Roll_sure : Meth K (He.ga K (PySem.Str.ofString "Roll")) (PySem.Str.ofString "sure") (He.ma K (He.ga K (PySem.Str.ofString "Roll")) (PySem.Str.ofString "sure"))
  F_Roll_close : ∃ fd, FunD K (PySem.Str.ofString "close") (PySem.Str.ofString "Roll.close") (defArgs st_Roll_close) (defBody st_Roll_close) (defScope st_Roll_close) [] [] (He.ma K (He.ga K (PySem.Str.ofString "Roll")) (PySem.Str.ofString "close")) fd
  M_Roll_close : Meth K (He.ga K (PySem.Str.ofString "Roll")) (PySem.Str.ofString "close") (He.ma K (He.ga K (PySem.Str.ofString "Roll")) (PySem.Str.ofString "close"))
  F_Roll_many : ∃ fd, FunD K (PySem.Str.ofString "many") (PySem.Str.ofString "Roll.many") (defArgs st_Roll_many) (defBody st_Roll_many) (defScope st_Roll_many) [] [] (He.ma K (He.ga K (PySem.Str.ofString "Roll")) (PySem.Str.ofString "many")) fd
  M_Roll_many : Meth K (He.ga K (PySem.Str.ofString "Roll")) (PySem.Str.ofString "many") (He.ma K (He.ga K (PySem.Str.ofString "Roll")) (PySem.Str.ofString "many"))
  F_Roll_owed : ∃ fd, FunD K (PySem.Str.ofString "owed") (PySem.Str.ofString "Roll.owed") (defArgs st_Roll_owed) (defBody st_Roll_owed) (defScope st_Roll_owed) [] [] (He.ma K (He.ga K (PySem.Str.ofString "Roll")) (PySem.Str.ofString "owed")) fd
  M_Roll_owed : Meth K (He.ga K (PySem.Str.ofString "Roll")) (PySem.Str.ofString "owed") (He.ma K (He.ga K (PySem.Str.ofString "Roll")) (PySem.Str.ofString "owed"))
  F_Roll_pledge : ∃ fd, FunD K (PySem.Str.ofString "pledge") (PySem.Str.ofString "Roll.pledge") (defArgs st_Roll_pledge) (defBody st_Roll_pledge) (defScope st_Roll_pledge) [] [] (He.ma K (He.ga K (PySem.Str.ofString "Roll")) (PySem.Str.ofString "pledge")) fd
  M_Roll_pledge : Meth K (He.ga K (PySem.Str.ofString "Roll")) (PySem.Str.ofString "pledge") (He.ma K (He.ga K (PySem.Str.ofString "Roll")) (PySem.Str.ofString "pledge"))
  F_law_asked : ∃ fd, FunD K (PySem.Str.ofString "_law_asked") (PySem.Str.ofString "_law_asked") (defArgs st_law_asked) (defBody st_law_asked) (defScope st_law_asked) [] [] (He.ga K (PySem.Str.ofString "_law_asked")) fd
  g_law_asked : mg (PySem.Str.ofString "_law_asked") = some (.ref (He.ga K (PySem.Str.ofString "_law_asked")))
  F_Roll_bill : ∃ fd, FunD K (PySem.Str.ofString "bill") (PySem.Str.ofString "Roll.bill") (defArgs st_Roll_bill) (defBody st_Roll_bill) (defScope st_Roll_bill) [] [] (He.ma K (He.ga K (PySem.Str.ofString "Roll")) (PySem.Str.ofString "bill")) fd
  M_Roll_bill : Meth K (He.ga K (PySem.Str.ofString "Roll")) (PySem.Str.ofString "bill") (He.ma K (He.ga K (PySem.Str.ofString "Roll")) (PySem.Str.ofString "bill"))
  F_law_base : ∃ fd, FunD K (PySem.Str.ofString "_law_base") (PySem.Str.ofString "_law_base") (defArgs st_law_base) (defBody st_law_base) (defScope st_law_base) [] [] (He.ga K (PySem.Str.ofString "_law_base")) fd
  g_law_base : mg (PySem.Str.ofString "_law_base") = some (.ref (He.ga K (PySem.Str.ofString "_law_base")))
  F_Roll_end : ∃ fd, FunD K (PySem.Str.ofString "end") (PySem.Str.ofString "Roll.end") (defArgs st_Roll_end) (defBody st_Roll_end) (defScope st_Roll_end) [] [] (He.ma K (He.ga K (PySem.Str.ofString "Roll")) (PySem.Str.ofString "end")) fd
  M_Roll_end : Meth K (He.ga K (PySem.Str.ofString "Roll")) (PySem.Str.ofString "end") (He.ma K (He.ga K (PySem.Str.ofString "Roll")) (PySem.Str.ofString "end"))
  F_Roll_step : ∃ fd, FunD K (PySem.Str.ofString "step") (PySem.Str.ofString "Roll.step") (defArgs st_Roll_step) (defBody st_Roll_step) (defScope st_Roll_step) [] [] (He.ma K (He.ga K (PySem.Str.ofString "Roll")) (PySem.Str.ofString "step")) fd
  M_Roll_step : Meth K (He.ga K (PySem.Str.ofString "Roll")) (PySem.Str.ofString "step") (He.ma K (He.ga K (PySem.Str.ofString "Roll")) (PySem.Str.ofString "step"))
  F_Roll_gauge : ∃ fd, FunD K (PySem.Str.ofString "gauge") (PySem.Str.ofString "Roll.gauge") (defArgs st_Roll_gauge) (defBody st_Roll_gauge) (defScope st_Roll_gauge) [] [] (He.ma K (He.ga K (PySem.Str.ofString "Roll")) (PySem.Str.ofString "gauge")) fd
  M_Roll_gauge : Meth K (He.ga K (PySem.Str.ofString "Roll")) (PySem.Str.ofString "gauge") (He.ma K (He.ga K (PySem.Str.ofString "Roll")) (PySem.Str.ofString "gauge"))
  F_Roll_rate : ∃ fd, FunD K (PySem.Str.ofString "rate") (PySem.Str.ofString "Roll.rate") (defArgs st_Roll_rate) (defBody st_Roll_rate) (defScope st_Roll_rate) [] [] (He.ma K (He.ga K (PySem.Str.ofString "Roll")) (PySem.Str.ofString "rate")) fd
  M_Roll_rate : Meth K (He.ga K (PySem.Str.ofString "Roll")) (PySem.Str.ofString "rate") (He.ma K (He.ga K (PySem.Str.ofString "Roll")) (PySem.Str.ofString "rate"))
  F_Roll_paid : ∃ fd, FunD K (PySem.Str.ofString "paid") (PySem.Str.ofString "Roll.paid") (defArgs st_Roll_paid) (defBody st_Roll_paid) (defScope st_Roll_paid) [] [] (He.ma K (He.ga K (PySem.Str.ofString "Roll")) (PySem.Str.ofString "paid")) fd
  M_Roll_paid : Meth K (He.ga K (PySem.Str.ofString "Roll")) (PySem.Str.ofString "paid") (He.ma K (He.ga K (PySem.Str.ofString "Roll")) (PySem.Str.ofString "paid"))
  F_Roll_kept : ∃ fd, FunD K (PySem.Str.ofString "kept") (PySem.Str.ofString "Roll.kept") (defArgs st_Roll_kept) (defBody st_Roll_kept) (defScope st_Roll_kept) [] [] (He.ma K (He.ga K (PySem.Str.ofString "Roll")) (PySem.Str.ofString "kept")) fd
  M_Roll_kept : Meth K (He.ga K (PySem.Str.ofString "Roll")) (PySem.Str.ofString "kept") (He.ma K (He.ga K (PySem.Str.ofString "Roll")) (PySem.Str.ofString "kept"))
  F_law_do : ∃ fd, FunD K (PySem.Str.ofString "_law_do") (PySem.Str.ofString "_law_do") (defArgs st_law_do) (defBody st_law_do) (defScope st_law_do) [] [] (He.ga K (PySem.Str.ofString "_law_do")) fd
  g_law_do : mg (PySem.Str.ofString "_law_do") = some (.ref (He.ga K (PySem.Str.ofString "_law_do")))
  F_law_cell_at : ∃ fd, FunD K (PySem.Str.ofString "_law_cell_at") (PySem.Str.ofString "_law_cell_at") (defArgs st_law_cell_at) (defBody st_law_cell_at) (defScope st_law_cell_at) [] [] (He.ga K (PySem.Str.ofString "_law_cell_at")) fd
  g_law_cell_at : mg (PySem.Str.ofString "_law_cell_at") = some (.ref (He.ga K (PySem.Str.ofString "_law_cell_at")))
  F_Roll_sent : ∃ fd, FunD K (PySem.Str.ofString "sent") (PySem.Str.ofString "Roll.sent") (defArgs st_Roll_sent) (defBody st_Roll_sent) (defScope st_Roll_sent) [] [] (He.ma K (He.ga K (PySem.Str.ofString "Roll")) (PySem.Str.ofString "sent")) fd
  M_Roll_sent : Meth K (He.ga K (PySem.Str.ofString "Roll")) (PySem.Str.ofString "sent") (He.ma K (He.ga K (PySem.Str.ofString "Roll")) (PySem.Str.ofString "sent"))
  F_Roll_given : ∃ fd, FunD K (PySem.Str.ofString "given") (PySem.Str.ofString "Roll.given") (defArgs st_Roll_given) (defBody st_Roll_given) (defScope st_Roll_given) [] [] (He.ma K (He.ga K (PySem.Str.ofString "Roll")) (PySem.Str.ofString "given")) fd
  M_Roll_given : Meth K (He.ga K (PySem.Str.ofString "Roll")) (PySem.Str.ofString "given") (He.ma K (He.ga K (PySem.Str.ofString "Roll")) (PySem.Str.ofString "given"))
  F_law : ∃ fd, FunD K (PySem.Str.ofString "law") (PySem.Str.ofString "law") (defArgs st_law) (defBody st_law) (defScope st_law) [] [] (He.ga K (PySem.Str.ofString "law")) fd
  g_law : mg (PySem.Str.ofString "law") = some (.ref (He.ga K (PySem.Str.ofString "law")))
  n_bool : mg (PySem.Str.ofString "bool") = none
  n_enumerate : mg (PySem.Str.ofString "enumerate") = none
  n_int : mg (PySem.Str.ofString "int") = none
  n_isinstance : mg (PySem.Str.ofString "isinstance") = none
  n_len : mg (PySem.Str.ofString "len") = none
  n_list : mg (PySem.Str.ofString "list") = none
  n_max : mg (PySem.Str.ofString "max") = none
  n_min : mg (PySem.Str.ofString "min") = none
  n_range : mg (PySem.Str.ofString "range") = none
  n_str : mg (PySem.Str.ofString "str") = none
  n_sum : mg (PySem.Str.ofString "sum") = none
  k_bool : KindsOk K "bool"
  k_int : KindsOk K "int"
  k_str : KindsOk K "str"
  c_LAST_DAY : ∃ t, mg (PySem.Str.ofString "LAST_DAY") = some (.int 99999 t)
  c_FIRST_YEAR : ∃ t, mg (PySem.Str.ofString "FIRST_YEAR") = some (.int 2000 t)
  c_LAST_YEAR : ∃ t, mg (PySem.Str.ofString "LAST_YEAR") = some (.int 2273 t)
  g_MONTHS : mg (PySem.Str.ofString "MONTHS") = some (.ref (He.ga K (PySem.Str.ofString "MONTHS")))
  c_MONTHS : ∀ G, Dp K G (.ref (He.ga K (PySem.Str.ofString "MONTHS"))) (.tuple [(.int 31), (.int 28), (.int 31), (.int 30), (.int 31), (.int 30), (.int 31), (.int 31), (.int 30), (.int 31), (.int 30), (.int 31)])
  c_PARTS : ∃ t, mg (PySem.Str.ofString "PARTS") = some (.int 3650000 t)
  g_PLAIN : mg (PySem.Str.ofString "PLAIN") = some (.ref (He.ga K (PySem.Str.ofString "PLAIN")))
  c_PLAIN : ∀ G, Dp K G (.ref (He.ga K (PySem.Str.ofString "PLAIN"))) (.tuple [(.tuple [(.int 0), (.int 100)])])
  c_LETTERS : ∃ t, mg (PySem.Str.ofString "LETTERS") = some (.str (PySem.Str.ofString "abcdefghijklmnopqrstuvwxyz") t)
  c_MOST_SIGNS : ∃ t, mg (PySem.Str.ofString "MOST_SIGNS") = some (.int 8 t)
  c_MOST_LEASES : ∃ t, mg (PySem.Str.ofString "MOST_LEASES") = some (.int 20 t)
  c_MOST_CENTS : ∃ t, mg (PySem.Str.ofString "MOST_CENTS") = some (.int 1000000000 t)
  c_MOST_NUMBER : ∃ t, mg (PySem.Str.ofString "MOST_NUMBER") = some (.int 1000000 t)
  c_MOST_RATE : ∃ t, mg (PySem.Str.ofString "MOST_RATE") = some (.int 10000 t)
  x_RentError : ExcF K mg (PySem.Str.ofString "RentError")
  x_BadDay : ExcF K mg (PySem.Str.ofString "BadDay")
  x_BadFlat : ExcF K mg (PySem.Str.ofString "BadFlat")
  x_BadAmount : ExcF K mg (PySem.Str.ofString "BadAmount")
  x_NoLease : ExcF K mg (PySem.Str.ofString "NoLease")
  x_Taken : ExcF K mg (PySem.Str.ofString "Taken")
  x_Full : ExcF K mg (PySem.Str.ofString "Full")
  x_Done : ExcF K mg (PySem.Str.ofString "Done")
  cl_Lease : Cls K (He.ga K (PySem.Str.ofString "Lease"))
  na_Lease_flat : NoAttr K (He.ga K (PySem.Str.ofString "Lease")) (PySem.Str.ofString "flat")
  na_Lease_first : NoAttr K (He.ga K (PySem.Str.ofString "Lease")) (PySem.Str.ofString "first")
  na_Lease_last : NoAttr K (He.ga K (PySem.Str.ofString "Lease")) (PySem.Str.ofString "last")
  na_Lease_indexed : NoAttr K (He.ga K (PySem.Str.ofString "Lease")) (PySem.Str.ofString "indexed")
  na_Lease_steps : NoAttr K (He.ga K (PySem.Str.ofString "Lease")) (PySem.Str.ofString "steps")
  na_Lease_moves : NoAttr K (He.ga K (PySem.Str.ofString "Lease")) (PySem.Str.ofString "moves")
  na_Lease_shut : NoAttr K (He.ga K (PySem.Str.ofString "Lease")) (PySem.Str.ofString "shut")
  na_Lease_rent_out : NoAttr K (He.ga K (PySem.Str.ofString "Lease")) (PySem.Str.ofString "rent_out")
  na_Lease_pledge_out : NoAttr K (He.ga K (PySem.Str.ofString "Lease")) (PySem.Str.ofString "pledge_out")
  mk_Lease : Mk K (He.ga K (PySem.Str.ofString "Lease")) (He.ma K (He.ga K (PySem.Str.ofString "Lease")) (PySem.Str.ofString "__init__"))
  gc_Lease : mg (PySem.Str.ofString "Lease") = some (.ref (He.ga K (PySem.Str.ofString "Lease")))
  cl_Roll : Cls K (He.ga K (PySem.Str.ofString "Roll"))
  na_Roll_leases : NoAttr K (He.ga K (PySem.Str.ofString "Roll")) (PySem.Str.ofString "leases")
  na_Roll_gauges : NoAttr K (He.ga K (PySem.Str.ofString "Roll")) (PySem.Str.ofString "gauges")
  na_Roll_rates : NoAttr K (He.ga K (PySem.Str.ofString "Roll")) (PySem.Str.ofString "rates")
  na_Roll_through : NoAttr K (He.ga K (PySem.Str.ofString "Roll")) (PySem.Str.ofString "through")
  na_Roll_told : NoAttr K (He.ga K (PySem.Str.ofString "Roll")) (PySem.Str.ofString "told")
  mk_Roll : Mk K (He.ga K (PySem.Str.ofString "Roll")) (He.ma K (He.ga K (PySem.Str.ofString "Roll")) (PySem.Str.ofString "__init__"))
  gc_Roll : mg (PySem.Str.ofString "Roll") = some (.ref (He.ga K (PySem.Str.ofString "Roll")))
section
variable {P : Program} {w : World} {K : PySem.W.Frag} {mg : Str → Option Value} {base : Heap}
theorem sc_law_mix : FnScope n_law_mix p_law_mix (defScope st_law_mix) := ⟨rfl, rfl, rfl, by decide +kernel, rfl, by decide +kernel, by decide +kernel⟩
theorem fn_law_mix (T : Txt K mg)  : Fn P w K mg base (PySem.Str.ofString "_law_mix") 1 (spP K 2 f_law_mix) := by
  obtain ⟨fd, F⟩ := T.F_law_mix
  refine mk_P (s := sm_law_mix) rfl rfl rfl T.g_law_mix F sc_law_mix (F.bindsN fun _ _ _ _ _ _ us hl => match us, hl with | [_, _], _ => rfl) (fun cdv A outer st H E hr => ?_)
  have tk : Takes (cxOf (L2.CX P w) P w K mg base n_law_mix (PySem.Str.ofString "_law_mix") (defScope st_law_mix) (He.ga K (PySem.Str.ofString "_law_mix")) cdv A outer st H E) (wishOf E) := takes_of rfl rfl rfl rfl
  have hp : PassesOwn (model P w) (cxOf (L2.CX P w) P w K mg base n_law_mix (PySem.Str.ofString "_law_mix") (defScope st_law_mix) (He.ga K (PySem.Str.ofString "_law_mix")) cdv A outer st H E).A (cxOf (L2.CX P w) P w K mg base n_law_mix (PySem.Str.ofString "_law_mix") (defScope st_law_mix) (He.ga K (PySem.Str.ofString "_law_mix")) cdv A outer st H E).env (cxOf (L2.CX P w) P w K mg base n_law_mix (PySem.Str.ofString "_law_mix") (defScope st_law_mix) (He.ga K (PySem.Str.ofString "_law_mix")) cdv A outer st H E).xe := passes_of rfl
  exact ss_cons (s_set (fun _ h => ps_set (i := 2) sc_law_mix.nd rfl (Or.inl rfl) h) (x_mod (x_add (x_add (x_mul (x_var 0 (pv 0)) x_int) (x_mul (x_var 1 (pv 1)) x_int)) x_int) x_int))
        (ss_one (s_ret (x_mod (x_add (x_add (x_mul (x_var 2 (pv 2)) (x_var 2 (pv 2))) (x_mul x_int (x_var 2 (pv 2)))) (x_var 1 (pv 1))) x_int)))
theorem sc_law_room : FnScope n_law_room p_law_room (defScope st_law_room) := ⟨rfl, rfl, rfl, by decide +kernel, rfl, by decide +kernel, by decide +kernel⟩
theorem fn_law_room (T : Txt K mg)  : Fn P w K mg base (PySem.Str.ofString "_law_room") 1 (spP K 3 f_law_room) := by
  obtain ⟨fd, F⟩ := T.F_law_room
  refine mk_P (s := sm_law_room) rfl rfl rfl T.g_law_room F sc_law_room (F.bindsN fun _ _ _ _ _ _ us hl => match us, hl with | [_, _, _], _ => rfl) (fun cdv A outer st H E hr => ?_)
  have tk : Takes (cxOf (L2.CX P w) P w K mg base n_law_room (PySem.Str.ofString "_law_room") (defScope st_law_room) (He.ga K (PySem.Str.ofString "_law_room")) cdv A outer st H E) (wishOf E) := takes_of rfl rfl rfl rfl
  have hp : PassesOwn (model P w) (cxOf (L2.CX P w) P w K mg base n_law_room (PySem.Str.ofString "_law_room") (defScope st_law_room) (He.ga K (PySem.Str.ofString "_law_room")) cdv A outer st H E).A (cxOf (L2.CX P w) P w K mg base n_law_room (PySem.Str.ofString "_law_room") (defScope st_law_room) (He.ga K (PySem.Str.ofString "_law_room")) cdv A outer st H E).env (cxOf (L2.CX P w) P w K mg base n_law_room (PySem.Str.ofString "_law_room") (defScope st_law_room) (He.ga K (PySem.Str.ofString "_law_room")) cdv A outer st H E).xe := passes_of rfl
  exact ss_cons (s_if (t_cmp k_gt op_gt (x_blt k_len call_len (by rfl) T.n_len PySem.boot_len (a_cons (x_var 0 (pv 0)) a_nil)) x_int (nomark _)) (ss_one (s_ret (x_var 2 (pv 2)))) ss_nil)
        (ss_one (s_ret (x_var 1 (pv 1))))
theorem sc_law_money : FnScope n_law_money p_law_money (defScope st_law_money) := ⟨rfl, rfl, rfl, by decide +kernel, rfl, by decide +kernel, by decide +kernel⟩
theorem fn_law_money (T : Txt K mg)  : Fn P w K mg base (PySem.Str.ofString "_law_money") 1 (spP K 1 f_law_money) := by
  obtain ⟨fd, F⟩ := T.F_law_money
  refine mk_P (s := sm_law_money) rfl rfl rfl T.g_law_money F sc_law_money (F.bindsN fun _ _ _ _ _ _ us hl => match us, hl with | [_], _ => rfl) (fun cdv A outer st H E hr => ?_)
  have tk : Takes (cxOf (L2.CX P w) P w K mg base n_law_money (PySem.Str.ofString "_law_money") (defScope st_law_money) (He.ga K (PySem.Str.ofString "_law_money")) cdv A outer st H E) (wishOf E) := takes_of rfl rfl rfl rfl
  have hp : PassesOwn (model P w) (cxOf (L2.CX P w) P w K mg base n_law_money (PySem.Str.ofString "_law_money") (defScope st_law_money) (He.ga K (PySem.Str.ofString "_law_money")) cdv A outer st H E).A (cxOf (L2.CX P w) P w K mg base n_law_money (PySem.Str.ofString "_law_money") (defScope st_law_money) (He.ga K (PySem.Str.ofString "_law_money")) cdv A outer st H E).env (cxOf (L2.CX P w) P w K mg base n_law_money (PySem.Str.ofString "_law_money") (defScope st_law_money) (He.ga K (PySem.Str.ofString "_law_money")) cdv A outer st H E).xe := passes_of rfl
  exact ss_cons (s_if (t_cmp k_eq (op_eqD (hu64 hr)) (x_mod (x_var 0 (pv 0)) x_int) x_int (nomark _)) (ss_one (s_ret (x_ix k_ixL ix_list (x_lst (a_cons x_int (a_cons x_int (a_cons (x_pow x_int x_int) (a_cons (x_sub (x_pow x_int x_int) x_int) (a_cons x_int (a_cons x_int a_nil))))))) (x_mod (x_div (x_var 0 (pv 0)) x_int) x_int) (fun _ _ => rfl)))) ss_nil)
        (ss_cons (s_if (t_cmp k_eq (op_eqD (hu64 hr)) (x_mod (x_var 0 (pv 0)) x_int) x_int (nomark _)) (ss_one (s_ret (x_mod (x_mul (x_div (x_var 0 (pv 0)) x_int) x_int) (x_add (x_pow x_int x_int) x_int)))) ss_nil)
        (ss_one (s_ret (x_mod (x_div (x_var 0 (pv 0)) x_int) x_int))))
theorem sc_law_number : FnScope n_law_number p_law_number (defScope st_law_number) := ⟨rfl, rfl, rfl, by decide +kernel, rfl, by decide +kernel, by decide +kernel⟩
theorem fn_law_number (T : Txt K mg)  : Fn P w K mg base (PySem.Str.ofString "_law_number") 1 (spP K 1 f_law_number) := by
  obtain ⟨fd, F⟩ := T.F_law_number
  refine mk_P (s := sm_law_number) rfl rfl rfl T.g_law_number F sc_law_number (F.bindsN fun _ _ _ _ _ _ us hl => match us, hl with | [_], _ => rfl) (fun cdv A outer st H E hr => ?_)
  have tk : Takes (cxOf (L2.CX P w) P w K mg base n_law_number (PySem.Str.ofString "_law_number") (defScope st_law_number) (He.ga K (PySem.Str.ofString "_law_number")) cdv A outer st H E) (wishOf E) := takes_of rfl rfl rfl rfl
  have hp : PassesOwn (model P w) (cxOf (L2.CX P w) P w K mg base n_law_number (PySem.Str.ofString "_law_number") (defScope st_law_number) (He.ga K (PySem.Str.ofString "_law_number")) cdv A outer st H E).A (cxOf (L2.CX P w) P w K mg base n_law_number (PySem.Str.ofString "_law_number") (defScope st_law_number) (He.ga K (PySem.Str.ofString "_law_number")) cdv A outer st H E).env (cxOf (L2.CX P w) P w K mg base n_law_number (PySem.Str.ofString "_law_number") (defScope st_law_number) (He.ga K (PySem.Str.ofString "_law_number")) cdv A outer st H E).xe := passes_of rfl
  exact ss_cons (s_if (t_cmp k_eq (op_eqD (hu64 hr)) (x_mod (x_var 0 (pv 0)) x_int) x_int (nomark _)) (ss_one (s_ret (x_ix k_ixL ix_list (x_lst (a_cons x_int (a_cons (x_pow x_int x_int) (a_cons x_int (a_cons x_int a_nil))))) (x_mod (x_div (x_var 0 (pv 0)) x_int) x_int) (fun _ _ => rfl)))) ss_nil)
        (ss_cons (s_if (t_cmp k_eq (op_eqD (hu64 hr)) (x_mod (x_var 0 (pv 0)) x_int) x_int (nomark _)) (ss_one (s_ret (x_add x_int (x_mod (x_mul (x_div (x_var 0 (pv 0)) x_int) x_int) (x_pow x_int x_int))))) ss_nil)
        (ss_one (s_ret (x_add x_int (x_mod (x_div (x_var 0 (pv 0)) x_int) x_int)))))
theorem sc_law_some : FnScope n_law_some p_law_some (defScope st_law_some) := ⟨rfl, rfl, rfl, by decide +kernel, rfl, by decide +kernel, by decide +kernel⟩
theorem fn_law_some (T : Txt K mg) (F_law_mix : Fn P w K mg base (PySem.Str.ofString "_law_mix") 1 (spP K 2 f_law_mix)) (F_law_room : Fn P w K mg base (PySem.Str.ofString "_law_room") 1 (spP K 3 f_law_room)) (F_law_money : Fn P w K mg base (PySem.Str.ofString "_law_money") 1 (spP K 1 f_law_money)) (F_law_number : Fn P w K mg base (PySem.Str.ofString "_law_number") 1 (spP K 1 f_law_number)) : Fn P w K mg base (PySem.Str.ofString "_law_some") 2 (spP K 3 f_law_some) := by
  obtain ⟨fd, F⟩ := T.F_law_some
  refine mk_P (s := sm_law_some) rfl rfl rfl T.g_law_some F sc_law_some (F.bindsN fun _ _ _ _ _ _ us hl => match us, hl with | [_, _, _], _ => rfl) (fun cdv A outer st H E hr => ?_)
  have tk : Takes (cxOf (L2.CX P w) P w K mg base n_law_some (PySem.Str.ofString "_law_some") (defScope st_law_some) (He.ga K (PySem.Str.ofString "_law_some")) cdv A outer st H E) (wishOf E) := takes_of rfl rfl rfl rfl
  have hp : PassesOwn (model P w) (cxOf (L2.CX P w) P w K mg base n_law_some (PySem.Str.ofString "_law_some") (defScope st_law_some) (He.ga K (PySem.Str.ofString "_law_some")) cdv A outer st H E).A (cxOf (L2.CX P w) P w K mg base n_law_some (PySem.Str.ofString "_law_some") (defScope st_law_some) (He.ga K (PySem.Str.ofString "_law_some")) cdv A outer st H E).env (cxOf (L2.CX P w) P w K mg base n_law_some (PySem.Str.ofString "_law_some") (defScope st_law_some) (He.ga K (PySem.Str.ofString "_law_some")) cdv A outer st H E).xe := passes_of rfl
  exact ss_cons (s_set (fun _ h => ps_set (i := 3) sc_law_some.nd rfl (Or.inl rfl) h) (x_lstS a_nil))
        (ss_cons (s_set (fun _ h => ps_set (i := 4) sc_law_some.nd rfl (Or.inl rfl) h) x_tdnew)
        (ss_cons (s_for (tg_name 5) hp rfl (x_sl k_slL sl_list (x_var 0 (pv 0)) (po_s x_int) (po_s (x_add x_int (x_callP F_law_room (hr.mono (by decide)) tk rfl (a_cons (x_var 0 (pv 0)) (a_cons x_int (a_cons x_int a_nil))) rfl (hx := ar_cons (ar_cons (ar_cons ar_nil))))))) (pg_name (i := 5) sc_law_some.nd rfl (Or.inl rfl)) (ss_cons (s_set (fun _ h => ps_set (i := 6) sc_law_some.nd rfl (Or.inl rfl) h) (x_add (x_var 1 (pv 1)) (x_mod (x_callP F_law_mix (hr.mono (by decide)) tk rfl (a_cons (x_var 5 (pv 5)) (a_cons x_int a_nil)) rfl (hx := ar_cons (ar_cons ar_nil))) (x_var 2 (pv 2)))))
        (ss_cons (s_set (fun _ h => ps_set (i := 7) sc_law_some.nd rfl (Or.inl rfl) h) (x_mod (x_callP F_law_mix (hr.mono (by decide)) tk rfl (a_cons (x_var 5 (pv 5)) (a_cons x_int a_nil)) rfl (hx := ar_cons (ar_cons ar_nil))) x_int))
        (ss_cons (s_set (fun _ h => ps_set (i := 8) sc_law_some.nd rfl (Or.inl rfl) h) (x_ix k_ixL ix_list (x_lst (a_cons x_str (a_cons x_str (a_cons x_str (a_cons x_str (a_cons x_str a_nil)))))) (x_mod (x_var 5 (pv 5)) x_int) (fun _ _ => rfl)))
        (ss_cons (s_set (fun _ h => ps_set (i := 9) sc_law_some.nd rfl (Or.inl rfl) h) (x_add x_int (x_mod (x_callP F_law_money (hr.mono (by decide)) tk rfl (a_cons (x_callP F_law_mix (hr.mono (by decide)) tk rfl (a_cons (x_var 5 (pv 5)) (a_cons x_int a_nil)) rfl (hx := ar_cons (ar_cons ar_nil))) a_nil) rfl (hx := ar_cons ar_nil)) (x_pow x_int x_int))))
        (ss_cons (s_if (t_cmp k_eq (op_eqD (hu64 hr)) (x_var 8 (pv 8)) x_str (nomark _)) (ss_cons (s_set (fun _ h => ps_set (i := 10) sc_law_some.nd rfl (Or.inl rfl) h) (x_tup (a_cons (x_var 8 (pv 8)) (a_cons (x_var 6 (pv 6)) (a_cons (x_callP F_law_number (hr.mono (by decide)) tk rfl (a_cons (x_callP F_law_mix (hr.mono (by decide)) tk rfl (a_cons (x_var 5 (pv 5)) (a_cons x_int a_nil)) rfl (hx := ar_cons (ar_cons ar_nil))) a_nil) rfl (hx := ar_cons ar_nil)) a_nil)))))
        (ss_one (s_set (fun _ h => ps_set (i := 7) sc_law_some.nd rfl (Or.inl rfl) h) x_int))) (ss_one (s_if (t_cmp k_eq (op_eqD (hu64 hr)) (x_var 8 (pv 8)) x_str (nomark _)) (ss_cons (s_set (fun _ h => ps_set (i := 10) sc_law_some.nd rfl (Or.inl rfl) h) (x_tup (a_cons (x_var 8 (pv 8)) (a_cons (x_var 6 (pv 6)) (a_cons (x_mod (x_var 9 (pv 9)) (x_add (x_pow x_int x_int) x_int)) a_nil)))))
        (ss_one (s_set (fun _ h => ps_set (i := 7) sc_law_some.nd rfl (Or.inl rfl) h) x_int))) (ss_one (s_set (fun _ h => ps_set (i := 10) sc_law_some.nd rfl (Or.inl rfl) h) (x_tup (a_cons (x_var 8 (pv 8)) (a_cons (x_var 7 (pv 7)) (a_cons (x_var 6 (pv 6)) (a_cons (x_var 9 (pv 9)) a_nil))))))))))
        (ss_one (s_if (t_tdnotin (hu1 hr) (x_tupS (a_cons (x_var 8 (pv 8)) (a_cons (x_var 7 (pv 7)) (a_cons (x_var 6 (pv 6)) a_nil)))) (x_var 4 (pv 4))) (ss_cons (s_tdput (hu1 hr) (x_var 4 (pv 4)) (x_tupS (a_cons (x_var 8 (pv 8)) (a_cons (x_var 7 (pv 7)) (a_cons (x_var 6 (pv 6)) a_nil)))) x_bl)
        (ss_one (s_expr (x_app (x_var 3 (pv 3)) (x_var 10 (pv 10)))))) ss_nil))))))))
        (ss_one (s_ret (x_var 3 (pv 3))))))
theorem sc_Roll__init : FnScope n_Roll__init p_Roll__init (defScope st_Roll__init) := ⟨rfl, rfl, rfl, by decide +kernel, rfl, by decide +kernel, by decide +kernel⟩
theorem fn_Roll__init (T : Txt K mg)  : Md P w K mg base (PySem.Str.ofString "Roll") (PySem.Str.ofString "__init__") 1 (spW K 1 f_Roll__init) := by
  obtain ⟨fd, F⟩ := T.F_Roll__init
  refine mk_MW (s := sm_Roll__init) rfl rfl rfl T.M_Roll__init F sc_Roll__init (F.bindsN fun _ _ _ _ _ _ us hl => match us, hl with | [_], _ => rfl) (fun cdv A outer st H E hr => ?_)
  have tk : Takes (cxOf (L2.CX P w) P w K mg base n_Roll__init (PySem.Str.ofString "Roll.__init__") (defScope st_Roll__init) (He.ma K (He.ga K (PySem.Str.ofString "Roll")) (PySem.Str.ofString "__init__")) cdv A outer st H E) (wishOf E) := takes_of rfl rfl rfl rfl
  have hp : PassesOwn (model P w) (cxOf (L2.CX P w) P w K mg base n_Roll__init (PySem.Str.ofString "Roll.__init__") (defScope st_Roll__init) (He.ma K (He.ga K (PySem.Str.ofString "Roll")) (PySem.Str.ofString "__init__")) cdv A outer st H E).A (cxOf (L2.CX P w) P w K mg base n_Roll__init (PySem.Str.ofString "Roll.__init__") (defScope st_Roll__init) (He.ma K (He.ga K (PySem.Str.ofString "Roll")) (PySem.Str.ofString "__init__")) cdv A outer st H E).env (cxOf (L2.CX P w) P w K mg base n_Roll__init (PySem.Str.ofString "Roll.__init__") (defScope st_Roll__init) (He.ma K (He.ga K (PySem.Str.ofString "Roll")) (PySem.Str.ofString "__init__")) cdv A outer st H E).xe := passes_of rfl
  exact ss_cons (s_fld T.cl_Roll T.na_Roll_leases (x_var 0 (pv 0)) (x_lstS a_nil))
        (ss_cons (s_fld T.cl_Roll T.na_Roll_gauges (x_var 0 (pv 0)) (x_lstS (a_cons (x_tup (a_cons x_int (a_cons x_int a_nil))) a_nil)))
        (ss_cons (s_fld T.cl_Roll T.na_Roll_rates (x_var 0 (pv 0)) (x_lstS (a_cons (x_tup (a_cons x_int (a_cons x_int a_nil))) a_nil)))
        (ss_cons (s_fld T.cl_Roll T.na_Roll_through (x_var 0 (pv 0)) (x_neg x_int))
        (ss_one (s_fld T.cl_Roll T.na_Roll_told (x_var 0 (pv 0)) (x_lstS a_nil))))))
theorem sc_sure_flat : FnScope n_sure_flat p_sure_flat (defScope st_sure_flat) := ⟨rfl, rfl, rfl, by decide +kernel, rfl, by decide +kernel, by decide +kernel⟩
theorem fn_sure_flat (T : Txt K mg)  : Fn P w K mg base (PySem.Str.ofString "sure_flat") 1 (spP K 1 f_sure_flat) := by
  obtain ⟨fd, F⟩ := T.F_sure_flat
  refine mk_P (s := sm_sure_flat) rfl rfl rfl T.g_sure_flat F sc_sure_flat (F.bindsN fun _ _ _ _ _ _ us hl => match us, hl with | [_], _ => rfl) (fun cdv A outer st H E hr => ?_)
  have tk : Takes (cxOf (L2.CX P w) P w K mg base n_sure_flat (PySem.Str.ofString "sure_flat") (defScope st_sure_flat) (He.ga K (PySem.Str.ofString "sure_flat")) cdv A outer st H E) (wishOf E) := takes_of rfl rfl rfl rfl
  have hp : PassesOwn (model P w) (cxOf (L2.CX P w) P w K mg base n_sure_flat (PySem.Str.ofString "sure_flat") (defScope st_sure_flat) (He.ga K (PySem.Str.ofString "sure_flat")) cdv A outer st H E).A (cxOf (L2.CX P w) P w K mg base n_sure_flat (PySem.Str.ofString "sure_flat") (defScope st_sure_flat) (He.ga K (PySem.Str.ofString "sure_flat")) cdv A outer st H E).env (cxOf (L2.CX P w) P w K mg base n_sure_flat (PySem.Str.ofString "sure_flat") (defScope st_sure_flat) (He.ga K (PySem.Str.ofString "sure_flat")) cdv A outer st H E).xe := passes_of rfl
  exact ss_cons (s_if (PW.pt (w_or (t_not (t_val (x_isi T.k_str rfl T.n_isinstance rfl T.n_str (by decide +kernel) (x_var 0 (pv 0))))) (w_or1 (t_not (t_chain k_le op_le k_le op_le x_int (x_blt k_len call_len (by rfl) T.n_len PySem.boot_len (a_cons (x_var 0 (pv 0)) a_nil)) (x_gint rfl T.c_MOST_SIGNS)))))) (ss_one (s_raiseC rfl tk T.x_BadFlat rfl)) ss_nil)
        (ss_one (s_forS hp rfl (x_var 0 (pv 0)) (pg_name (i := 1) sc_sure_flat.nd rfl (Or.inl rfl)) (ss_one (s_if (t_cmp k_notInS op_notIn_sign (x_var 1 (pv 1)) (x_gstr rfl T.c_LETTERS) rfl) (ss_one (s_raiseC rfl tk T.x_BadFlat rfl)) ss_nil))))
theorem sc_is_whole : FnScope n_is_whole p_is_whole (defScope st_is_whole) := ⟨rfl, rfl, rfl, by decide +kernel, rfl, by decide +kernel, by decide +kernel⟩
theorem fn_is_whole (T : Txt K mg)  : Fn P w K mg base (PySem.Str.ofString "is_whole") 1 (spP K 1 f_is_whole) := by
  obtain ⟨fd, F⟩ := T.F_is_whole
  refine mk_P (s := sm_is_whole) rfl rfl rfl T.g_is_whole F sc_is_whole (F.bindsN fun _ _ _ _ _ _ us hl => match us, hl with | [_], _ => rfl) (fun cdv A outer st H E hr => ?_)
  have tk : Takes (cxOf (L2.CX P w) P w K mg base n_is_whole (PySem.Str.ofString "is_whole") (defScope st_is_whole) (He.ga K (PySem.Str.ofString "is_whole")) cdv A outer st H E) (wishOf E) := takes_of rfl rfl rfl rfl
  have hp : PassesOwn (model P w) (cxOf (L2.CX P w) P w K mg base n_is_whole (PySem.Str.ofString "is_whole") (defScope st_is_whole) (He.ga K (PySem.Str.ofString "is_whole")) cdv A outer st H E).A (cxOf (L2.CX P w) P w K mg base n_is_whole (PySem.Str.ofString "is_whole") (defScope st_is_whole) (He.ga K (PySem.Str.ofString "is_whole")) cdv A outer st H E).env (cxOf (L2.CX P w) P w K mg base n_is_whole (PySem.Str.ofString "is_whole") (defScope st_is_whole) (He.ga K (PySem.Str.ofString "is_whole")) cdv A outer st H E).xe := passes_of rfl
  exact ss_one (s_ret (x_and (x_isi T.k_int rfl T.n_isinstance rfl T.n_int (by decide +kernel) (x_var 0 (pv 0))) (x_one (x_not (x_isi T.k_bool rfl T.n_isinstance rfl T.n_bool (by decide +kernel) (x_var 0 (pv 0)))))))
theorem sc_is_within : FnScope n_is_within p_is_within (defScope st_is_within) := ⟨rfl, rfl, rfl, by decide +kernel, rfl, by decide +kernel, by decide +kernel⟩
theorem fn_is_within (T : Txt K mg) (F_is_whole : Fn P w K mg base (PySem.Str.ofString "is_whole") 1 (spP K 1 f_is_whole)) : Fn P w K mg base (PySem.Str.ofString "is_within") 2 (spP K 3 f_is_within) := by
  obtain ⟨fd, F⟩ := T.F_is_within
  refine mk_P (s := sm_is_within) rfl rfl rfl T.g_is_within F sc_is_within (F.bindsN fun _ _ _ _ _ _ us hl => match us, hl with | [_, _, _], _ => rfl) (fun cdv A outer st H E hr => ?_)
  have tk : Takes (cxOf (L2.CX P w) P w K mg base n_is_within (PySem.Str.ofString "is_within") (defScope st_is_within) (He.ga K (PySem.Str.ofString "is_within")) cdv A outer st H E) (wishOf E) := takes_of rfl rfl rfl rfl
  have hp : PassesOwn (model P w) (cxOf (L2.CX P w) P w K mg base n_is_within (PySem.Str.ofString "is_within") (defScope st_is_within) (He.ga K (PySem.Str.ofString "is_within")) cdv A outer st H E).A (cxOf (L2.CX P w) P w K mg base n_is_within (PySem.Str.ofString "is_within") (defScope st_is_within) (He.ga K (PySem.Str.ofString "is_within")) cdv A outer st H E).env (cxOf (L2.CX P w) P w K mg base n_is_within (PySem.Str.ofString "is_within") (defScope st_is_within) (He.ga K (PySem.Str.ofString "is_within")) cdv A outer st H E).xe := passes_of rfl
  exact ss_one (s_ret (x_and (x_callP F_is_whole (hr.mono (by decide)) tk rfl (a_cons (x_var 0 (pv 0)) a_nil) rfl (hx := ar_cons ar_nil)) (x_one (x_chain k_le op_le k_le op_le (x_var 1 (pv 1)) (x_var 0 (pv 0)) (x_var 2 (pv 2))))))
theorem sc_sure_day : FnScope n_sure_day p_sure_day (defScope st_sure_day) := ⟨rfl, rfl, rfl, by decide +kernel, rfl, by decide +kernel, by decide +kernel⟩
theorem fn_sure_day (T : Txt K mg) (F_is_within : Fn P w K mg base (PySem.Str.ofString "is_within") 2 (spP K 3 f_is_within)) : Fn P w K mg base (PySem.Str.ofString "sure_day") 3 (spP K 1 f_sure_day) := by
  obtain ⟨fd, F⟩ := T.F_sure_day
  refine mk_P (s := sm_sure_day) rfl rfl rfl T.g_sure_day F sc_sure_day (F.bindsN fun _ _ _ _ _ _ us hl => match us, hl with | [_], _ => rfl) (fun cdv A outer st H E hr => ?_)
  have tk : Takes (cxOf (L2.CX P w) P w K mg base n_sure_day (PySem.Str.ofString "sure_day") (defScope st_sure_day) (He.ga K (PySem.Str.ofString "sure_day")) cdv A outer st H E) (wishOf E) := takes_of rfl rfl rfl rfl
  have hp : PassesOwn (model P w) (cxOf (L2.CX P w) P w K mg base n_sure_day (PySem.Str.ofString "sure_day") (defScope st_sure_day) (He.ga K (PySem.Str.ofString "sure_day")) cdv A outer st H E).A (cxOf (L2.CX P w) P w K mg base n_sure_day (PySem.Str.ofString "sure_day") (defScope st_sure_day) (He.ga K (PySem.Str.ofString "sure_day")) cdv A outer st H E).env (cxOf (L2.CX P w) P w K mg base n_sure_day (PySem.Str.ofString "sure_day") (defScope st_sure_day) (He.ga K (PySem.Str.ofString "sure_day")) cdv A outer st H E).xe := passes_of rfl
  exact ss_one (s_if (t_not (t_val (x_callP F_is_within (hr.mono (by decide)) tk rfl (a_cons (x_var 0 (pv 0)) (a_cons x_int (a_cons (x_gint rfl T.c_LAST_DAY) a_nil))) rfl (hx := ar_cons (ar_cons (ar_cons ar_nil)))))) (ss_one (s_raiseC rfl tk T.x_BadDay rfl)) ss_nil)
theorem sc_sure_amount : FnScope n_sure_amount p_sure_amount (defScope st_sure_amount) := ⟨rfl, rfl, rfl, by decide +kernel, rfl, by decide +kernel, by decide +kernel⟩
theorem fn_sure_amount (T : Txt K mg) (F_is_within : Fn P w K mg base (PySem.Str.ofString "is_within") 2 (spP K 3 f_is_within)) : Fn P w K mg base (PySem.Str.ofString "sure_amount") 3 (spP K 3 f_sure_amount) := by
  obtain ⟨fd, F⟩ := T.F_sure_amount
  refine mk_P (s := sm_sure_amount) rfl rfl rfl T.g_sure_amount F sc_sure_amount (F.bindsN fun _ _ _ _ _ _ us hl => match us, hl with | [_, _, _], _ => rfl) (fun cdv A outer st H E hr => ?_)
  have tk : Takes (cxOf (L2.CX P w) P w K mg base n_sure_amount (PySem.Str.ofString "sure_amount") (defScope st_sure_amount) (He.ga K (PySem.Str.ofString "sure_amount")) cdv A outer st H E) (wishOf E) := takes_of rfl rfl rfl rfl
  have hp : PassesOwn (model P w) (cxOf (L2.CX P w) P w K mg base n_sure_amount (PySem.Str.ofString "sure_amount") (defScope st_sure_amount) (He.ga K (PySem.Str.ofString "sure_amount")) cdv A outer st H E).A (cxOf (L2.CX P w) P w K mg base n_sure_amount (PySem.Str.ofString "sure_amount") (defScope st_sure_amount) (He.ga K (PySem.Str.ofString "sure_amount")) cdv A outer st H E).env (cxOf (L2.CX P w) P w K mg base n_sure_amount (PySem.Str.ofString "sure_amount") (defScope st_sure_amount) (He.ga K (PySem.Str.ofString "sure_amount")) cdv A outer st H E).xe := passes_of rfl
  exact ss_one (s_if (t_not (t_val (x_callP F_is_within (hr.mono (by decide)) tk rfl (a_cons (x_var 0 (pv 0)) (a_cons (x_var 1 (pv 1)) (a_cons (x_var 2 (pv 2)) a_nil))) rfl (hx := ar_cons (ar_cons (ar_cons ar_nil)))))) (ss_one (s_raiseC rfl tk T.x_BadAmount rfl)) ss_nil)
theorem sc_leaps_ahead : FnScope n_leaps_ahead p_leaps_ahead (defScope st_leaps_ahead) := ⟨rfl, rfl, rfl, by decide +kernel, rfl, by decide +kernel, by decide +kernel⟩
theorem fn_leaps_ahead (T : Txt K mg)  : Fn P w K mg base (PySem.Str.ofString "leaps_ahead") 1 (spP K 1 f_leaps_ahead) := by
  obtain ⟨fd, F⟩ := T.F_leaps_ahead
  refine mk_P (s := sm_leaps_ahead) rfl rfl rfl T.g_leaps_ahead F sc_leaps_ahead (F.bindsN fun _ _ _ _ _ _ us hl => match us, hl with | [_], _ => rfl) (fun cdv A outer st H E hr => ?_)
  have tk : Takes (cxOf (L2.CX P w) P w K mg base n_leaps_ahead (PySem.Str.ofString "leaps_ahead") (defScope st_leaps_ahead) (He.ga K (PySem.Str.ofString "leaps_ahead")) cdv A outer st H E) (wishOf E) := takes_of rfl rfl rfl rfl
  have hp : PassesOwn (model P w) (cxOf (L2.CX P w) P w K mg base n_leaps_ahead (PySem.Str.ofString "leaps_ahead") (defScope st_leaps_ahead) (He.ga K (PySem.Str.ofString "leaps_ahead")) cdv A outer st H E).A (cxOf (L2.CX P w) P w K mg base n_leaps_ahead (PySem.Str.ofString "leaps_ahead") (defScope st_leaps_ahead) (He.ga K (PySem.Str.ofString "leaps_ahead")) cdv A outer st H E).env (cxOf (L2.CX P w) P w K mg base n_leaps_ahead (PySem.Str.ofString "leaps_ahead") (defScope st_leaps_ahead) (He.ga K (PySem.Str.ofString "leaps_ahead")) cdv A outer st H E).xe := passes_of rfl
  exact ss_cons (s_set (fun _ h => ps_set (i := 1) sc_leaps_ahead.nd rfl (Or.inl rfl) h) (x_sub (x_var 0 (pv 0)) x_int))
        (ss_one (s_ret (x_sub (x_add (x_sub (x_div (x_var 1 (pv 1)) x_int) (x_div (x_var 1 (pv 1)) x_int)) (x_div (x_var 1 (pv 1)) x_int)) x_int)))
theorem sc_year_start : FnScope n_year_start p_year_start (defScope st_year_start) := ⟨rfl, rfl, rfl, by decide +kernel, rfl, by decide +kernel, by decide +kernel⟩
theorem fn_year_start (T : Txt K mg) (F_leaps_ahead : Fn P w K mg base (PySem.Str.ofString "leaps_ahead") 1 (spP K 1 f_leaps_ahead)) : Fn P w K mg base (PySem.Str.ofString "year_start") 2 (spP K 1 f_year_start) := by
  obtain ⟨fd, F⟩ := T.F_year_start
  refine mk_P (s := sm_year_start) rfl rfl rfl T.g_year_start F sc_year_start (F.bindsN fun _ _ _ _ _ _ us hl => match us, hl with | [_], _ => rfl) (fun cdv A outer st H E hr => ?_)
  have tk : Takes (cxOf (L2.CX P w) P w K mg base n_year_start (PySem.Str.ofString "year_start") (defScope st_year_start) (He.ga K (PySem.Str.ofString "year_start")) cdv A outer st H E) (wishOf E) := takes_of rfl rfl rfl rfl
  have hp : PassesOwn (model P w) (cxOf (L2.CX P w) P w K mg base n_year_start (PySem.Str.ofString "year_start") (defScope st_year_start) (He.ga K (PySem.Str.ofString "year_start")) cdv A outer st H E).A (cxOf (L2.CX P w) P w K mg base n_year_start (PySem.Str.ofString "year_start") (defScope st_year_start) (He.ga K (PySem.Str.ofString "year_start")) cdv A outer st H E).env (cxOf (L2.CX P w) P w K mg base n_year_start (PySem.Str.ofString "year_start") (defScope st_year_start) (He.ga K (PySem.Str.ofString "year_start")) cdv A outer st H E).xe := passes_of rfl
  exact ss_one (s_ret (x_add (x_mul x_int (x_sub (x_var 0 (pv 0)) (x_gint rfl T.c_FIRST_YEAR))) (x_callP F_leaps_ahead (hr.mono (by decide)) tk rfl (a_cons (x_var 0 (pv 0)) a_nil) rfl (hx := ar_cons ar_nil))))
theorem sc_is_leap : FnScope n_is_leap p_is_leap (defScope st_is_leap) := ⟨rfl, rfl, rfl, by decide +kernel, rfl, by decide +kernel, by decide +kernel⟩
theorem fn_is_leap (T : Txt K mg)  : Fn P w K mg base (PySem.Str.ofString "is_leap") 1 (spP K 1 f_is_leap) := by
  obtain ⟨fd, F⟩ := T.F_is_leap
  refine mk_P (s := sm_is_leap) rfl rfl rfl T.g_is_leap F sc_is_leap (F.bindsN fun _ _ _ _ _ _ us hl => match us, hl with | [_], _ => rfl) (fun cdv A outer st H E hr => ?_)
  have tk : Takes (cxOf (L2.CX P w) P w K mg base n_is_leap (PySem.Str.ofString "is_leap") (defScope st_is_leap) (He.ga K (PySem.Str.ofString "is_leap")) cdv A outer st H E) (wishOf E) := takes_of rfl rfl rfl rfl
  have hp : PassesOwn (model P w) (cxOf (L2.CX P w) P w K mg base n_is_leap (PySem.Str.ofString "is_leap") (defScope st_is_leap) (He.ga K (PySem.Str.ofString "is_leap")) cdv A outer st H E).A (cxOf (L2.CX P w) P w K mg base n_is_leap (PySem.Str.ofString "is_leap") (defScope st_is_leap) (He.ga K (PySem.Str.ofString "is_leap")) cdv A outer st H E).env (cxOf (L2.CX P w) P w K mg base n_is_leap (PySem.Str.ofString "is_leap") (defScope st_is_leap) (He.ga K (PySem.Str.ofString "is_leap")) cdv A outer st H E).xe := passes_of rfl
  exact ss_one (s_ret (x_or (x_and (x_cmp k_eq (op_eqD (hu64 hr)) (x_mod (x_var 0 (pv 0)) x_int) x_int (nomark _)) (x_one (x_cmp k_ne (op_neD (hu64 hr)) (x_mod (x_var 0 (pv 0)) x_int) x_int (nomark _)))) (x_one (x_cmp k_eq (op_eqD (hu64 hr)) (x_mod (x_var 0 (pv 0)) x_int) x_int (nomark _)))))
theorem sc_length_of : FnScope n_length_of p_length_of (defScope st_length_of) := ⟨rfl, rfl, rfl, by decide +kernel, rfl, by decide +kernel, by decide +kernel⟩
theorem fn_length_of (T : Txt K mg) (F_is_leap : Fn P w K mg base (PySem.Str.ofString "is_leap") 1 (spP K 1 f_is_leap)) : Fn P w K mg base (PySem.Str.ofString "length_of") 2 (spP K 2 f_length_of) := by
  obtain ⟨fd, F⟩ := T.F_length_of
  refine mk_P (s := sm_length_of) rfl rfl rfl T.g_length_of F sc_length_of (F.bindsN fun _ _ _ _ _ _ us hl => match us, hl with | [_, _], _ => rfl) (fun cdv A outer st H E hr => ?_)
  have tk : Takes (cxOf (L2.CX P w) P w K mg base n_length_of (PySem.Str.ofString "length_of") (defScope st_length_of) (He.ga K (PySem.Str.ofString "length_of")) cdv A outer st H E) (wishOf E) := takes_of rfl rfl rfl rfl
  have hp : PassesOwn (model P w) (cxOf (L2.CX P w) P w K mg base n_length_of (PySem.Str.ofString "length_of") (defScope st_length_of) (He.ga K (PySem.Str.ofString "length_of")) cdv A outer st H E).A (cxOf (L2.CX P w) P w K mg base n_length_of (PySem.Str.ofString "length_of") (defScope st_length_of) (He.ga K (PySem.Str.ofString "length_of")) cdv A outer st H E).env (cxOf (L2.CX P w) P w K mg base n_length_of (PySem.Str.ofString "length_of") (defScope st_length_of) (He.ga K (PySem.Str.ofString "length_of")) cdv A outer st H E).xe := passes_of rfl
  exact ss_cons (s_if (PW.pt (w_and (t_cmp k_eq (op_eqD (hu64 hr)) (x_var 1 (pv 1)) x_int (nomark _)) (w_and1 (t_val (x_callP F_is_leap (hr.mono (by decide)) tk rfl (a_cons (x_var 0 (pv 0)) a_nil) rfl (hx := ar_cons ar_nil)))))) (ss_one (s_ret x_int)) ss_nil)
        (ss_one (s_ret (x_ix k_ixT ix_tup (x_gtup rfl T.g_MONTHS T.c_MONTHS) (x_sub (x_var 1 (pv 1)) x_int) (fun _ _ => rfl))))
theorem sc_month_of : FnScope n_month_of p_month_of (defScope st_month_of) := ⟨rfl, rfl, rfl, by decide +kernel, rfl, by decide +kernel, by decide +kernel⟩
theorem fn_month_of (T : Txt K mg) (F_sure_day : Fn P w K mg base (PySem.Str.ofString "sure_day") 3 (spP K 1 f_sure_day)) (F_year_start : Fn P w K mg base (PySem.Str.ofString "year_start") 2 (spP K 1 f_year_start)) (F_length_of : Fn P w K mg base (PySem.Str.ofString "length_of") 2 (spP K 2 f_length_of)) : Fn P w K mg base (PySem.Str.ofString "month_of") 4 (spP K 1 f_month_of) := by
  obtain ⟨fd, F⟩ := T.F_month_of
  refine mk_P (s := sm_month_of) rfl rfl rfl T.g_month_of F sc_month_of (F.bindsN fun _ _ _ _ _ _ us hl => match us, hl with | [_], _ => rfl) (fun cdv A outer st H E hr => ?_)
  have tk : Takes (cxOf (L2.CX P w) P w K mg base n_month_of (PySem.Str.ofString "month_of") (defScope st_month_of) (He.ga K (PySem.Str.ofString "month_of")) cdv A outer st H E) (wishOf E) := takes_of rfl rfl rfl rfl
  have hp : PassesOwn (model P w) (cxOf (L2.CX P w) P w K mg base n_month_of (PySem.Str.ofString "month_of") (defScope st_month_of) (He.ga K (PySem.Str.ofString "month_of")) cdv A outer st H E).A (cxOf (L2.CX P w) P w K mg base n_month_of (PySem.Str.ofString "month_of") (defScope st_month_of) (He.ga K (PySem.Str.ofString "month_of")) cdv A outer st H E).env (cxOf (L2.CX P w) P w K mg base n_month_of (PySem.Str.ofString "month_of") (defScope st_month_of) (He.ga K (PySem.Str.ofString "month_of")) cdv A outer st H E).xe := passes_of rfl
  exact ss_cons (s_expr (x_callP F_sure_day (hr.mono (by decide)) tk rfl (a_cons (x_var 0 (pv 0)) a_nil) rfl (hx := ar_cons ar_nil)))
        (ss_cons (s_set (fun _ h => ps_set (i := 1) sc_month_of.nd rfl (Or.inl rfl) h) (x_add (x_gint rfl T.c_FIRST_YEAR) (x_div (x_var 0 (pv 0)) x_int)))
        (ss_cons (s_while hp (t_cmp k_le op_le (x_callP F_year_start (hr.mono (by decide)) tk rfl (a_cons (x_add (x_var 1 (pv 1)) x_int) a_nil) rfl (hx := ar_cons ar_nil)) (x_var 0 (pv 0)) (nomark _)) (ss_one (s_set (fun _ h => ps_set (i := 1) sc_month_of.nd rfl (Or.inl rfl) h) (x_add (x_var 1 (pv 1)) x_int))))
        (ss_cons (s_set (fun _ h => ps_set (i := 2) sc_month_of.nd rfl (Or.inl rfl) h) (x_sub (x_var 0 (pv 0)) (x_callP F_year_start (hr.mono (by decide)) tk rfl (a_cons (x_var 1 (pv 1)) a_nil) rfl (hx := ar_cons ar_nil))))
        (ss_cons (s_set (fun _ h => ps_set (i := 3) sc_month_of.nd rfl (Or.inl rfl) h) x_int)
        (ss_cons (s_while hp (t_cmp k_ge op_ge (x_var 2 (pv 2)) (x_callP F_length_of (hr.mono (by decide)) tk rfl (a_cons (x_var 1 (pv 1)) (a_cons (x_var 3 (pv 3)) a_nil)) rfl (hx := ar_cons (ar_cons ar_nil))) (nomark _)) (ss_cons (s_set (fun _ h => ps_set (i := 2) sc_month_of.nd rfl (Or.inl rfl) h) (x_sub (x_var 2 (pv 2)) (x_callP F_length_of (hr.mono (by decide)) tk rfl (a_cons (x_var 1 (pv 1)) (a_cons (x_var 3 (pv 3)) a_nil)) rfl (hx := ar_cons (ar_cons ar_nil)))))
        (ss_one (s_set (fun _ h => ps_set (i := 3) sc_month_of.nd rfl (Or.inl rfl) h) (x_add (x_var 3 (pv 3)) x_int)))))
        (ss_one (s_ret (x_tup (a_cons (x_var 1 (pv 1)) (a_cons (x_var 3 (pv 3)) (a_cons (x_add (x_var 2 (pv 2)) x_int) a_nil)))))))))))
theorem sc_month_days : FnScope n_month_days p_month_days (defScope st_month_days) := ⟨rfl, rfl, rfl, by decide +kernel, rfl, by decide +kernel, by decide +kernel⟩
theorem fn_month_days (T : Txt K mg) (F_length_of : Fn P w K mg base (PySem.Str.ofString "length_of") 2 (spP K 2 f_length_of)) (F_is_within : Fn P w K mg base (PySem.Str.ofString "is_within") 2 (spP K 3 f_is_within)) : Fn P w K mg base (PySem.Str.ofString "month_days") 3 (spP K 2 f_month_days) := by
  obtain ⟨fd, F⟩ := T.F_month_days
  refine mk_P (s := sm_month_days) rfl rfl rfl T.g_month_days F sc_month_days (F.bindsN fun _ _ _ _ _ _ us hl => match us, hl with | [_, _], _ => rfl) (fun cdv A outer st H E hr => ?_)
  have tk : Takes (cxOf (L2.CX P w) P w K mg base n_month_days (PySem.Str.ofString "month_days") (defScope st_month_days) (He.ga K (PySem.Str.ofString "month_days")) cdv A outer st H E) (wishOf E) := takes_of rfl rfl rfl rfl
  have hp : PassesOwn (model P w) (cxOf (L2.CX P w) P w K mg base n_month_days (PySem.Str.ofString "month_days") (defScope st_month_days) (He.ga K (PySem.Str.ofString "month_days")) cdv A outer st H E).A (cxOf (L2.CX P w) P w K mg base n_month_days (PySem.Str.ofString "month_days") (defScope st_month_days) (He.ga K (PySem.Str.ofString "month_days")) cdv A outer st H E).env (cxOf (L2.CX P w) P w K mg base n_month_days (PySem.Str.ofString "month_days") (defScope st_month_days) (He.ga K (PySem.Str.ofString "month_days")) cdv A outer st H E).xe := passes_of rfl
  exact ss_cons (s_if (PW.pt (w_or (t_not (t_val (x_callP F_is_within (hr.mono (by decide)) tk rfl (a_cons (x_var 0 (pv 0)) (a_cons (x_gint rfl T.c_FIRST_YEAR) (a_cons (x_gint rfl T.c_LAST_YEAR) a_nil))) rfl (hx := ar_cons (ar_cons (ar_cons ar_nil)))))) (w_or1 (t_not (t_val (x_callP F_is_within (hr.mono (by decide)) tk rfl (a_cons (x_var 1 (pv 1)) (a_cons x_int (a_cons x_int a_nil))) rfl (hx := ar_cons (ar_cons (ar_cons ar_nil))))))))) (ss_one (s_raiseC rfl tk T.x_BadDay rfl)) ss_nil)
        (ss_one (s_ret (x_callP F_length_of (hr.mono (by decide)) tk rfl (a_cons (x_var 0 (pv 0)) (a_cons (x_var 1 (pv 1)) a_nil)) rfl (hx := ar_cons (ar_cons ar_nil)))))
theorem sc_unchanged_through : FnScope n_unchanged_through p_unchanged_through (defScope st_unchanged_through) := ⟨rfl, rfl, rfl, by decide +kernel, rfl, by decide +kernel, by decide +kernel⟩
theorem fn_unchanged_through (T : Txt K mg)  : Fn P w K mg base (PySem.Str.ofString "unchanged_through") 1 (spP K 3 f_unchanged_through) := by
  obtain ⟨fd, F⟩ := T.F_unchanged_through
  refine mk_P (s := sm_unchanged_through) rfl rfl rfl T.g_unchanged_through F sc_unchanged_through (F.bindsN fun _ _ _ _ _ _ us hl => match us, hl with | [_, _, _], _ => rfl) (fun cdv A outer st H E hr => ?_)
  have tk : Takes (cxOf (L2.CX P w) P w K mg base n_unchanged_through (PySem.Str.ofString "unchanged_through") (defScope st_unchanged_through) (He.ga K (PySem.Str.ofString "unchanged_through")) cdv A outer st H E) (wishOf E) := takes_of rfl rfl rfl rfl
  have hp : PassesOwn (model P w) (cxOf (L2.CX P w) P w K mg base n_unchanged_through (PySem.Str.ofString "unchanged_through") (defScope st_unchanged_through) (He.ga K (PySem.Str.ofString "unchanged_through")) cdv A outer st H E).A (cxOf (L2.CX P w) P w K mg base n_unchanged_through (PySem.Str.ofString "unchanged_through") (defScope st_unchanged_through) (He.ga K (PySem.Str.ofString "unchanged_through")) cdv A outer st H E).env (cxOf (L2.CX P w) P w K mg base n_unchanged_through (PySem.Str.ofString "unchanged_through") (defScope st_unchanged_through) (He.ga K (PySem.Str.ofString "unchanged_through")) cdv A outer st H E).xe := passes_of rfl
  exact ss_cons (s_for (tg_name 3) hp rfl (x_var 0 (pv 0)) (pg_name (i := 3) sc_unchanged_through.nd rfl (Or.inl rfl)) (ss_one (s_if (t_chain k_lt op_lt k_le op_le (x_var 1 (pv 1)) (x_ix k_ixT ix_tup (x_var 3 (pv 3)) x_int (fun _ _ => rfl)) (x_var 2 (pv 2))) (ss_one (s_set (fun _ h => ps_set (i := 2) sc_unchanged_through.nd rfl (Or.inl rfl) h) (x_sub (x_ix k_ixT ix_tup (x_var 3 (pv 3)) x_int (fun _ _ => rfl)) x_int))) ss_nil)))
        (ss_one (s_ret (x_var 2 (pv 2))))
theorem sc_stretch : FnScope n_stretch p_stretch (defScope st_stretch) := ⟨rfl, rfl, rfl, by decide +kernel, rfl, by decide +kernel, by decide +kernel⟩
theorem fn_stretch (T : Txt K mg)  : Fn P w K mg base (PySem.Str.ofString "stretch") 1 (spP K 4 f_stretch) := by
  obtain ⟨fd, F⟩ := T.F_stretch
  refine mk_P (s := sm_stretch) rfl rfl rfl T.g_stretch F sc_stretch (F.bindsN fun _ _ _ _ _ _ us hl => match us, hl with | [_, _, _, _], _ => rfl) (fun cdv A outer st H E hr => ?_)
  have tk : Takes (cxOf (L2.CX P w) P w K mg base n_stretch (PySem.Str.ofString "stretch") (defScope st_stretch) (He.ga K (PySem.Str.ofString "stretch")) cdv A outer st H E) (wishOf E) := takes_of rfl rfl rfl rfl
  have hp : PassesOwn (model P w) (cxOf (L2.CX P w) P w K mg base n_stretch (PySem.Str.ofString "stretch") (defScope st_stretch) (He.ga K (PySem.Str.ofString "stretch")) cdv A outer st H E).A (cxOf (L2.CX P w) P w K mg base n_stretch (PySem.Str.ofString "stretch") (defScope st_stretch) (He.ga K (PySem.Str.ofString "stretch")) cdv A outer st H E).env (cxOf (L2.CX P w) P w K mg base n_stretch (PySem.Str.ofString "stretch") (defScope st_stretch) (He.ga K (PySem.Str.ofString "stretch")) cdv A outer st H E).xe := passes_of rfl
  exact ss_one (s_ret (x_sub (x_div (x_mul (x_var 0 (pv 0)) (x_sub (x_add (x_var 1 (pv 1)) (x_var 2 (pv 2))) x_int)) (x_var 3 (pv 3))) (x_div (x_mul (x_var 0 (pv 0)) (x_sub (x_var 1 (pv 1)) x_int)) (x_var 3 (pv 3)))))
theorem sc_pair_held : FnScope n_pair_held p_pair_held (defScope st_pair_held) := ⟨rfl, rfl, rfl, by decide +kernel, rfl, by decide +kernel, by decide +kernel⟩
theorem fn_pair_held (T : Txt K mg)  : Fn P w K mg base (PySem.Str.ofString "pair_held") 1 (spP K 2 f_pair_held) := by
  obtain ⟨fd, F⟩ := T.F_pair_held
  refine mk_P (s := sm_pair_held) rfl rfl rfl T.g_pair_held F sc_pair_held (F.bindsN fun _ _ _ _ _ _ us hl => match us, hl with | [_, _], _ => rfl) (fun cdv A outer st H E hr => ?_)
  have tk : Takes (cxOf (L2.CX P w) P w K mg base n_pair_held (PySem.Str.ofString "pair_held") (defScope st_pair_held) (He.ga K (PySem.Str.ofString "pair_held")) cdv A outer st H E) (wishOf E) := takes_of rfl rfl rfl rfl
  have hp : PassesOwn (model P w) (cxOf (L2.CX P w) P w K mg base n_pair_held (PySem.Str.ofString "pair_held") (defScope st_pair_held) (He.ga K (PySem.Str.ofString "pair_held")) cdv A outer st H E).A (cxOf (L2.CX P w) P w K mg base n_pair_held (PySem.Str.ofString "pair_held") (defScope st_pair_held) (He.ga K (PySem.Str.ofString "pair_held")) cdv A outer st H E).env (cxOf (L2.CX P w) P w K mg base n_pair_held (PySem.Str.ofString "pair_held") (defScope st_pair_held) (He.ga K (PySem.Str.ofString "pair_held")) cdv A outer st H E).xe := passes_of rfl
  exact ss_cons (s_set (fun _ h => ps_set (i := 2) sc_pair_held.nd rfl (Or.inl rfl) h) x_non)
        (ss_cons (s_for (tg_name 3) hp rfl (x_var 0 (pv 0)) (pg_name (i := 3) sc_pair_held.nd rfl (Or.inl rfl)) (ss_one (s_if (PW.pt (w_and (t_cmp k_le op_le (x_ix k_ixT ix_tup (x_var 3 (pv 3)) x_int (fun _ _ => rfl)) (x_var 1 (pv 1)) (nomark _)) (w_and1 (PW.pt (w_or (t_cmp k_isN op_isN (x_var 2 (pv 2)) x_non (nomark _)) (w_or1 (t_cmp k_ge op_ge (x_ix k_ixT ix_tup (x_var 3 (pv 3)) x_int (fun _ _ => rfl)) (x_ix k_ixT ix_tup (x_var 2 (pv 2)) x_int (fun _ _ => rfl)) (nomark _)))))))) (ss_one (s_set (fun _ h => ps_set (i := 2) sc_pair_held.nd rfl (Or.inl rfl) h) (x_var 3 (pv 3)))) ss_nil)))
        (ss_one (s_ret (x_var 2 (pv 2)))))
theorem sc_held : FnScope n_held p_held (defScope st_held) := ⟨rfl, rfl, rfl, by decide +kernel, rfl, by decide +kernel, by decide +kernel⟩
theorem fn_held (T : Txt K mg) (F_pair_held : Fn P w K mg base (PySem.Str.ofString "pair_held") 1 (spP K 2 f_pair_held)) : Fn P w K mg base (PySem.Str.ofString "held") 2 (spP K 2 f_held) := by
  obtain ⟨fd, F⟩ := T.F_held
  refine mk_P (s := sm_held) rfl rfl rfl T.g_held F sc_held (F.bindsN fun _ _ _ _ _ _ us hl => match us, hl with | [_, _], _ => rfl) (fun cdv A outer st H E hr => ?_)
  have tk : Takes (cxOf (L2.CX P w) P w K mg base n_held (PySem.Str.ofString "held") (defScope st_held) (He.ga K (PySem.Str.ofString "held")) cdv A outer st H E) (wishOf E) := takes_of rfl rfl rfl rfl
  have hp : PassesOwn (model P w) (cxOf (L2.CX P w) P w K mg base n_held (PySem.Str.ofString "held") (defScope st_held) (He.ga K (PySem.Str.ofString "held")) cdv A outer st H E).A (cxOf (L2.CX P w) P w K mg base n_held (PySem.Str.ofString "held") (defScope st_held) (He.ga K (PySem.Str.ofString "held")) cdv A outer st H E).env (cxOf (L2.CX P w) P w K mg base n_held (PySem.Str.ofString "held") (defScope st_held) (He.ga K (PySem.Str.ofString "held")) cdv A outer st H E).xe := passes_of rfl
  exact ss_cons (s_set (fun _ h => ps_set (i := 2) sc_held.nd rfl (Or.inl rfl) h) (x_callP F_pair_held (hr.mono (by decide)) tk rfl (a_cons (x_var 0 (pv 0)) (a_cons (x_var 1 (pv 1)) a_nil)) rfl (hx := ar_cons (ar_cons ar_nil))))
        (ss_cons (s_if (t_cmp k_isN op_isN (x_var 2 (pv 2)) x_non (nomark _)) (ss_one (s_ret x_non)) ss_nil)
        (ss_one (s_ret (x_ix k_ixT ix_tup (x_var 2 (pv 2)) x_int (fun _ _ => rfl)))))
theorem sc_rent_on : FnScope n_rent_on p_rent_on (defScope st_rent_on) := ⟨rfl, rfl, rfl, by decide +kernel, rfl, by decide +kernel, by decide +kernel⟩
theorem fn_rent_on (T : Txt K mg) (F_pair_held : Fn P w K mg base (PySem.Str.ofString "pair_held") 1 (spP K 2 f_pair_held)) (F_held : Fn P w K mg base (PySem.Str.ofString "held") 2 (spP K 2 f_held)) : Fn P w K mg base (PySem.Str.ofString "rent_on") 3 (spP K 3 f_rent_on) := by
  obtain ⟨fd, F⟩ := T.F_rent_on
  refine mk_P (s := sm_rent_on) rfl rfl rfl T.g_rent_on F sc_rent_on (F.bindsN fun _ _ _ _ _ _ us hl => match us, hl with | [_, _, _], _ => rfl) (fun cdv A outer st H E hr => ?_)
  have tk : Takes (cxOf (L2.CX P w) P w K mg base n_rent_on (PySem.Str.ofString "rent_on") (defScope st_rent_on) (He.ga K (PySem.Str.ofString "rent_on")) cdv A outer st H E) (wishOf E) := takes_of rfl rfl rfl rfl
  have hp : PassesOwn (model P w) (cxOf (L2.CX P w) P w K mg base n_rent_on (PySem.Str.ofString "rent_on") (defScope st_rent_on) (He.ga K (PySem.Str.ofString "rent_on")) cdv A outer st H E).A (cxOf (L2.CX P w) P w K mg base n_rent_on (PySem.Str.ofString "rent_on") (defScope st_rent_on) (He.ga K (PySem.Str.ofString "rent_on")) cdv A outer st H E).env (cxOf (L2.CX P w) P w K mg base n_rent_on (PySem.Str.ofString "rent_on") (defScope st_rent_on) (He.ga K (PySem.Str.ofString "rent_on")) cdv A outer st H E).xe := passes_of rfl
  exact ss_cons (s_set (fun _ h => ps_set (i := 3) sc_rent_on.nd rfl (Or.inl rfl) h) (x_callP F_pair_held (hr.mono (by decide)) tk rfl (a_cons (x_var 0 (pv 0)) (a_cons (x_var 2 (pv 2)) a_nil)) rfl (hx := ar_cons (ar_cons ar_nil))))
        (ss_cons (s_if (t_cmp k_isN op_isN (x_var 3 (pv 3)) x_non (nomark _)) (ss_one (s_ret x_int)) ss_nil)
        (ss_one (s_ret (x_div (x_mul (x_ix k_ixT ix_tup (x_var 3 (pv 3)) x_int (fun _ _ => rfl)) (x_callP F_held (hr.mono (by decide)) tk rfl (a_cons (x_var 1 (pv 1)) (a_cons (x_var 2 (pv 2)) a_nil)) rfl (hx := ar_cons (ar_cons ar_nil)))) (x_callP F_held (hr.mono (by decide)) tk rfl (a_cons (x_var 1 (pv 1)) (a_cons (x_ix k_ixT ix_tup (x_var 3 (pv 3)) x_int (fun _ _ => rfl)) a_nil)) rfl (hx := ar_cons (ar_cons ar_nil)))))))
theorem sc_owed : FnScope n_owed p_owed (defScope st_owed) := ⟨rfl, rfl, rfl, by decide +kernel, rfl, by decide +kernel, by decide +kernel⟩
theorem fn_owed (T : Txt K mg) (F_month_of : Fn P w K mg base (PySem.Str.ofString "month_of") 4 (spP K 1 f_month_of)) (F_month_days : Fn P w K mg base (PySem.Str.ofString "month_days") 3 (spP K 2 f_month_days)) (F_unchanged_through : Fn P w K mg base (PySem.Str.ofString "unchanged_through") 1 (spP K 3 f_unchanged_through)) (F_stretch : Fn P w K mg base (PySem.Str.ofString "stretch") 1 (spP K 4 f_stretch)) (F_rent_on : Fn P w K mg base (PySem.Str.ofString "rent_on") 3 (spP K 3 f_rent_on)) : Fn P w K mg base (PySem.Str.ofString "owed") 5 (spP K 4 f_owed) := by
  obtain ⟨fd, F⟩ := T.F_owed
  refine mk_P (s := sm_owed) rfl rfl rfl T.g_owed F sc_owed (F.bindsN fun _ _ _ _ _ _ us hl => match us, hl with | [_, _, _, _], _ => rfl) (fun cdv A outer st H E hr => ?_)
  have tk : Takes (cxOf (L2.CX P w) P w K mg base n_owed (PySem.Str.ofString "owed") (defScope st_owed) (He.ga K (PySem.Str.ofString "owed")) cdv A outer st H E) (wishOf E) := takes_of rfl rfl rfl rfl
  have hp : PassesOwn (model P w) (cxOf (L2.CX P w) P w K mg base n_owed (PySem.Str.ofString "owed") (defScope st_owed) (He.ga K (PySem.Str.ofString "owed")) cdv A outer st H E).A (cxOf (L2.CX P w) P w K mg base n_owed (PySem.Str.ofString "owed") (defScope st_owed) (He.ga K (PySem.Str.ofString "owed")) cdv A outer st H E).env (cxOf (L2.CX P w) P w K mg base n_owed (PySem.Str.ofString "owed") (defScope st_owed) (He.ga K (PySem.Str.ofString "owed")) cdv A outer st H E).xe := passes_of rfl
  exact ss_cons (s_set (fun _ h => ps_set (i := 4) sc_owed.nd rfl (Or.inl rfl) h) x_int)
        (ss_cons (s_set (fun _ h => ps_set (i := 5) sc_owed.nd rfl (Or.inl rfl) h) (x_var 2 (pv 2)))
        (ss_cons (s_while hp (t_cmp k_le op_le (x_var 5 (pv 5)) (x_var 3 (pv 3)) (nomark _)) (ss_cons (s_set (fun _ h => ps_set (i := 6) sc_owed.nd rfl (Or.inl rfl) h) (x_callP F_month_of (hr.mono (by decide)) tk rfl (a_cons (x_var 5 (pv 5)) a_nil) rfl (hx := ar_cons ar_nil)))
        (ss_cons (s_set (fun _ h => ps_set (i := 7) sc_owed.nd rfl (Or.inl rfl) h) (x_callP F_month_days (hr.mono (by decide)) tk rfl (a_cons (x_ix k_ixT ix_tup (x_var 6 (pv 6)) x_int (fun _ _ => rfl)) (a_cons (x_ix k_ixT ix_tup (x_var 6 (pv 6)) x_int (fun _ _ => rfl)) a_nil)) rfl (hx := ar_cons (ar_cons ar_nil))))
        (ss_cons (s_set (fun _ h => ps_set (i := 8) sc_owed.nd rfl (Or.inl rfl) h) (x_blt k_min2 (call_min2 rfl) (by rfl) T.n_min (by decide +kernel) (a_cons (x_var 3 (pv 3)) (a_cons (x_sub (x_add (x_var 5 (pv 5)) (x_var 7 (pv 7))) (x_ix k_ixT ix_tup (x_var 6 (pv 6)) x_int (fun _ _ => rfl))) a_nil))))
        (ss_cons (s_set (fun _ h => ps_set (i := 8) sc_owed.nd rfl (Or.inl rfl) h) (x_callP F_unchanged_through (hr.mono (by decide)) tk rfl (a_cons (x_var 0 (pv 0)) (a_cons (x_var 5 (pv 5)) (a_cons (x_var 8 (pv 8)) a_nil))) rfl (hx := ar_cons (ar_cons (ar_cons ar_nil)))))
        (ss_cons (s_set (fun _ h => ps_set (i := 8) sc_owed.nd rfl (Or.inl rfl) h) (x_callP F_unchanged_through (hr.mono (by decide)) tk rfl (a_cons (x_var 1 (pv 1)) (a_cons (x_var 5 (pv 5)) (a_cons (x_var 8 (pv 8)) a_nil))) rfl (hx := ar_cons (ar_cons (ar_cons ar_nil)))))
        (ss_cons (s_set (fun _ h => ps_set (i := 4) sc_owed.nd rfl (Or.inl rfl) h) (x_add (x_var 4 (pv 4)) (x_callP F_stretch (hr.mono (by decide)) tk rfl (a_cons (x_callP F_rent_on (hr.mono (by decide)) tk rfl (a_cons (x_var 0 (pv 0)) (a_cons (x_var 1 (pv 1)) (a_cons (x_var 5 (pv 5)) a_nil))) rfl (hx := ar_cons (ar_cons (ar_cons ar_nil)))) (a_cons (x_ix k_ixT ix_tup (x_var 6 (pv 6)) x_int (fun _ _ => rfl)) (a_cons (x_add (x_sub (x_var 8 (pv 8)) (x_var 5 (pv 5))) x_int) (a_cons (x_var 7 (pv 7)) a_nil)))) rfl (hx := ar_cons (ar_cons (ar_cons (ar_cons ar_nil)))))))
        (ss_one (s_set (fun _ h => ps_set (i := 5) sc_owed.nd rfl (Or.inl rfl) h) (x_add (x_var 8 (pv 8)) x_int))))))))))
        (ss_one (s_ret (x_var 4 (pv 4))))))
theorem sc_Lease_due : FnScope n_Lease_due p_Lease_due (defScope st_Lease_due) := ⟨rfl, rfl, rfl, by decide +kernel, rfl, by decide +kernel, by decide +kernel⟩
theorem fn_Lease_due (T : Txt K mg) (F_owed : Fn P w K mg base (PySem.Str.ofString "owed") 5 (spP K 4 f_owed)) : Md P w K mg base (PySem.Str.ofString "Lease") (PySem.Str.ofString "due") 6 (spW K 3 f_Lease_due) := by
  obtain ⟨fd, F⟩ := T.F_Lease_due
  refine mk_MW (s := sm_Lease_due) rfl rfl rfl T.M_Lease_due F sc_Lease_due (F.bindsN fun _ _ _ _ _ _ us hl => match us, hl with | [_, _, _], _ => rfl) (fun cdv A outer st H E hr => ?_)
  have tk : Takes (cxOf (L2.CX P w) P w K mg base n_Lease_due (PySem.Str.ofString "Lease.due") (defScope st_Lease_due) (He.ma K (He.ga K (PySem.Str.ofString "Lease")) (PySem.Str.ofString "due")) cdv A outer st H E) (wishOf E) := takes_of rfl rfl rfl rfl
  have hp : PassesOwn (model P w) (cxOf (L2.CX P w) P w K mg base n_Lease_due (PySem.Str.ofString "Lease.due") (defScope st_Lease_due) (He.ma K (He.ga K (PySem.Str.ofString "Lease")) (PySem.Str.ofString "due")) cdv A outer st H E).A (cxOf (L2.CX P w) P w K mg base n_Lease_due (PySem.Str.ofString "Lease.due") (defScope st_Lease_due) (He.ma K (He.ga K (PySem.Str.ofString "Lease")) (PySem.Str.ofString "due")) cdv A outer st H E).env (cxOf (L2.CX P w) P w K mg base n_Lease_due (PySem.Str.ofString "Lease.due") (defScope st_Lease_due) (He.ma K (He.ga K (PySem.Str.ofString "Lease")) (PySem.Str.ofString "due")) cdv A outer st H E).xe := passes_of rfl
  exact ss_cons (s_if (t_cmp k_notN op_notN (x_fld rfl T.cl_Lease T.na_Lease_last (x_var 0 (pv 0))) x_non (nomark _)) (ss_one (s_set (fun _ h => ps_set (i := 2) sc_Lease_due.nd rfl (Or.inl rfl) h) (x_blt k_min2 (call_min2 rfl) (by rfl) T.n_min (by decide +kernel) (a_cons (x_var 2 (pv 2)) (a_cons (x_fld rfl T.cl_Lease T.na_Lease_last (x_var 0 (pv 0))) a_nil))))) ss_nil)
        (ss_cons (s_if (t_val (x_fld rfl T.cl_Lease T.na_Lease_indexed (x_var 0 (pv 0)))) (ss_one (s_ret (x_callS F_owed (hr.mono (by decide)) tk rfl (a_cons (x_fld rfl T.cl_Lease T.na_Lease_steps (x_var 0 (pv 0))) (a_cons (x_var 1 (pv 1)) (a_cons (x_fld rfl T.cl_Lease T.na_Lease_first (x_var 0 (pv 0))) (a_cons (x_var 2 (pv 2)) a_nil)))) rfl (hx := ar_cons (ar_cons (ar_cons (ar_cons ar_nil))))))) ss_nil)
        (ss_one (s_ret (x_callS F_owed (hr.mono (by decide)) tk rfl (a_cons (x_fld rfl T.cl_Lease T.na_Lease_steps (x_var 0 (pv 0))) (a_cons (x_ty k_list call_list_of (by rfl) T.n_list (by decide +kernel) (a_cons (x_gtup rfl T.g_PLAIN T.c_PLAIN) a_nil)) (a_cons (x_fld rfl T.cl_Lease T.na_Lease_first (x_var 0 (pv 0))) (a_cons (x_var 2 (pv 2)) a_nil)))) rfl (hx := ar_cons (ar_cons (ar_cons (ar_cons ar_nil))))))))
theorem sc_Lease_rent_lacking : FnScope n_Lease_rent_lacking p_Lease_rent_lacking (defScope st_Lease_rent_lacking) := ⟨rfl, rfl, rfl, by decide +kernel, rfl, by decide +kernel, by decide +kernel⟩
theorem fn_Lease_rent_lacking (T : Txt K mg) (F_Lease_due : Md P w K mg base (PySem.Str.ofString "Lease") (PySem.Str.ofString "due") 6 (spW K 3 f_Lease_due)) : Md P w K mg base (PySem.Str.ofString "Lease") (PySem.Str.ofString "rent_lacking") 7 (spW K 3 f_Lease_rent_lacking) := by
  obtain ⟨fd, F⟩ := T.F_Lease_rent_lacking
  refine mk_MW (s := sm_Lease_rent_lacking) rfl rfl rfl T.M_Lease_rent_lacking F sc_Lease_rent_lacking (F.bindsN fun _ _ _ _ _ _ us hl => match us, hl with | [_, _, _], _ => rfl) (fun cdv A outer st H E hr => ?_)
  have tk : Takes (cxOf (L2.CX P w) P w K mg base n_Lease_rent_lacking (PySem.Str.ofString "Lease.rent_lacking") (defScope st_Lease_rent_lacking) (He.ma K (He.ga K (PySem.Str.ofString "Lease")) (PySem.Str.ofString "rent_lacking")) cdv A outer st H E) (wishOf E) := takes_of rfl rfl rfl rfl
  have hp : PassesOwn (model P w) (cxOf (L2.CX P w) P w K mg base n_Lease_rent_lacking (PySem.Str.ofString "Lease.rent_lacking") (defScope st_Lease_rent_lacking) (He.ma K (He.ga K (PySem.Str.ofString "Lease")) (PySem.Str.ofString "rent_lacking")) cdv A outer st H E).A (cxOf (L2.CX P w) P w K mg base n_Lease_rent_lacking (PySem.Str.ofString "Lease.rent_lacking") (defScope st_Lease_rent_lacking) (He.ma K (He.ga K (PySem.Str.ofString "Lease")) (PySem.Str.ofString "rent_lacking")) cdv A outer st H E).env (cxOf (L2.CX P w) P w K mg base n_Lease_rent_lacking (PySem.Str.ofString "Lease.rent_lacking") (defScope st_Lease_rent_lacking) (He.ma K (He.ga K (PySem.Str.ofString "Lease")) (PySem.Str.ofString "rent_lacking")) cdv A outer st H E).xe := passes_of rfl
  exact ss_cons (s_set (fun _ h => ps_set (i := 3) sc_Lease_rent_lacking.nd rfl (Or.inl rfl) h) (x_sub (x_meth T.cl_Lease F_Lease_due (hr.mono (by decide)) tk (x_var 0 (pv 0)) (a_cons (x_var 1 (pv 1)) (a_cons (x_var 2 (pv 2)) a_nil)) (ar_cons (ar_cons ar_nil))) (x_fld rfl T.cl_Lease T.na_Lease_rent_out (x_var 0 (pv 0)))))
        (ss_cons (s_fld T.cl_Lease T.na_Lease_rent_out (x_var 0 (pv 0)) (x_add (x_fld rfl T.cl_Lease T.na_Lease_rent_out (x_var 0 (pv 0))) (x_var 3 (pv 3))))
        (ss_one (s_ret (x_var 3 (pv 3)))))
theorem sc_balance : FnScope n_balance p_balance (defScope st_balance) := ⟨rfl, rfl, rfl, by decide +kernel, rfl, by decide +kernel, by decide +kernel⟩
theorem fn_balance (T : Txt K mg)  : Fn P w K mg base (PySem.Str.ofString "balance") 1 (spP K 2 f_balance) := by
  obtain ⟨fd, F⟩ := T.F_balance
  refine mk_P (s := sm_balance) rfl rfl rfl T.g_balance F sc_balance (F.bindsN fun _ _ _ _ _ _ us hl => match us, hl with | [_, _], _ => rfl) (fun cdv A outer st H E hr => ?_)
  have tk : Takes (cxOf (L2.CX P w) P w K mg base n_balance (PySem.Str.ofString "balance") (defScope st_balance) (He.ga K (PySem.Str.ofString "balance")) cdv A outer st H E) (wishOf E) := takes_of rfl rfl rfl rfl
  have hp : PassesOwn (model P w) (cxOf (L2.CX P w) P w K mg base n_balance (PySem.Str.ofString "balance") (defScope st_balance) (He.ga K (PySem.Str.ofString "balance")) cdv A outer st H E).A (cxOf (L2.CX P w) P w K mg base n_balance (PySem.Str.ofString "balance") (defScope st_balance) (He.ga K (PySem.Str.ofString "balance")) cdv A outer st H E).env (cxOf (L2.CX P w) P w K mg base n_balance (PySem.Str.ofString "balance") (defScope st_balance) (He.ga K (PySem.Str.ofString "balance")) cdv A outer st H E).xe := passes_of rfl
  exact ss_one (s_ret (x_blt k_sumL (cr_sum rfl) (by rfl) T.n_sum (by decide +kernel) (a_cons (x_lc (j := 2) rfl sc_balance.nd (x_var 0 (pv 0)) (blkOk_by (own := [((PySem.Str.ofString "move"), 2)]) (N := n_balance) (sc := defScope st_balance) (by decide +kernel)) (fun _ _ _ _ _ => pg_name (i := 2) sc_balance.nd rfl (Or.inl rfl)) (fun _ _ _ _ _ => pts_one (t_cmp k_le op_le (x_ix k_ixT ix_tup (x_var 2 (pv 2)) x_int (fun _ _ => rfl)) (x_var 1 (pv 1)) (nomark _))) (fun _ _ _ _ _ => x_ix k_ixT ix_tup (x_var 2 (pv 2)) x_int (fun _ _ => rfl))) a_nil)))
theorem sc_grown : FnScope n_grown p_grown (defScope st_grown) := ⟨rfl, rfl, rfl, by decide +kernel, rfl, by decide +kernel, by decide +kernel⟩
theorem fn_grown (T : Txt K mg) (F_unchanged_through : Fn P w K mg base (PySem.Str.ofString "unchanged_through") 1 (spP K 3 f_unchanged_through)) (F_balance : Fn P w K mg base (PySem.Str.ofString "balance") 1 (spP K 2 f_balance)) (F_held : Fn P w K mg base (PySem.Str.ofString "held") 2 (spP K 2 f_held)) : Fn P w K mg base (PySem.Str.ofString "grown") 3 (spP K 3 f_grown) := by
  obtain ⟨fd, F⟩ := T.F_grown
  refine mk_P (s := sm_grown) rfl rfl rfl T.g_grown F sc_grown (F.bindsN fun _ _ _ _ _ _ us hl => match us, hl with | [_, _, _], _ => rfl) (fun cdv A outer st H E hr => ?_)
  have tk : Takes (cxOf (L2.CX P w) P w K mg base n_grown (PySem.Str.ofString "grown") (defScope st_grown) (He.ga K (PySem.Str.ofString "grown")) cdv A outer st H E) (wishOf E) := takes_of rfl rfl rfl rfl
  have hp : PassesOwn (model P w) (cxOf (L2.CX P w) P w K mg base n_grown (PySem.Str.ofString "grown") (defScope st_grown) (He.ga K (PySem.Str.ofString "grown")) cdv A outer st H E).A (cxOf (L2.CX P w) P w K mg base n_grown (PySem.Str.ofString "grown") (defScope st_grown) (He.ga K (PySem.Str.ofString "grown")) cdv A outer st H E).env (cxOf (L2.CX P w) P w K mg base n_grown (PySem.Str.ofString "grown") (defScope st_grown) (He.ga K (PySem.Str.ofString "grown")) cdv A outer st H E).xe := passes_of rfl
  exact ss_cons (s_set (fun _ h => ps_set (i := 3) sc_grown.nd rfl (Or.inl rfl) h) x_int)
        (ss_cons (s_set (fun _ h => ps_set (i := 4) sc_grown.nd rfl (Or.inl rfl) h) x_int)
        (ss_cons (s_while hp (t_cmp k_le op_le (x_var 4 (pv 4)) (x_var 2 (pv 2)) (nomark _)) (ss_cons (s_set (fun _ h => ps_set (i := 5) sc_grown.nd rfl (Or.inl rfl) h) (x_callP F_unchanged_through (hr.mono (by decide)) tk rfl (a_cons (x_var 0 (pv 0)) (a_cons (x_var 4 (pv 4)) (a_cons (x_var 2 (pv 2)) a_nil))) rfl (hx := ar_cons (ar_cons (ar_cons ar_nil)))))
        (ss_cons (s_set (fun _ h => ps_set (i := 5) sc_grown.nd rfl (Or.inl rfl) h) (x_callP F_unchanged_through (hr.mono (by decide)) tk rfl (a_cons (x_var 1 (pv 1)) (a_cons (x_var 4 (pv 4)) (a_cons (x_var 5 (pv 5)) a_nil))) rfl (hx := ar_cons (ar_cons (ar_cons ar_nil)))))
        (ss_cons (s_set (fun _ h => ps_set (i := 3) sc_grown.nd rfl (Or.inl rfl) h) (x_add (x_var 3 (pv 3)) (x_mul (x_mul (x_callP F_balance (hr.mono (by decide)) tk rfl (a_cons (x_var 0 (pv 0)) (a_cons (x_var 4 (pv 4)) a_nil)) rfl (hx := ar_cons (ar_cons ar_nil))) (x_callP F_held (hr.mono (by decide)) tk rfl (a_cons (x_var 1 (pv 1)) (a_cons (x_var 4 (pv 4)) a_nil)) rfl (hx := ar_cons (ar_cons ar_nil)))) (x_add (x_sub (x_var 5 (pv 5)) (x_var 4 (pv 4))) x_int))))
        (ss_one (s_set (fun _ h => ps_set (i := 4) sc_grown.nd rfl (Or.inl rfl) h) (x_add (x_var 5 (pv 5)) x_int)))))))
        (ss_one (s_ret (x_div (x_var 3 (pv 3)) (x_gint rfl T.c_PARTS))))))
theorem sc_Lease_worth : FnScope n_Lease_worth p_Lease_worth (defScope st_Lease_worth) := ⟨rfl, rfl, rfl, by decide +kernel, rfl, by decide +kernel, by decide +kernel⟩
theorem fn_Lease_worth (T : Txt K mg) (F_balance : Fn P w K mg base (PySem.Str.ofString "balance") 1 (spP K 2 f_balance)) (F_grown : Fn P w K mg base (PySem.Str.ofString "grown") 3 (spP K 3 f_grown)) : Md P w K mg base (PySem.Str.ofString "Lease") (PySem.Str.ofString "worth") 4 (spW K 3 f_Lease_worth) := by
  obtain ⟨fd, F⟩ := T.F_Lease_worth
  refine mk_MW (s := sm_Lease_worth) rfl rfl rfl T.M_Lease_worth F sc_Lease_worth (F.bindsN fun _ _ _ _ _ _ us hl => match us, hl with | [_, _, _], _ => rfl) (fun cdv A outer st H E hr => ?_)
  have tk : Takes (cxOf (L2.CX P w) P w K mg base n_Lease_worth (PySem.Str.ofString "Lease.worth") (defScope st_Lease_worth) (He.ma K (He.ga K (PySem.Str.ofString "Lease")) (PySem.Str.ofString "worth")) cdv A outer st H E) (wishOf E) := takes_of rfl rfl rfl rfl
  have hp : PassesOwn (model P w) (cxOf (L2.CX P w) P w K mg base n_Lease_worth (PySem.Str.ofString "Lease.worth") (defScope st_Lease_worth) (He.ma K (He.ga K (PySem.Str.ofString "Lease")) (PySem.Str.ofString "worth")) cdv A outer st H E).A (cxOf (L2.CX P w) P w K mg base n_Lease_worth (PySem.Str.ofString "Lease.worth") (defScope st_Lease_worth) (He.ma K (He.ga K (PySem.Str.ofString "Lease")) (PySem.Str.ofString "worth")) cdv A outer st H E).env (cxOf (L2.CX P w) P w K mg base n_Lease_worth (PySem.Str.ofString "Lease.worth") (defScope st_Lease_worth) (He.ma K (He.ga K (PySem.Str.ofString "Lease")) (PySem.Str.ofString "worth")) cdv A outer st H E).xe := passes_of rfl
  exact ss_one (s_ret (x_add (x_callS F_balance (hr.mono (by decide)) tk rfl (a_cons (x_fld rfl T.cl_Lease T.na_Lease_moves (x_var 0 (pv 0))) (a_cons (x_var 2 (pv 2)) a_nil)) rfl (hx := ar_cons (ar_cons ar_nil))) (x_callS F_grown (hr.mono (by decide)) tk rfl (a_cons (x_fld rfl T.cl_Lease T.na_Lease_moves (x_var 0 (pv 0))) (a_cons (x_var 1 (pv 1)) (a_cons (x_var 2 (pv 2)) a_nil))) rfl (hx := ar_cons (ar_cons (ar_cons ar_nil))))))
theorem sc_Lease_pledge_lacking : FnScope n_Lease_pledge_lacking p_Lease_pledge_lacking (defScope st_Lease_pledge_lacking) := ⟨rfl, rfl, rfl, by decide +kernel, rfl, by decide +kernel, by decide +kernel⟩
theorem fn_Lease_pledge_lacking (T : Txt K mg) (F_Lease_worth : Md P w K mg base (PySem.Str.ofString "Lease") (PySem.Str.ofString "worth") 4 (spW K 3 f_Lease_worth)) : Md P w K mg base (PySem.Str.ofString "Lease") (PySem.Str.ofString "pledge_lacking") 5 (spW K 2 f_Lease_pledge_lacking) := by
  obtain ⟨fd, F⟩ := T.F_Lease_pledge_lacking
  refine mk_MW (s := sm_Lease_pledge_lacking) rfl rfl rfl T.M_Lease_pledge_lacking F sc_Lease_pledge_lacking (F.bindsN fun _ _ _ _ _ _ us hl => match us, hl with | [_, _], _ => rfl) (fun cdv A outer st H E hr => ?_)
  have tk : Takes (cxOf (L2.CX P w) P w K mg base n_Lease_pledge_lacking (PySem.Str.ofString "Lease.pledge_lacking") (defScope st_Lease_pledge_lacking) (He.ma K (He.ga K (PySem.Str.ofString "Lease")) (PySem.Str.ofString "pledge_lacking")) cdv A outer st H E) (wishOf E) := takes_of rfl rfl rfl rfl
  have hp : PassesOwn (model P w) (cxOf (L2.CX P w) P w K mg base n_Lease_pledge_lacking (PySem.Str.ofString "Lease.pledge_lacking") (defScope st_Lease_pledge_lacking) (He.ma K (He.ga K (PySem.Str.ofString "Lease")) (PySem.Str.ofString "pledge_lacking")) cdv A outer st H E).A (cxOf (L2.CX P w) P w K mg base n_Lease_pledge_lacking (PySem.Str.ofString "Lease.pledge_lacking") (defScope st_Lease_pledge_lacking) (He.ma K (He.ga K (PySem.Str.ofString "Lease")) (PySem.Str.ofString "pledge_lacking")) cdv A outer st H E).env (cxOf (L2.CX P w) P w K mg base n_Lease_pledge_lacking (PySem.Str.ofString "Lease.pledge_lacking") (defScope st_Lease_pledge_lacking) (He.ma K (He.ga K (PySem.Str.ofString "Lease")) (PySem.Str.ofString "pledge_lacking")) cdv A outer st H E).xe := passes_of rfl
  exact ss_cons (s_if (t_cmp k_isN op_isN (x_fld rfl T.cl_Lease T.na_Lease_shut (x_var 0 (pv 0))) x_non (nomark _)) (ss_one (s_ret x_int)) ss_nil)
        (ss_cons (s_set (fun _ h => ps_set (i := 2) sc_Lease_pledge_lacking.nd rfl (Or.inl rfl) h) (x_sub (x_meth T.cl_Lease F_Lease_worth (hr.mono (by decide)) tk (x_var 0 (pv 0)) (a_cons (x_var 1 (pv 1)) (a_cons (x_fld rfl T.cl_Lease T.na_Lease_shut (x_var 0 (pv 0))) a_nil)) (ar_cons (ar_cons ar_nil))) (x_fld rfl T.cl_Lease T.na_Lease_pledge_out (x_var 0 (pv 0)))))
        (ss_cons (s_fld T.cl_Lease T.na_Lease_pledge_out (x_var 0 (pv 0)) (x_add (x_fld rfl T.cl_Lease T.na_Lease_pledge_out (x_var 0 (pv 0))) (x_var 2 (pv 2))))
        (ss_one (s_ret (x_var 2 (pv 2))))))
theorem sc_Roll_done : FnScope n_Roll_done p_Roll_done (defScope st_Roll_done) := ⟨rfl, rfl, rfl, by decide +kernel, rfl, by decide +kernel, by decide +kernel⟩
theorem fn_Roll_done (T : Txt K mg) (F_Lease_rent_lacking : Md P w K mg base (PySem.Str.ofString "Lease") (PySem.Str.ofString "rent_lacking") 7 (spW K 3 f_Lease_rent_lacking)) (F_Lease_pledge_lacking : Md P w K mg base (PySem.Str.ofString "Lease") (PySem.Str.ofString "pledge_lacking") 5 (spW K 2 f_Lease_pledge_lacking)) : Md P w K mg base (PySem.Str.ofString "Roll") (PySem.Str.ofString "done") 8 (spW K 2 f_Roll_done) := by
  obtain ⟨fd, F⟩ := T.F_Roll_done
  refine mk_MW (s := sm_Roll_done) rfl rfl rfl T.M_Roll_done F sc_Roll_done (F.bindsN fun _ _ _ _ _ _ us hl => match us, hl with | [_, _], _ => rfl) (fun cdv A outer st H E hr => ?_)
  have tk : Takes (cxOf (L2.CX P w) P w K mg base n_Roll_done (PySem.Str.ofString "Roll.done") (defScope st_Roll_done) (He.ma K (He.ga K (PySem.Str.ofString "Roll")) (PySem.Str.ofString "done")) cdv A outer st H E) (wishOf E) := takes_of rfl rfl rfl rfl
  have hp : PassesOwn (model P w) (cxOf (L2.CX P w) P w K mg base n_Roll_done (PySem.Str.ofString "Roll.done") (defScope st_Roll_done) (He.ma K (He.ga K (PySem.Str.ofString "Roll")) (PySem.Str.ofString "done")) cdv A outer st H E).A (cxOf (L2.CX P w) P w K mg base n_Roll_done (PySem.Str.ofString "Roll.done") (defScope st_Roll_done) (He.ma K (He.ga K (PySem.Str.ofString "Roll")) (PySem.Str.ofString "done")) cdv A outer st H E).env (cxOf (L2.CX P w) P w K mg base n_Roll_done (PySem.Str.ofString "Roll.done") (defScope st_Roll_done) (He.ma K (He.ga K (PySem.Str.ofString "Roll")) (PySem.Str.ofString "done")) cdv A outer st H E).xe := passes_of rfl
  exact ss_cons (s_expr (x_app (x_fld rfl T.cl_Roll T.na_Roll_told (x_var 0 (pv 0))) (x_var 1 (pv 1))))
        (ss_cons (s_set (fun _ h => ps_set (i := 2) sc_Roll_done.nd rfl (Or.inl rfl) h) (x_lstS a_nil))
        (ss_cons (s_forE hp rfl (pg_tup rfl (pgs_cons (pg_name (i := 3) sc_Roll_done.nd rfl (Or.inl rfl)) (pgs_cons (pg_name (i := 4) sc_Roll_done.nd rfl (Or.inl rfl)) pgs_nil))) (by rfl) T.n_enumerate (x_fld rfl T.cl_Roll T.na_Roll_leases (x_var 0 (pv 0))) (ss_cons (s_set (fun _ h => ps_set (i := 5) sc_Roll_done.nd rfl (Or.inl rfl) h) (x_meth T.cl_Lease F_Lease_rent_lacking (hr.mono (by decide)) tk (x_var 4 (pv 4)) (a_cons (x_fld rfl T.cl_Roll T.na_Roll_gauges (x_var 0 (pv 0))) (a_cons (x_fld rfl T.cl_Roll T.na_Roll_through (x_var 0 (pv 0))) a_nil)) (ar_cons (ar_cons ar_nil))))
        (ss_cons (s_if (t_cmp k_ne (op_neD (hu64 hr)) (x_var 5 (pv 5)) x_int (nomark _)) (ss_one (s_expr (x_app (x_var 2 (pv 2)) (x_tup (a_cons x_str (a_cons (x_var 3 (pv 3)) (a_cons (x_var 5 (pv 5)) a_nil))))))) ss_nil)
        (ss_cons (s_set (fun _ h => ps_set (i := 5) sc_Roll_done.nd rfl (Or.inl rfl) h) (x_meth T.cl_Lease F_Lease_pledge_lacking (hr.mono (by decide)) tk (x_var 4 (pv 4)) (a_cons (x_fld rfl T.cl_Roll T.na_Roll_rates (x_var 0 (pv 0))) a_nil) (ar_cons ar_nil)))
        (ss_one (s_if (t_cmp k_ne (op_neD (hu64 hr)) (x_var 5 (pv 5)) x_int (nomark _)) (ss_one (s_expr (x_app (x_var 2 (pv 2)) (x_tup (a_cons x_str (a_cons (x_var 3 (pv 3)) (a_cons (x_var 5 (pv 5)) a_nil))))))) ss_nil))))))
        (ss_one (s_ret (x_var 2 (pv 2))))))
theorem sc_Lease__init : FnScope n_Lease__init p_Lease__init (defScope st_Lease__init) := ⟨rfl, rfl, rfl, by decide +kernel, rfl, by decide +kernel, by decide +kernel⟩
theorem fn_Lease__init (T : Txt K mg)  : Md P w K mg base (PySem.Str.ofString "Lease") (PySem.Str.ofString "__init__") 1 (spW K 5 f_Lease__init) := by
  obtain ⟨fd, F⟩ := T.F_Lease__init
  refine mk_MW (s := sm_Lease__init) rfl rfl rfl T.M_Lease__init F sc_Lease__init (F.bindsN fun _ _ _ _ _ _ us hl => match us, hl with | [_, _, _, _, _], _ => rfl) (fun cdv A outer st H E hr => ?_)
  have tk : Takes (cxOf (L2.CX P w) P w K mg base n_Lease__init (PySem.Str.ofString "Lease.__init__") (defScope st_Lease__init) (He.ma K (He.ga K (PySem.Str.ofString "Lease")) (PySem.Str.ofString "__init__")) cdv A outer st H E) (wishOf E) := takes_of rfl rfl rfl rfl
  have hp : PassesOwn (model P w) (cxOf (L2.CX P w) P w K mg base n_Lease__init (PySem.Str.ofString "Lease.__init__") (defScope st_Lease__init) (He.ma K (He.ga K (PySem.Str.ofString "Lease")) (PySem.Str.ofString "__init__")) cdv A outer st H E).A (cxOf (L2.CX P w) P w K mg base n_Lease__init (PySem.Str.ofString "Lease.__init__") (defScope st_Lease__init) (He.ma K (He.ga K (PySem.Str.ofString "Lease")) (PySem.Str.ofString "__init__")) cdv A outer st H E).env (cxOf (L2.CX P w) P w K mg base n_Lease__init (PySem.Str.ofString "Lease.__init__") (defScope st_Lease__init) (He.ma K (He.ga K (PySem.Str.ofString "Lease")) (PySem.Str.ofString "__init__")) cdv A outer st H E).xe := passes_of rfl
  exact ss_cons (s_fld T.cl_Lease T.na_Lease_flat (x_var 0 (pv 0)) (x_var 1 (pv 1)))
        (ss_cons (s_fld T.cl_Lease T.na_Lease_first (x_var 0 (pv 0)) (x_var 2 (pv 2)))
        (ss_cons (s_fld T.cl_Lease T.na_Lease_last (x_var 0 (pv 0)) x_non)
        (ss_cons (s_fld T.cl_Lease T.na_Lease_indexed (x_var 0 (pv 0)) (x_var 4 (pv 4)))
        (ss_cons (s_fld T.cl_Lease T.na_Lease_steps (x_var 0 (pv 0)) (x_lstS (a_cons (x_tup (a_cons (x_var 2 (pv 2)) (a_cons (x_var 3 (pv 3)) a_nil))) a_nil)))
        (ss_cons (s_fld T.cl_Lease T.na_Lease_moves (x_var 0 (pv 0)) (x_lstS a_nil))
        (ss_cons (s_fld T.cl_Lease T.na_Lease_shut (x_var 0 (pv 0)) x_non)
        (ss_cons (s_fld T.cl_Lease T.na_Lease_rent_out (x_var 0 (pv 0)) x_int)
        (ss_one (s_fld T.cl_Lease T.na_Lease_pledge_out (x_var 0 (pv 0)) x_int)))))))))
theorem sc_Lease_is_free_from : FnScope n_Lease_is_free_from p_Lease_is_free_from (defScope st_Lease_is_free_from) := ⟨rfl, rfl, rfl, by decide +kernel, rfl, by decide +kernel, by decide +kernel⟩
theorem fn_Lease_is_free_from (T : Txt K mg)  : Md P w K mg base (PySem.Str.ofString "Lease") (PySem.Str.ofString "is_free_from") 1 (spW K 2 f_Lease_is_free_from) := by
  obtain ⟨fd, F⟩ := T.F_Lease_is_free_from
  refine mk_MW (s := sm_Lease_is_free_from) rfl rfl rfl T.M_Lease_is_free_from F sc_Lease_is_free_from (F.bindsN fun _ _ _ _ _ _ us hl => match us, hl with | [_, _], _ => rfl) (fun cdv A outer st H E hr => ?_)
  have tk : Takes (cxOf (L2.CX P w) P w K mg base n_Lease_is_free_from (PySem.Str.ofString "Lease.is_free_from") (defScope st_Lease_is_free_from) (He.ma K (He.ga K (PySem.Str.ofString "Lease")) (PySem.Str.ofString "is_free_from")) cdv A outer st H E) (wishOf E) := takes_of rfl rfl rfl rfl
  have hp : PassesOwn (model P w) (cxOf (L2.CX P w) P w K mg base n_Lease_is_free_from (PySem.Str.ofString "Lease.is_free_from") (defScope st_Lease_is_free_from) (He.ma K (He.ga K (PySem.Str.ofString "Lease")) (PySem.Str.ofString "is_free_from")) cdv A outer st H E).A (cxOf (L2.CX P w) P w K mg base n_Lease_is_free_from (PySem.Str.ofString "Lease.is_free_from") (defScope st_Lease_is_free_from) (He.ma K (He.ga K (PySem.Str.ofString "Lease")) (PySem.Str.ofString "is_free_from")) cdv A outer st H E).env (cxOf (L2.CX P w) P w K mg base n_Lease_is_free_from (PySem.Str.ofString "Lease.is_free_from") (defScope st_Lease_is_free_from) (He.ma K (He.ga K (PySem.Str.ofString "Lease")) (PySem.Str.ofString "is_free_from")) cdv A outer st H E).xe := passes_of rfl
  exact ss_one (s_ret (x_and (x_cmp k_notN op_notN (x_fld rfl T.cl_Lease T.na_Lease_last (x_var 0 (pv 0))) x_non (nomark _)) (x_one (x_cmp k_lt op_lt (x_fld rfl T.cl_Lease T.na_Lease_last (x_var 0 (pv 0))) (x_var 1 (pv 1)) (nomark _)))))
theorem sc_Roll_let : FnScope n_Roll_let p_Roll_let (defScope st_Roll_let) := ⟨rfl, rfl, rfl, by decide +kernel, rfl, by decide +kernel, by decide +kernel⟩
theorem fn_Roll_let (T : Txt K mg) (F_sure_flat : Fn P w K mg base (PySem.Str.ofString "sure_flat") 1 (spP K 1 f_sure_flat)) (F_sure_day : Fn P w K mg base (PySem.Str.ofString "sure_day") 3 (spP K 1 f_sure_day)) (F_sure_amount : Fn P w K mg base (PySem.Str.ofString "sure_amount") 3 (spP K 3 f_sure_amount)) (F_Roll_done : Md P w K mg base (PySem.Str.ofString "Roll") (PySem.Str.ofString "done") 8 (spW K 2 f_Roll_done)) (F_Lease__init : Md P w K mg base (PySem.Str.ofString "Lease") (PySem.Str.ofString "__init__") 1 (spW K 5 f_Lease__init)) (F_Lease_is_free_from : Md P w K mg base (PySem.Str.ofString "Lease") (PySem.Str.ofString "is_free_from") 1 (spW K 2 f_Lease_is_free_from)) : Md P w K mg base (PySem.Str.ofString "Roll") (PySem.Str.ofString "let") 9 (spW K 5 f_Roll_let) := by
  obtain ⟨fd, F⟩ := T.F_Roll_let
  refine mk_MW (s := sm_Roll_let) rfl rfl rfl T.M_Roll_let F sc_Roll_let (F.bindsN fun _ _ _ _ _ _ us hl => match us, hl with | [_, _, _, _, _], _ => rfl) (fun cdv A outer st H E hr => ?_)
  have tk : Takes (cxOf (L2.CX P w) P w K mg base n_Roll_let (PySem.Str.ofString "Roll.let") (defScope st_Roll_let) (He.ma K (He.ga K (PySem.Str.ofString "Roll")) (PySem.Str.ofString "let")) cdv A outer st H E) (wishOf E) := takes_of rfl rfl rfl rfl
  have hp : PassesOwn (model P w) (cxOf (L2.CX P w) P w K mg base n_Roll_let (PySem.Str.ofString "Roll.let") (defScope st_Roll_let) (He.ma K (He.ga K (PySem.Str.ofString "Roll")) (PySem.Str.ofString "let")) cdv A outer st H E).A (cxOf (L2.CX P w) P w K mg base n_Roll_let (PySem.Str.ofString "Roll.let") (defScope st_Roll_let) (He.ma K (He.ga K (PySem.Str.ofString "Roll")) (PySem.Str.ofString "let")) cdv A outer st H E).env (cxOf (L2.CX P w) P w K mg base n_Roll_let (PySem.Str.ofString "Roll.let") (defScope st_Roll_let) (He.ma K (He.ga K (PySem.Str.ofString "Roll")) (PySem.Str.ofString "let")) cdv A outer st H E).xe := passes_of rfl
  exact ss_cons (s_expr (x_callP F_sure_flat (hr.mono (by decide)) tk rfl (a_cons (x_var 1 (pv 1)) a_nil) rfl (hx := ar_cons ar_nil)))
        (ss_cons (s_expr (x_callP F_sure_day (hr.mono (by decide)) tk rfl (a_cons (x_var 2 (pv 2)) a_nil) rfl (hx := ar_cons ar_nil)))
        (ss_cons (s_expr (x_callP F_sure_amount (hr.mono (by decide)) tk rfl (a_cons (x_var 3 (pv 3)) (a_cons x_int (a_cons (x_gint rfl T.c_MOST_CENTS) a_nil))) rfl (hx := ar_cons (ar_cons (ar_cons ar_nil)))))
        (ss_cons (s_for (tg_name 5) hp rfl (x_fld rfl T.cl_Roll T.na_Roll_leases (x_var 0 (pv 0))) (pg_name (i := 5) sc_Roll_let.nd rfl (Or.inl rfl)) (ss_one (s_if (PW.pt (w_and (t_cmp k_eq (op_eqD (hu64 hr)) (x_fld rfl T.cl_Lease T.na_Lease_flat (x_var 5 (pv 5))) (x_var 1 (pv 1)) (nomark _)) (w_and1 (t_not (t_val (x_meth T.cl_Lease F_Lease_is_free_from (hr.mono (by decide)) tk (x_var 5 (pv 5)) (a_cons (x_var 2 (pv 2)) a_nil) (ar_cons ar_nil))))))) (ss_one (s_raiseC rfl tk T.x_Taken rfl)) ss_nil)))
        (ss_cons (s_if (t_cmp k_ge op_ge (x_blt k_len call_len (by rfl) T.n_len PySem.boot_len (a_cons (x_fld rfl T.cl_Roll T.na_Roll_leases (x_var 0 (pv 0))) a_nil)) (x_gint rfl T.c_MOST_LEASES) (nomark _)) (ss_one (s_raiseC rfl tk T.x_Full rfl)) ss_nil)
        (ss_cons (s_expr (x_app (x_fld rfl T.cl_Roll T.na_Roll_leases (x_var 0 (pv 0))) (x_make T.mk_Lease F_Lease__init (hr.mono (by decide)) tk (by rfl) T.gc_Lease (a_cons (x_var 1 (pv 1)) (a_cons (x_var 2 (pv 2)) (a_cons (x_var 3 (pv 3)) (a_cons (x_var 4 (pv 4)) a_nil)))) (ar_cons (ar_cons (ar_cons (ar_cons ar_nil)))))))
        (ss_one (s_ret (x_meth T.cl_Roll F_Roll_done (hr.mono (by decide)) tk (x_var 0 (pv 0)) (a_cons (x_tup (a_cons x_str (a_cons (x_var 1 (pv 1)) (a_cons (x_var 2 (pv 2)) (a_cons (x_var 3 (pv 3)) (a_cons (x_var 4 (pv 4)) a_nil)))))) a_nil) (ar_cons ar_nil)))))))))
theorem sc_law_roll : FnScope n_law_roll p_law_roll (defScope st_law_roll) := ⟨rfl, rfl, rfl, by decide +kernel, rfl, by decide +kernel, by decide +kernel⟩
theorem fn_law_roll (T : Txt K mg) (F_Roll__init : Md P w K mg base (PySem.Str.ofString "Roll") (PySem.Str.ofString "__init__") 1 (spW K 1 f_Roll__init)) (F_Roll_let : Md P w K mg base (PySem.Str.ofString "Roll") (PySem.Str.ofString "let") 9 (spW K 5 f_Roll_let)) : Fn P w K mg base (PySem.Str.ofString "_law_roll") 10 (spW K 1 f_law_roll) := by
  obtain ⟨fd, F⟩ := T.F_law_roll
  refine mk_W (s := sm_law_roll) rfl rfl rfl T.g_law_roll F sc_law_roll (F.bindsN fun _ _ _ _ _ _ us hl => match us, hl with | [_], _ => rfl) (fun cdv A outer st H E hr => ?_)
  have tk : Takes (cxOf (L2.CX P w) P w K mg base n_law_roll (PySem.Str.ofString "_law_roll") (defScope st_law_roll) (He.ga K (PySem.Str.ofString "_law_roll")) cdv A outer st H E) (wishOf E) := takes_of rfl rfl rfl rfl
  have hp : PassesOwn (model P w) (cxOf (L2.CX P w) P w K mg base n_law_roll (PySem.Str.ofString "_law_roll") (defScope st_law_roll) (He.ga K (PySem.Str.ofString "_law_roll")) cdv A outer st H E).A (cxOf (L2.CX P w) P w K mg base n_law_roll (PySem.Str.ofString "_law_roll") (defScope st_law_roll) (He.ga K (PySem.Str.ofString "_law_roll")) cdv A outer st H E).env (cxOf (L2.CX P w) P w K mg base n_law_roll (PySem.Str.ofString "_law_roll") (defScope st_law_roll) (He.ga K (PySem.Str.ofString "_law_roll")) cdv A outer st H E).xe := passes_of rfl
  exact ss_cons (s_set (fun _ h => ps_set (i := 1) sc_law_roll.nd rfl (Or.inl rfl) h) (x_make0 T.mk_Roll F_Roll__init (hr.mono (by decide)) tk (by rfl) T.gc_Roll))
        (ss_cons (s_expr (x_meth T.cl_Roll F_Roll_let (hr.mono (by decide)) tk (x_var 1 (pv 1)) (a_cons x_str (a_cons (x_var 0 (pv 0)) (a_cons x_int (a_cons x_bl a_nil)))) (ar_cons (ar_cons (ar_cons (ar_cons ar_nil))))))
        (ss_cons (s_expr (x_meth T.cl_Roll F_Roll_let (hr.mono (by decide)) tk (x_var 1 (pv 1)) (a_cons x_str (a_cons (x_add (x_var 0 (pv 0)) x_int) (a_cons x_int (a_cons x_bl a_nil)))) (ar_cons (ar_cons (ar_cons (ar_cons ar_nil))))))
        (ss_one (s_ret (x_var 1 (pv 1))))))
theorem sc_Roll_sure : FnScope n_Roll_sure p_Roll_sure (defScope st_Roll_sure) := ⟨rfl, rfl, rfl, by decide +kernel, rfl, by decide +kernel, by decide +kernel⟩
theorem fn_Roll_sure (T : Txt K mg) (F_is_within : Fn P w K mg base (PySem.Str.ofString "is_within") 2 (spP K 3 f_is_within)) : Md P w K mg base (PySem.Str.ofString "Roll") (PySem.Str.ofString "sure") 3 (spW K 2 f_Roll_sure) := by
  obtain ⟨fd, F⟩ := T.F_Roll_sure
  refine mk_MW (s := sm_Roll_sure) rfl rfl rfl T.M_Roll_sure F sc_Roll_sure (F.bindsN fun _ _ _ _ _ _ us hl => match us, hl with | [_, _], _ => rfl) (fun cdv A outer st H E hr => ?_)
  have tk : Takes (cxOf (L2.CX P w) P w K mg base n_Roll_sure (PySem.Str.ofString "Roll.sure") (defScope st_Roll_sure) (He.ma K (He.ga K (PySem.Str.ofString "Roll")) (PySem.Str.ofString "sure")) cdv A outer st H E) (wishOf E) := takes_of rfl rfl rfl rfl
  have hp : PassesOwn (model P w) (cxOf (L2.CX P w) P w K mg base n_Roll_sure (PySem.Str.ofString "Roll.sure") (defScope st_Roll_sure) (He.ma K (He.ga K (PySem.Str.ofString "Roll")) (PySem.Str.ofString "sure")) cdv A outer st H E).A (cxOf (L2.CX P w) P w K mg base n_Roll_sure (PySem.Str.ofString "Roll.sure") (defScope st_Roll_sure) (He.ma K (He.ga K (PySem.Str.ofString "Roll")) (PySem.Str.ofString "sure")) cdv A outer st H E).env (cxOf (L2.CX P w) P w K mg base n_Roll_sure (PySem.Str.ofString "Roll.sure") (defScope st_Roll_sure) (He.ma K (He.ga K (PySem.Str.ofString "Roll")) (PySem.Str.ofString "sure")) cdv A outer st H E).xe := passes_of rfl
  exact ss_cons (s_if (t_not (t_val (x_callP F_is_within (hr.mono (by decide)) tk rfl (a_cons (x_var 1 (pv 1)) (a_cons x_int (a_cons (x_sub (x_blt k_len call_len (by rfl) T.n_len PySem.boot_len (a_cons (x_fld rfl T.cl_Roll T.na_Roll_leases (x_var 0 (pv 0))) a_nil)) x_int) a_nil))) rfl (hx := ar_cons (ar_cons (ar_cons ar_nil)))))) (ss_one (s_raiseC rfl tk T.x_NoLease rfl)) ss_nil)
        (ss_one (s_ret (x_ix k_ixL ix_list (x_fld rfl T.cl_Roll T.na_Roll_leases (x_var 0 (pv 0))) (x_var 1 (pv 1)) (fun _ _ => rfl))))
theorem sc_Roll_close : FnScope n_Roll_close p_Roll_close (defScope st_Roll_close) := ⟨rfl, rfl, rfl, by decide +kernel, rfl, by decide +kernel, by decide +kernel⟩
theorem fn_Roll_close (T : Txt K mg) (F_Roll_sure : Md P w K mg base (PySem.Str.ofString "Roll") (PySem.Str.ofString "sure") 3 (spW K 2 f_Roll_sure)) (F_sure_day : Fn P w K mg base (PySem.Str.ofString "sure_day") 3 (spP K 1 f_sure_day)) (F_Roll_done : Md P w K mg base (PySem.Str.ofString "Roll") (PySem.Str.ofString "done") 8 (spW K 2 f_Roll_done)) : Md P w K mg base (PySem.Str.ofString "Roll") (PySem.Str.ofString "close") 9 (spW K 3 f_Roll_close) := by
  obtain ⟨fd, F⟩ := T.F_Roll_close
  refine mk_MW (s := sm_Roll_close) rfl rfl rfl T.M_Roll_close F sc_Roll_close (F.bindsN fun _ _ _ _ _ _ us hl => match us, hl with | [_, _, _], _ => rfl) (fun cdv A outer st H E hr => ?_)
  have tk : Takes (cxOf (L2.CX P w) P w K mg base n_Roll_close (PySem.Str.ofString "Roll.close") (defScope st_Roll_close) (He.ma K (He.ga K (PySem.Str.ofString "Roll")) (PySem.Str.ofString "close")) cdv A outer st H E) (wishOf E) := takes_of rfl rfl rfl rfl
  have hp : PassesOwn (model P w) (cxOf (L2.CX P w) P w K mg base n_Roll_close (PySem.Str.ofString "Roll.close") (defScope st_Roll_close) (He.ma K (He.ga K (PySem.Str.ofString "Roll")) (PySem.Str.ofString "close")) cdv A outer st H E).A (cxOf (L2.CX P w) P w K mg base n_Roll_close (PySem.Str.ofString "Roll.close") (defScope st_Roll_close) (He.ma K (He.ga K (PySem.Str.ofString "Roll")) (PySem.Str.ofString "close")) cdv A outer st H E).env (cxOf (L2.CX P w) P w K mg base n_Roll_close (PySem.Str.ofString "Roll.close") (defScope st_Roll_close) (He.ma K (He.ga K (PySem.Str.ofString "Roll")) (PySem.Str.ofString "close")) cdv A outer st H E).xe := passes_of rfl
  exact ss_cons (s_set (fun _ h => ps_set (i := 3) sc_Roll_close.nd rfl (Or.inl rfl) h) (x_meth T.cl_Roll F_Roll_sure (hr.mono (by decide)) tk (x_var 0 (pv 0)) (a_cons (x_var 1 (pv 1)) a_nil) (ar_cons ar_nil)))
        (ss_cons (s_expr (x_callP F_sure_day (hr.mono (by decide)) tk rfl (a_cons (x_var 2 (pv 2)) a_nil) rfl (hx := ar_cons ar_nil)))
        (ss_cons (s_if (t_cmp k_notN op_notN (x_fld rfl T.cl_Lease T.na_Lease_shut (x_var 3 (pv 3))) x_non (nomark _)) (ss_one (s_raiseC rfl tk T.x_Done rfl)) ss_nil)
        (ss_cons (s_fld T.cl_Lease T.na_Lease_shut (x_var 3 (pv 3)) (x_var 2 (pv 2)))
        (ss_one (s_ret (x_meth T.cl_Roll F_Roll_done (hr.mono (by decide)) tk (x_var 0 (pv 0)) (a_cons (x_tup (a_cons x_str (a_cons (x_var 1 (pv 1)) (a_cons (x_var 2 (pv 2)) a_nil)))) a_nil) (ar_cons ar_nil)))))))
theorem sc_Roll_many : FnScope n_Roll_many p_Roll_many (defScope st_Roll_many) := ⟨rfl, rfl, rfl, by decide +kernel, rfl, by decide +kernel, by decide +kernel⟩
theorem fn_Roll_many (T : Txt K mg)  : Md P w K mg base (PySem.Str.ofString "Roll") (PySem.Str.ofString "many") 1 (spW K 1 f_Roll_many) := by
  obtain ⟨fd, F⟩ := T.F_Roll_many
  refine mk_MW (s := sm_Roll_many) rfl rfl rfl T.M_Roll_many F sc_Roll_many (F.bindsN fun _ _ _ _ _ _ us hl => match us, hl with | [_], _ => rfl) (fun cdv A outer st H E hr => ?_)
  have tk : Takes (cxOf (L2.CX P w) P w K mg base n_Roll_many (PySem.Str.ofString "Roll.many") (defScope st_Roll_many) (He.ma K (He.ga K (PySem.Str.ofString "Roll")) (PySem.Str.ofString "many")) cdv A outer st H E) (wishOf E) := takes_of rfl rfl rfl rfl
  have hp : PassesOwn (model P w) (cxOf (L2.CX P w) P w K mg base n_Roll_many (PySem.Str.ofString "Roll.many") (defScope st_Roll_many) (He.ma K (He.ga K (PySem.Str.ofString "Roll")) (PySem.Str.ofString "many")) cdv A outer st H E).A (cxOf (L2.CX P w) P w K mg base n_Roll_many (PySem.Str.ofString "Roll.many") (defScope st_Roll_many) (He.ma K (He.ga K (PySem.Str.ofString "Roll")) (PySem.Str.ofString "many")) cdv A outer st H E).env (cxOf (L2.CX P w) P w K mg base n_Roll_many (PySem.Str.ofString "Roll.many") (defScope st_Roll_many) (He.ma K (He.ga K (PySem.Str.ofString "Roll")) (PySem.Str.ofString "many")) cdv A outer st H E).xe := passes_of rfl
  exact ss_one (s_ret (x_blt k_len call_len (by rfl) T.n_len PySem.boot_len (a_cons (x_fld rfl T.cl_Roll T.na_Roll_leases (x_var 0 (pv 0))) a_nil)))
theorem sc_Roll_owed : FnScope n_Roll_owed p_Roll_owed (defScope st_Roll_owed) := ⟨rfl, rfl, rfl, by decide +kernel, rfl, by decide +kernel, by decide +kernel⟩
theorem fn_Roll_owed (T : Txt K mg) (F_Roll_sure : Md P w K mg base (PySem.Str.ofString "Roll") (PySem.Str.ofString "sure") 3 (spW K 2 f_Roll_sure)) (F_sure_day : Fn P w K mg base (PySem.Str.ofString "sure_day") 3 (spP K 1 f_sure_day)) (F_Lease_due : Md P w K mg base (PySem.Str.ofString "Lease") (PySem.Str.ofString "due") 6 (spW K 3 f_Lease_due)) : Md P w K mg base (PySem.Str.ofString "Roll") (PySem.Str.ofString "owed") 7 (spW K 3 f_Roll_owed) := by
  obtain ⟨fd, F⟩ := T.F_Roll_owed
  refine mk_MW (s := sm_Roll_owed) rfl rfl rfl T.M_Roll_owed F sc_Roll_owed (F.bindsN fun _ _ _ _ _ _ us hl => match us, hl with | [_, _, _], _ => rfl) (fun cdv A outer st H E hr => ?_)
  have tk : Takes (cxOf (L2.CX P w) P w K mg base n_Roll_owed (PySem.Str.ofString "Roll.owed") (defScope st_Roll_owed) (He.ma K (He.ga K (PySem.Str.ofString "Roll")) (PySem.Str.ofString "owed")) cdv A outer st H E) (wishOf E) := takes_of rfl rfl rfl rfl
  have hp : PassesOwn (model P w) (cxOf (L2.CX P w) P w K mg base n_Roll_owed (PySem.Str.ofString "Roll.owed") (defScope st_Roll_owed) (He.ma K (He.ga K (PySem.Str.ofString "Roll")) (PySem.Str.ofString "owed")) cdv A outer st H E).A (cxOf (L2.CX P w) P w K mg base n_Roll_owed (PySem.Str.ofString "Roll.owed") (defScope st_Roll_owed) (He.ma K (He.ga K (PySem.Str.ofString "Roll")) (PySem.Str.ofString "owed")) cdv A outer st H E).env (cxOf (L2.CX P w) P w K mg base n_Roll_owed (PySem.Str.ofString "Roll.owed") (defScope st_Roll_owed) (He.ma K (He.ga K (PySem.Str.ofString "Roll")) (PySem.Str.ofString "owed")) cdv A outer st H E).xe := passes_of rfl
  exact ss_cons (s_set (fun _ h => ps_set (i := 3) sc_Roll_owed.nd rfl (Or.inl rfl) h) (x_meth T.cl_Roll F_Roll_sure (hr.mono (by decide)) tk (x_var 0 (pv 0)) (a_cons (x_var 1 (pv 1)) a_nil) (ar_cons ar_nil)))
        (ss_cons (s_expr (x_callP F_sure_day (hr.mono (by decide)) tk rfl (a_cons (x_var 2 (pv 2)) a_nil) rfl (hx := ar_cons ar_nil)))
        (ss_one (s_ret (x_meth T.cl_Lease F_Lease_due (hr.mono (by decide)) tk (x_var 3 (pv 3)) (a_cons (x_fld rfl T.cl_Roll T.na_Roll_gauges (x_var 0 (pv 0))) (a_cons (x_var 2 (pv 2)) a_nil)) (ar_cons (ar_cons ar_nil))))))
theorem sc_Roll_pledge : FnScope n_Roll_pledge p_Roll_pledge (defScope st_Roll_pledge) := ⟨rfl, rfl, rfl, by decide +kernel, rfl, by decide +kernel, by decide +kernel⟩
theorem fn_Roll_pledge (T : Txt K mg) (F_Roll_sure : Md P w K mg base (PySem.Str.ofString "Roll") (PySem.Str.ofString "sure") 3 (spW K 2 f_Roll_sure)) (F_sure_day : Fn P w K mg base (PySem.Str.ofString "sure_day") 3 (spP K 1 f_sure_day)) (F_Lease_worth : Md P w K mg base (PySem.Str.ofString "Lease") (PySem.Str.ofString "worth") 4 (spW K 3 f_Lease_worth)) : Md P w K mg base (PySem.Str.ofString "Roll") (PySem.Str.ofString "pledge") 5 (spW K 3 f_Roll_pledge) := by
  obtain ⟨fd, F⟩ := T.F_Roll_pledge
  refine mk_MW (s := sm_Roll_pledge) rfl rfl rfl T.M_Roll_pledge F sc_Roll_pledge (F.bindsN fun _ _ _ _ _ _ us hl => match us, hl with | [_, _, _], _ => rfl) (fun cdv A outer st H E hr => ?_)
  have tk : Takes (cxOf (L2.CX P w) P w K mg base n_Roll_pledge (PySem.Str.ofString "Roll.pledge") (defScope st_Roll_pledge) (He.ma K (He.ga K (PySem.Str.ofString "Roll")) (PySem.Str.ofString "pledge")) cdv A outer st H E) (wishOf E) := takes_of rfl rfl rfl rfl
  have hp : PassesOwn (model P w) (cxOf (L2.CX P w) P w K mg base n_Roll_pledge (PySem.Str.ofString "Roll.pledge") (defScope st_Roll_pledge) (He.ma K (He.ga K (PySem.Str.ofString "Roll")) (PySem.Str.ofString "pledge")) cdv A outer st H E).A (cxOf (L2.CX P w) P w K mg base n_Roll_pledge (PySem.Str.ofString "Roll.pledge") (defScope st_Roll_pledge) (He.ma K (He.ga K (PySem.Str.ofString "Roll")) (PySem.Str.ofString "pledge")) cdv A outer st H E).env (cxOf (L2.CX P w) P w K mg base n_Roll_pledge (PySem.Str.ofString "Roll.pledge") (defScope st_Roll_pledge) (He.ma K (He.ga K (PySem.Str.ofString "Roll")) (PySem.Str.ofString "pledge")) cdv A outer st H E).xe := passes_of rfl
  exact ss_cons (s_set (fun _ h => ps_set (i := 3) sc_Roll_pledge.nd rfl (Or.inl rfl) h) (x_meth T.cl_Roll F_Roll_sure (hr.mono (by decide)) tk (x_var 0 (pv 0)) (a_cons (x_var 1 (pv 1)) a_nil) (ar_cons ar_nil)))
        (ss_cons (s_expr (x_callP F_sure_day (hr.mono (by decide)) tk rfl (a_cons (x_var 2 (pv 2)) a_nil) rfl (hx := ar_cons ar_nil)))
        (ss_one (s_ret (x_meth T.cl_Lease F_Lease_worth (hr.mono (by decide)) tk (x_var 3 (pv 3)) (a_cons (x_fld rfl T.cl_Roll T.na_Roll_rates (x_var 0 (pv 0))) (a_cons (x_var 2 (pv 2)) a_nil)) (ar_cons (ar_cons ar_nil))))))
theorem sc_law_asked : FnScope n_law_asked p_law_asked (defScope st_law_asked) := ⟨rfl, rfl, rfl, by decide +kernel, rfl, by decide +kernel, by decide +kernel⟩
theorem fn_law_asked (T : Txt K mg) (F_Roll_owed : Md P w K mg base (PySem.Str.ofString "Roll") (PySem.Str.ofString "owed") 7 (spW K 3 f_Roll_owed)) (F_Roll_pledge : Md P w K mg base (PySem.Str.ofString "Roll") (PySem.Str.ofString "pledge") 5 (spW K 3 f_Roll_pledge)) : Fn P w K mg base (PySem.Str.ofString "_law_asked") 8 (spW K 2 f_law_asked) := by
  obtain ⟨fd, F⟩ := T.F_law_asked
  refine mk_W (s := sm_law_asked) rfl rfl rfl T.g_law_asked F sc_law_asked (F.bindsN fun _ _ _ _ _ _ us hl => match us, hl with | [_, _], _ => rfl) (fun cdv A outer st H E hr => ?_)
  have tk : Takes (cxOf (L2.CX P w) P w K mg base n_law_asked (PySem.Str.ofString "_law_asked") (defScope st_law_asked) (He.ga K (PySem.Str.ofString "_law_asked")) cdv A outer st H E) (wishOf E) := takes_of rfl rfl rfl rfl
  have hp : PassesOwn (model P w) (cxOf (L2.CX P w) P w K mg base n_law_asked (PySem.Str.ofString "_law_asked") (defScope st_law_asked) (He.ga K (PySem.Str.ofString "_law_asked")) cdv A outer st H E).A (cxOf (L2.CX P w) P w K mg base n_law_asked (PySem.Str.ofString "_law_asked") (defScope st_law_asked) (He.ga K (PySem.Str.ofString "_law_asked")) cdv A outer st H E).env (cxOf (L2.CX P w) P w K mg base n_law_asked (PySem.Str.ofString "_law_asked") (defScope st_law_asked) (He.ga K (PySem.Str.ofString "_law_asked")) cdv A outer st H E).xe := passes_of rfl
  exact ss_cons (s_set (fun _ h => ps_set (i := 2) sc_law_asked.nd rfl (Or.inl rfl) h) (x_lstS a_nil))
        (ss_cons (s_forR1 hp rfl rfl T.n_range x_int (pg_name (i := 3) sc_law_asked.nd rfl (Or.inl rfl)) (ss_one (s_for (tg_name 4) hp rfl (x_var 1 (pv 1)) (pg_name (i := 4) sc_law_asked.nd rfl (Or.inl rfl)) (ss_one (s_expr (x_app (x_var 2 (pv 2)) (x_tup (a_cons (x_meth T.cl_Roll F_Roll_owed (hr.mono (by decide)) tk (x_var 0 (pv 0)) (a_cons (x_var 3 (pv 3)) (a_cons (x_var 4 (pv 4)) a_nil)) (ar_cons (ar_cons ar_nil))) (a_cons (x_meth T.cl_Roll F_Roll_pledge (hr.mono (by decide)) tk (x_var 0 (pv 0)) (a_cons (x_var 3 (pv 3)) (a_cons (x_var 4 (pv 4)) a_nil)) (ar_cons (ar_cons ar_nil))) a_nil)))))))))
        (ss_one (s_ret (x_var 2 (pv 2)))))
theorem sc_Roll_bill : FnScope n_Roll_bill p_Roll_bill (defScope st_Roll_bill) := ⟨rfl, rfl, rfl, by decide +kernel, rfl, by decide +kernel, by decide +kernel⟩
theorem fn_Roll_bill (T : Txt K mg) (F_sure_day : Fn P w K mg base (PySem.Str.ofString "sure_day") 3 (spP K 1 f_sure_day)) (F_Roll_done : Md P w K mg base (PySem.Str.ofString "Roll") (PySem.Str.ofString "done") 8 (spW K 2 f_Roll_done)) : Md P w K mg base (PySem.Str.ofString "Roll") (PySem.Str.ofString "bill") 9 (spW K 2 f_Roll_bill) := by
  obtain ⟨fd, F⟩ := T.F_Roll_bill
  refine mk_MW (s := sm_Roll_bill) rfl rfl rfl T.M_Roll_bill F sc_Roll_bill (F.bindsN fun _ _ _ _ _ _ us hl => match us, hl with | [_, _], _ => rfl) (fun cdv A outer st H E hr => ?_)
  have tk : Takes (cxOf (L2.CX P w) P w K mg base n_Roll_bill (PySem.Str.ofString "Roll.bill") (defScope st_Roll_bill) (He.ma K (He.ga K (PySem.Str.ofString "Roll")) (PySem.Str.ofString "bill")) cdv A outer st H E) (wishOf E) := takes_of rfl rfl rfl rfl
  have hp : PassesOwn (model P w) (cxOf (L2.CX P w) P w K mg base n_Roll_bill (PySem.Str.ofString "Roll.bill") (defScope st_Roll_bill) (He.ma K (He.ga K (PySem.Str.ofString "Roll")) (PySem.Str.ofString "bill")) cdv A outer st H E).A (cxOf (L2.CX P w) P w K mg base n_Roll_bill (PySem.Str.ofString "Roll.bill") (defScope st_Roll_bill) (He.ma K (He.ga K (PySem.Str.ofString "Roll")) (PySem.Str.ofString "bill")) cdv A outer st H E).env (cxOf (L2.CX P w) P w K mg base n_Roll_bill (PySem.Str.ofString "Roll.bill") (defScope st_Roll_bill) (He.ma K (He.ga K (PySem.Str.ofString "Roll")) (PySem.Str.ofString "bill")) cdv A outer st H E).xe := passes_of rfl
  exact ss_cons (s_expr (x_callP F_sure_day (hr.mono (by decide)) tk rfl (a_cons (x_var 1 (pv 1)) a_nil) rfl (hx := ar_cons ar_nil)))
        (ss_cons (s_if (t_cmp k_lt op_lt (x_var 1 (pv 1)) (x_fld rfl T.cl_Roll T.na_Roll_through (x_var 0 (pv 0))) (nomark _)) (ss_one (s_raiseC rfl tk T.x_Done rfl)) ss_nil)
        (ss_cons (s_fld T.cl_Roll T.na_Roll_through (x_var 0 (pv 0)) (x_var 1 (pv 1)))
        (ss_one (s_ret (x_meth T.cl_Roll F_Roll_done (hr.mono (by decide)) tk (x_var 0 (pv 0)) (a_cons (x_tup (a_cons x_str (a_cons (x_var 1 (pv 1)) a_nil))) a_nil) (ar_cons ar_nil))))))
theorem sc_law_base : FnScope n_law_base p_law_base (defScope st_law_base) := ⟨rfl, rfl, rfl, by decide +kernel, rfl, by decide +kernel, by decide +kernel⟩
theorem fn_law_base (T : Txt K mg)  : Fn P w K mg base (PySem.Str.ofString "_law_base") 1 (spP K 1 f_law_base) := by
  obtain ⟨fd, F⟩ := T.F_law_base
  refine mk_P (s := sm_law_base) rfl rfl rfl T.g_law_base F sc_law_base (F.bindsN fun _ _ _ _ _ _ us hl => match us, hl with | [_], _ => rfl) (fun cdv A outer st H E hr => ?_)
  have tk : Takes (cxOf (L2.CX P w) P w K mg base n_law_base (PySem.Str.ofString "_law_base") (defScope st_law_base) (He.ga K (PySem.Str.ofString "_law_base")) cdv A outer st H E) (wishOf E) := takes_of rfl rfl rfl rfl
  have hp : PassesOwn (model P w) (cxOf (L2.CX P w) P w K mg base n_law_base (PySem.Str.ofString "_law_base") (defScope st_law_base) (He.ga K (PySem.Str.ofString "_law_base")) cdv A outer st H E).A (cxOf (L2.CX P w) P w K mg base n_law_base (PySem.Str.ofString "_law_base") (defScope st_law_base) (He.ga K (PySem.Str.ofString "_law_base")) cdv A outer st H E).env (cxOf (L2.CX P w) P w K mg base n_law_base (PySem.Str.ofString "_law_base") (defScope st_law_base) (He.ga K (PySem.Str.ofString "_law_base")) cdv A outer st H E).xe := passes_of rfl
  exact ss_cons (s_set (fun _ h => ps_set (i := 1) sc_law_base.nd rfl (Or.inl rfl) h) (x_lst (a_cons x_int (a_cons x_int (a_cons x_int (a_cons x_int (a_cons x_int (a_cons x_int (a_cons x_int (a_cons x_int (a_cons x_int a_nil)))))))))))
        (ss_cons (s_if (t_cmp k_eq (op_eqD (hu64 hr)) (x_mod (x_var 0 (pv 0)) x_int) x_int (nomark _)) (ss_one (s_ret (x_ix k_ixL ix_list (x_var 1 (pv 1)) (x_mod (x_div (x_var 0 (pv 0)) x_int) x_int) (fun _ _ => rfl)))) ss_nil)
        (ss_one (s_ret (x_mod (x_div (x_var 0 (pv 0)) x_int) x_int))))
theorem sc_Roll_end : FnScope n_Roll_end p_Roll_end (defScope st_Roll_end) := ⟨rfl, rfl, rfl, by decide +kernel, rfl, by decide +kernel, by decide +kernel⟩
theorem fn_Roll_end (T : Txt K mg) (F_Roll_sure : Md P w K mg base (PySem.Str.ofString "Roll") (PySem.Str.ofString "sure") 3 (spW K 2 f_Roll_sure)) (F_sure_day : Fn P w K mg base (PySem.Str.ofString "sure_day") 3 (spP K 1 f_sure_day)) (F_Roll_done : Md P w K mg base (PySem.Str.ofString "Roll") (PySem.Str.ofString "done") 8 (spW K 2 f_Roll_done)) : Md P w K mg base (PySem.Str.ofString "Roll") (PySem.Str.ofString "end") 9 (spW K 3 f_Roll_end) := by
  obtain ⟨fd, F⟩ := T.F_Roll_end
  refine mk_MW (s := sm_Roll_end) rfl rfl rfl T.M_Roll_end F sc_Roll_end (F.bindsN fun _ _ _ _ _ _ us hl => match us, hl with | [_, _, _], _ => rfl) (fun cdv A outer st H E hr => ?_)
  have tk : Takes (cxOf (L2.CX P w) P w K mg base n_Roll_end (PySem.Str.ofString "Roll.end") (defScope st_Roll_end) (He.ma K (He.ga K (PySem.Str.ofString "Roll")) (PySem.Str.ofString "end")) cdv A outer st H E) (wishOf E) := takes_of rfl rfl rfl rfl
  have hp : PassesOwn (model P w) (cxOf (L2.CX P w) P w K mg base n_Roll_end (PySem.Str.ofString "Roll.end") (defScope st_Roll_end) (He.ma K (He.ga K (PySem.Str.ofString "Roll")) (PySem.Str.ofString "end")) cdv A outer st H E).A (cxOf (L2.CX P w) P w K mg base n_Roll_end (PySem.Str.ofString "Roll.end") (defScope st_Roll_end) (He.ma K (He.ga K (PySem.Str.ofString "Roll")) (PySem.Str.ofString "end")) cdv A outer st H E).env (cxOf (L2.CX P w) P w K mg base n_Roll_end (PySem.Str.ofString "Roll.end") (defScope st_Roll_end) (He.ma K (He.ga K (PySem.Str.ofString "Roll")) (PySem.Str.ofString "end")) cdv A outer st H E).xe := passes_of rfl
  exact ss_cons (s_set (fun _ h => ps_set (i := 3) sc_Roll_end.nd rfl (Or.inl rfl) h) (x_meth T.cl_Roll F_Roll_sure (hr.mono (by decide)) tk (x_var 0 (pv 0)) (a_cons (x_var 1 (pv 1)) a_nil) (ar_cons ar_nil)))
        (ss_cons (s_expr (x_callP F_sure_day (hr.mono (by decide)) tk rfl (a_cons (x_var 2 (pv 2)) a_nil) rfl (hx := ar_cons ar_nil)))
        (ss_cons (s_if (t_cmp k_lt op_lt (x_var 2 (pv 2)) (x_fld rfl T.cl_Lease T.na_Lease_first (x_var 3 (pv 3))) (nomark _)) (ss_one (s_raiseC rfl tk T.x_BadDay rfl)) ss_nil)
        (ss_cons (s_for (tg_name 4) hp rfl (x_fld rfl T.cl_Roll T.na_Roll_leases (x_var 0 (pv 0))) (pg_name (i := 4) sc_Roll_end.nd rfl (Or.inl rfl)) (ss_one (s_if (PW.pt (w_and (t_cmp k_eq (op_eqD (hu64 hr)) (x_fld rfl T.cl_Lease T.na_Lease_flat (x_var 4 (pv 4))) (x_fld rfl T.cl_Lease T.na_Lease_flat (x_var 3 (pv 3))) (nomark _)) (w_and1 (t_chain k_lt op_lt k_le op_le (x_fld rfl T.cl_Lease T.na_Lease_first (x_var 3 (pv 3))) (x_fld rfl T.cl_Lease T.na_Lease_first (x_var 4 (pv 4))) (x_var 2 (pv 2)))))) (ss_one (s_raiseC rfl tk T.x_Taken rfl)) ss_nil)))
        (ss_cons (s_fld T.cl_Lease T.na_Lease_last (x_var 3 (pv 3)) (x_var 2 (pv 2)))
        (ss_one (s_ret (x_meth T.cl_Roll F_Roll_done (hr.mono (by decide)) tk (x_var 0 (pv 0)) (a_cons (x_tup (a_cons x_str (a_cons (x_var 1 (pv 1)) (a_cons (x_var 2 (pv 2)) a_nil)))) a_nil) (ar_cons ar_nil))))))))
theorem sc_Roll_step : FnScope n_Roll_step p_Roll_step (defScope st_Roll_step) := ⟨rfl, rfl, rfl, by decide +kernel, rfl, by decide +kernel, by decide +kernel⟩
theorem fn_Roll_step (T : Txt K mg) (F_Roll_sure : Md P w K mg base (PySem.Str.ofString "Roll") (PySem.Str.ofString "sure") 3 (spW K 2 f_Roll_sure)) (F_sure_day : Fn P w K mg base (PySem.Str.ofString "sure_day") 3 (spP K 1 f_sure_day)) (F_sure_amount : Fn P w K mg base (PySem.Str.ofString "sure_amount") 3 (spP K 3 f_sure_amount)) (F_Roll_done : Md P w K mg base (PySem.Str.ofString "Roll") (PySem.Str.ofString "done") 8 (spW K 2 f_Roll_done)) : Md P w K mg base (PySem.Str.ofString "Roll") (PySem.Str.ofString "step") 9 (spW K 4 f_Roll_step) := by
  obtain ⟨fd, F⟩ := T.F_Roll_step
  refine mk_MW (s := sm_Roll_step) rfl rfl rfl T.M_Roll_step F sc_Roll_step (F.bindsN fun _ _ _ _ _ _ us hl => match us, hl with | [_, _, _, _], _ => rfl) (fun cdv A outer st H E hr => ?_)
  have tk : Takes (cxOf (L2.CX P w) P w K mg base n_Roll_step (PySem.Str.ofString "Roll.step") (defScope st_Roll_step) (He.ma K (He.ga K (PySem.Str.ofString "Roll")) (PySem.Str.ofString "step")) cdv A outer st H E) (wishOf E) := takes_of rfl rfl rfl rfl
  have hp : PassesOwn (model P w) (cxOf (L2.CX P w) P w K mg base n_Roll_step (PySem.Str.ofString "Roll.step") (defScope st_Roll_step) (He.ma K (He.ga K (PySem.Str.ofString "Roll")) (PySem.Str.ofString "step")) cdv A outer st H E).A (cxOf (L2.CX P w) P w K mg base n_Roll_step (PySem.Str.ofString "Roll.step") (defScope st_Roll_step) (He.ma K (He.ga K (PySem.Str.ofString "Roll")) (PySem.Str.ofString "step")) cdv A outer st H E).env (cxOf (L2.CX P w) P w K mg base n_Roll_step (PySem.Str.ofString "Roll.step") (defScope st_Roll_step) (He.ma K (He.ga K (PySem.Str.ofString "Roll")) (PySem.Str.ofString "step")) cdv A outer st H E).xe := passes_of rfl
  exact ss_cons (s_set (fun _ h => ps_set (i := 4) sc_Roll_step.nd rfl (Or.inl rfl) h) (x_meth T.cl_Roll F_Roll_sure (hr.mono (by decide)) tk (x_var 0 (pv 0)) (a_cons (x_var 1 (pv 1)) a_nil) (ar_cons ar_nil)))
        (ss_cons (s_expr (x_callP F_sure_day (hr.mono (by decide)) tk rfl (a_cons (x_var 2 (pv 2)) a_nil) rfl (hx := ar_cons ar_nil)))
        (ss_cons (s_expr (x_callP F_sure_amount (hr.mono (by decide)) tk rfl (a_cons (x_var 3 (pv 3)) (a_cons x_int (a_cons (x_gint rfl T.c_MOST_CENTS) a_nil))) rfl (hx := ar_cons (ar_cons (ar_cons ar_nil)))))
        (ss_cons (s_expr (x_app (x_fld rfl T.cl_Lease T.na_Lease_steps (x_var 4 (pv 4))) (x_tup (a_cons (x_var 2 (pv 2)) (a_cons (x_var 3 (pv 3)) a_nil)))))
        (ss_one (s_ret (x_meth T.cl_Roll F_Roll_done (hr.mono (by decide)) tk (x_var 0 (pv 0)) (a_cons (x_tup (a_cons x_str (a_cons (x_var 1 (pv 1)) (a_cons (x_var 2 (pv 2)) (a_cons (x_var 3 (pv 3)) a_nil))))) a_nil) (ar_cons ar_nil)))))))
theorem sc_Roll_gauge : FnScope n_Roll_gauge p_Roll_gauge (defScope st_Roll_gauge) := ⟨rfl, rfl, rfl, by decide +kernel, rfl, by decide +kernel, by decide +kernel⟩
theorem fn_Roll_gauge (T : Txt K mg) (F_sure_day : Fn P w K mg base (PySem.Str.ofString "sure_day") 3 (spP K 1 f_sure_day)) (F_sure_amount : Fn P w K mg base (PySem.Str.ofString "sure_amount") 3 (spP K 3 f_sure_amount)) (F_Roll_done : Md P w K mg base (PySem.Str.ofString "Roll") (PySem.Str.ofString "done") 8 (spW K 2 f_Roll_done)) : Md P w K mg base (PySem.Str.ofString "Roll") (PySem.Str.ofString "gauge") 9 (spW K 3 f_Roll_gauge) := by
  obtain ⟨fd, F⟩ := T.F_Roll_gauge
  refine mk_MW (s := sm_Roll_gauge) rfl rfl rfl T.M_Roll_gauge F sc_Roll_gauge (F.bindsN fun _ _ _ _ _ _ us hl => match us, hl with | [_, _, _], _ => rfl) (fun cdv A outer st H E hr => ?_)
  have tk : Takes (cxOf (L2.CX P w) P w K mg base n_Roll_gauge (PySem.Str.ofString "Roll.gauge") (defScope st_Roll_gauge) (He.ma K (He.ga K (PySem.Str.ofString "Roll")) (PySem.Str.ofString "gauge")) cdv A outer st H E) (wishOf E) := takes_of rfl rfl rfl rfl
  have hp : PassesOwn (model P w) (cxOf (L2.CX P w) P w K mg base n_Roll_gauge (PySem.Str.ofString "Roll.gauge") (defScope st_Roll_gauge) (He.ma K (He.ga K (PySem.Str.ofString "Roll")) (PySem.Str.ofString "gauge")) cdv A outer st H E).A (cxOf (L2.CX P w) P w K mg base n_Roll_gauge (PySem.Str.ofString "Roll.gauge") (defScope st_Roll_gauge) (He.ma K (He.ga K (PySem.Str.ofString "Roll")) (PySem.Str.ofString "gauge")) cdv A outer st H E).env (cxOf (L2.CX P w) P w K mg base n_Roll_gauge (PySem.Str.ofString "Roll.gauge") (defScope st_Roll_gauge) (He.ma K (He.ga K (PySem.Str.ofString "Roll")) (PySem.Str.ofString "gauge")) cdv A outer st H E).xe := passes_of rfl
  exact ss_cons (s_expr (x_callP F_sure_day (hr.mono (by decide)) tk rfl (a_cons (x_var 1 (pv 1)) a_nil) rfl (hx := ar_cons ar_nil)))
        (ss_cons (s_expr (x_callP F_sure_amount (hr.mono (by decide)) tk rfl (a_cons (x_var 2 (pv 2)) (a_cons x_int (a_cons (x_gint rfl T.c_MOST_NUMBER) a_nil))) rfl (hx := ar_cons (ar_cons (ar_cons ar_nil)))))
        (ss_cons (s_expr (x_app (x_fld rfl T.cl_Roll T.na_Roll_gauges (x_var 0 (pv 0))) (x_tup (a_cons (x_var 1 (pv 1)) (a_cons (x_var 2 (pv 2)) a_nil)))))
        (ss_one (s_ret (x_meth T.cl_Roll F_Roll_done (hr.mono (by decide)) tk (x_var 0 (pv 0)) (a_cons (x_tup (a_cons x_str (a_cons (x_var 1 (pv 1)) (a_cons (x_var 2 (pv 2)) a_nil)))) a_nil) (ar_cons ar_nil))))))
theorem sc_Roll_rate : FnScope n_Roll_rate p_Roll_rate (defScope st_Roll_rate) := ⟨rfl, rfl, rfl, by decide +kernel, rfl, by decide +kernel, by decide +kernel⟩
theorem fn_Roll_rate (T : Txt K mg) (F_sure_day : Fn P w K mg base (PySem.Str.ofString "sure_day") 3 (spP K 1 f_sure_day)) (F_sure_amount : Fn P w K mg base (PySem.Str.ofString "sure_amount") 3 (spP K 3 f_sure_amount)) (F_Roll_done : Md P w K mg base (PySem.Str.ofString "Roll") (PySem.Str.ofString "done") 8 (spW K 2 f_Roll_done)) : Md P w K mg base (PySem.Str.ofString "Roll") (PySem.Str.ofString "rate") 9 (spW K 3 f_Roll_rate) := by
  obtain ⟨fd, F⟩ := T.F_Roll_rate
  refine mk_MW (s := sm_Roll_rate) rfl rfl rfl T.M_Roll_rate F sc_Roll_rate (F.bindsN fun _ _ _ _ _ _ us hl => match us, hl with | [_, _, _], _ => rfl) (fun cdv A outer st H E hr => ?_)
  have tk : Takes (cxOf (L2.CX P w) P w K mg base n_Roll_rate (PySem.Str.ofString "Roll.rate") (defScope st_Roll_rate) (He.ma K (He.ga K (PySem.Str.ofString "Roll")) (PySem.Str.ofString "rate")) cdv A outer st H E) (wishOf E) := takes_of rfl rfl rfl rfl
  have hp : PassesOwn (model P w) (cxOf (L2.CX P w) P w K mg base n_Roll_rate (PySem.Str.ofString "Roll.rate") (defScope st_Roll_rate) (He.ma K (He.ga K (PySem.Str.ofString "Roll")) (PySem.Str.ofString "rate")) cdv A outer st H E).A (cxOf (L2.CX P w) P w K mg base n_Roll_rate (PySem.Str.ofString "Roll.rate") (defScope st_Roll_rate) (He.ma K (He.ga K (PySem.Str.ofString "Roll")) (PySem.Str.ofString "rate")) cdv A outer st H E).env (cxOf (L2.CX P w) P w K mg base n_Roll_rate (PySem.Str.ofString "Roll.rate") (defScope st_Roll_rate) (He.ma K (He.ga K (PySem.Str.ofString "Roll")) (PySem.Str.ofString "rate")) cdv A outer st H E).xe := passes_of rfl
  exact ss_cons (s_expr (x_callP F_sure_day (hr.mono (by decide)) tk rfl (a_cons (x_var 1 (pv 1)) a_nil) rfl (hx := ar_cons ar_nil)))
        (ss_cons (s_expr (x_callP F_sure_amount (hr.mono (by decide)) tk rfl (a_cons (x_var 2 (pv 2)) (a_cons x_int (a_cons (x_gint rfl T.c_MOST_RATE) a_nil))) rfl (hx := ar_cons (ar_cons (ar_cons ar_nil)))))
        (ss_cons (s_expr (x_app (x_fld rfl T.cl_Roll T.na_Roll_rates (x_var 0 (pv 0))) (x_tup (a_cons (x_var 1 (pv 1)) (a_cons (x_var 2 (pv 2)) a_nil)))))
        (ss_one (s_ret (x_meth T.cl_Roll F_Roll_done (hr.mono (by decide)) tk (x_var 0 (pv 0)) (a_cons (x_tup (a_cons x_str (a_cons (x_var 1 (pv 1)) (a_cons (x_var 2 (pv 2)) a_nil)))) a_nil) (ar_cons ar_nil))))))
theorem sc_Roll_paid : FnScope n_Roll_paid p_Roll_paid (defScope st_Roll_paid) := ⟨rfl, rfl, rfl, by decide +kernel, rfl, by decide +kernel, by decide +kernel⟩
theorem fn_Roll_paid (T : Txt K mg) (F_Roll_sure : Md P w K mg base (PySem.Str.ofString "Roll") (PySem.Str.ofString "sure") 3 (spW K 2 f_Roll_sure)) (F_sure_day : Fn P w K mg base (PySem.Str.ofString "sure_day") 3 (spP K 1 f_sure_day)) (F_sure_amount : Fn P w K mg base (PySem.Str.ofString "sure_amount") 3 (spP K 3 f_sure_amount)) (F_Roll_done : Md P w K mg base (PySem.Str.ofString "Roll") (PySem.Str.ofString "done") 8 (spW K 2 f_Roll_done)) : Md P w K mg base (PySem.Str.ofString "Roll") (PySem.Str.ofString "paid") 9 (spW K 4 f_Roll_paid) := by
  obtain ⟨fd, F⟩ := T.F_Roll_paid
  refine mk_MW (s := sm_Roll_paid) rfl rfl rfl T.M_Roll_paid F sc_Roll_paid (F.bindsN fun _ _ _ _ _ _ us hl => match us, hl with | [_, _, _, _], _ => rfl) (fun cdv A outer st H E hr => ?_)
  have tk : Takes (cxOf (L2.CX P w) P w K mg base n_Roll_paid (PySem.Str.ofString "Roll.paid") (defScope st_Roll_paid) (He.ma K (He.ga K (PySem.Str.ofString "Roll")) (PySem.Str.ofString "paid")) cdv A outer st H E) (wishOf E) := takes_of rfl rfl rfl rfl
  have hp : PassesOwn (model P w) (cxOf (L2.CX P w) P w K mg base n_Roll_paid (PySem.Str.ofString "Roll.paid") (defScope st_Roll_paid) (He.ma K (He.ga K (PySem.Str.ofString "Roll")) (PySem.Str.ofString "paid")) cdv A outer st H E).A (cxOf (L2.CX P w) P w K mg base n_Roll_paid (PySem.Str.ofString "Roll.paid") (defScope st_Roll_paid) (He.ma K (He.ga K (PySem.Str.ofString "Roll")) (PySem.Str.ofString "paid")) cdv A outer st H E).env (cxOf (L2.CX P w) P w K mg base n_Roll_paid (PySem.Str.ofString "Roll.paid") (defScope st_Roll_paid) (He.ma K (He.ga K (PySem.Str.ofString "Roll")) (PySem.Str.ofString "paid")) cdv A outer st H E).xe := passes_of rfl
  exact ss_cons (s_set (fun _ h => ps_set (i := 4) sc_Roll_paid.nd rfl (Or.inl rfl) h) (x_meth T.cl_Roll F_Roll_sure (hr.mono (by decide)) tk (x_var 0 (pv 0)) (a_cons (x_var 1 (pv 1)) a_nil) (ar_cons ar_nil)))
        (ss_cons (s_expr (x_callP F_sure_day (hr.mono (by decide)) tk rfl (a_cons (x_var 2 (pv 2)) a_nil) rfl (hx := ar_cons ar_nil)))
        (ss_cons (s_expr (x_callP F_sure_amount (hr.mono (by decide)) tk rfl (a_cons (x_var 3 (pv 3)) (a_cons x_int (a_cons (x_gint rfl T.c_MOST_CENTS) a_nil))) rfl (hx := ar_cons (ar_cons (ar_cons ar_nil)))))
        (ss_cons (s_expr (x_app (x_fld rfl T.cl_Lease T.na_Lease_moves (x_var 4 (pv 4))) (x_tup (a_cons (x_var 2 (pv 2)) (a_cons (x_var 3 (pv 3)) a_nil)))))
        (ss_one (s_ret (x_meth T.cl_Roll F_Roll_done (hr.mono (by decide)) tk (x_var 0 (pv 0)) (a_cons (x_tup (a_cons x_str (a_cons (x_var 1 (pv 1)) (a_cons (x_var 2 (pv 2)) (a_cons (x_var 3 (pv 3)) a_nil))))) a_nil) (ar_cons ar_nil)))))))
theorem sc_Roll_kept : FnScope n_Roll_kept p_Roll_kept (defScope st_Roll_kept) := ⟨rfl, rfl, rfl, by decide +kernel, rfl, by decide +kernel, by decide +kernel⟩
theorem fn_Roll_kept (T : Txt K mg) (F_Roll_sure : Md P w K mg base (PySem.Str.ofString "Roll") (PySem.Str.ofString "sure") 3 (spW K 2 f_Roll_sure)) (F_sure_day : Fn P w K mg base (PySem.Str.ofString "sure_day") 3 (spP K 1 f_sure_day)) (F_sure_amount : Fn P w K mg base (PySem.Str.ofString "sure_amount") 3 (spP K 3 f_sure_amount)) (F_Roll_done : Md P w K mg base (PySem.Str.ofString "Roll") (PySem.Str.ofString "done") 8 (spW K 2 f_Roll_done)) : Md P w K mg base (PySem.Str.ofString "Roll") (PySem.Str.ofString "kept") 9 (spW K 4 f_Roll_kept) := by
  obtain ⟨fd, F⟩ := T.F_Roll_kept
  refine mk_MW (s := sm_Roll_kept) rfl rfl rfl T.M_Roll_kept F sc_Roll_kept (F.bindsN fun _ _ _ _ _ _ us hl => match us, hl with | [_, _, _, _], _ => rfl) (fun cdv A outer st H E hr => ?_)
  have tk : Takes (cxOf (L2.CX P w) P w K mg base n_Roll_kept (PySem.Str.ofString "Roll.kept") (defScope st_Roll_kept) (He.ma K (He.ga K (PySem.Str.ofString "Roll")) (PySem.Str.ofString "kept")) cdv A outer st H E) (wishOf E) := takes_of rfl rfl rfl rfl
  have hp : PassesOwn (model P w) (cxOf (L2.CX P w) P w K mg base n_Roll_kept (PySem.Str.ofString "Roll.kept") (defScope st_Roll_kept) (He.ma K (He.ga K (PySem.Str.ofString "Roll")) (PySem.Str.ofString "kept")) cdv A outer st H E).A (cxOf (L2.CX P w) P w K mg base n_Roll_kept (PySem.Str.ofString "Roll.kept") (defScope st_Roll_kept) (He.ma K (He.ga K (PySem.Str.ofString "Roll")) (PySem.Str.ofString "kept")) cdv A outer st H E).env (cxOf (L2.CX P w) P w K mg base n_Roll_kept (PySem.Str.ofString "Roll.kept") (defScope st_Roll_kept) (He.ma K (He.ga K (PySem.Str.ofString "Roll")) (PySem.Str.ofString "kept")) cdv A outer st H E).xe := passes_of rfl
  exact ss_cons (s_set (fun _ h => ps_set (i := 4) sc_Roll_kept.nd rfl (Or.inl rfl) h) (x_meth T.cl_Roll F_Roll_sure (hr.mono (by decide)) tk (x_var 0 (pv 0)) (a_cons (x_var 1 (pv 1)) a_nil) (ar_cons ar_nil)))
        (ss_cons (s_expr (x_callP F_sure_day (hr.mono (by decide)) tk rfl (a_cons (x_var 2 (pv 2)) a_nil) rfl (hx := ar_cons ar_nil)))
        (ss_cons (s_expr (x_callP F_sure_amount (hr.mono (by decide)) tk rfl (a_cons (x_var 3 (pv 3)) (a_cons x_int (a_cons (x_gint rfl T.c_MOST_CENTS) a_nil))) rfl (hx := ar_cons (ar_cons (ar_cons ar_nil)))))
        (ss_cons (s_expr (x_app (x_fld rfl T.cl_Lease T.na_Lease_moves (x_var 4 (pv 4))) (x_tup (a_cons (x_var 2 (pv 2)) (a_cons (x_sub x_int (x_var 3 (pv 3))) a_nil)))))
        (ss_one (s_ret (x_meth T.cl_Roll F_Roll_done (hr.mono (by decide)) tk (x_var 0 (pv 0)) (a_cons (x_tup (a_cons x_str (a_cons (x_var 1 (pv 1)) (a_cons (x_var 2 (pv 2)) (a_cons (x_var 3 (pv 3)) a_nil))))) a_nil) (ar_cons ar_nil)))))))
theorem sc_law_do : FnScope n_law_do p_law_do (defScope st_law_do) := ⟨rfl, rfl, rfl, by decide +kernel, rfl, by decide +kernel, by decide +kernel⟩
theorem fn_law_do (T : Txt K mg) (F_Roll_bill : Md P w K mg base (PySem.Str.ofString "Roll") (PySem.Str.ofString "bill") 9 (spW K 2 f_Roll_bill)) (F_Roll_let : Md P w K mg base (PySem.Str.ofString "Roll") (PySem.Str.ofString "let") 9 (spW K 5 f_Roll_let)) (F_Roll_end : Md P w K mg base (PySem.Str.ofString "Roll") (PySem.Str.ofString "end") 9 (spW K 3 f_Roll_end)) (F_Roll_step : Md P w K mg base (PySem.Str.ofString "Roll") (PySem.Str.ofString "step") 9 (spW K 4 f_Roll_step)) (F_Roll_gauge : Md P w K mg base (PySem.Str.ofString "Roll") (PySem.Str.ofString "gauge") 9 (spW K 3 f_Roll_gauge)) (F_Roll_rate : Md P w K mg base (PySem.Str.ofString "Roll") (PySem.Str.ofString "rate") 9 (spW K 3 f_Roll_rate)) (F_Roll_paid : Md P w K mg base (PySem.Str.ofString "Roll") (PySem.Str.ofString "paid") 9 (spW K 4 f_Roll_paid)) (F_Roll_kept : Md P w K mg base (PySem.Str.ofString "Roll") (PySem.Str.ofString "kept") 9 (spW K 4 f_Roll_kept)) (F_Roll_close : Md P w K mg base (PySem.Str.ofString "Roll") (PySem.Str.ofString "close") 9 (spW K 3 f_Roll_close)) : Fn P w K mg base (PySem.Str.ofString "_law_do") 10 (spW K 2 f_law_do) := by
  obtain ⟨fd, F⟩ := T.F_law_do
  refine mk_W (s := sm_law_do) rfl rfl rfl T.g_law_do F sc_law_do (F.bindsN fun _ _ _ _ _ _ us hl => match us, hl with | [_, _], _ => rfl) (fun cdv A outer st H E hr => ?_)
  have tk : Takes (cxOf (L2.CX P w) P w K mg base n_law_do (PySem.Str.ofString "_law_do") (defScope st_law_do) (He.ga K (PySem.Str.ofString "_law_do")) cdv A outer st H E) (wishOf E) := takes_of rfl rfl rfl rfl
  have hp : PassesOwn (model P w) (cxOf (L2.CX P w) P w K mg base n_law_do (PySem.Str.ofString "_law_do") (defScope st_law_do) (He.ga K (PySem.Str.ofString "_law_do")) cdv A outer st H E).A (cxOf (L2.CX P w) P w K mg base n_law_do (PySem.Str.ofString "_law_do") (defScope st_law_do) (He.ga K (PySem.Str.ofString "_law_do")) cdv A outer st H E).env (cxOf (L2.CX P w) P w K mg base n_law_do (PySem.Str.ofString "_law_do") (defScope st_law_do) (He.ga K (PySem.Str.ofString "_law_do")) cdv A outer st H E).xe := passes_of rfl
  exact ss_cons (s_if (t_cmp k_eq (op_eqD (hu64 hr)) (x_ix k_ixT ix_tup (x_var 1 (pv 1)) x_int (fun _ _ => rfl)) x_str (nomark _)) (ss_one (s_ret (x_meth T.cl_Roll F_Roll_let (hr.mono (by decide)) tk (x_var 0 (pv 0)) (a_cons (x_ix k_ixT ix_tup (x_var 1 (pv 1)) x_int (fun _ _ => rfl)) (a_cons (x_ix k_ixT ix_tup (x_var 1 (pv 1)) x_int (fun _ _ => rfl)) (a_cons (x_ix k_ixT ix_tup (x_var 1 (pv 1)) x_int (fun _ _ => rfl)) (a_cons (x_ix k_ixT ix_tup (x_var 1 (pv 1)) x_int (fun _ _ => rfl)) a_nil)))) (ar_cons (ar_cons (ar_cons (ar_cons ar_nil))))))) ss_nil)
        (ss_cons (s_if (t_cmp k_eq (op_eqD (hu64 hr)) (x_ix k_ixT ix_tup (x_var 1 (pv 1)) x_int (fun _ _ => rfl)) x_str (nomark _)) (ss_one (s_ret (x_meth T.cl_Roll F_Roll_end (hr.mono (by decide)) tk (x_var 0 (pv 0)) (a_cons (x_ix k_ixT ix_tup (x_var 1 (pv 1)) x_int (fun _ _ => rfl)) (a_cons (x_ix k_ixT ix_tup (x_var 1 (pv 1)) x_int (fun _ _ => rfl)) a_nil)) (ar_cons (ar_cons ar_nil))))) ss_nil)
        (ss_cons (s_if (t_cmp k_eq (op_eqD (hu64 hr)) (x_ix k_ixT ix_tup (x_var 1 (pv 1)) x_int (fun _ _ => rfl)) x_str (nomark _)) (ss_one (s_ret (x_meth T.cl_Roll F_Roll_step (hr.mono (by decide)) tk (x_var 0 (pv 0)) (a_cons (x_ix k_ixT ix_tup (x_var 1 (pv 1)) x_int (fun _ _ => rfl)) (a_cons (x_ix k_ixT ix_tup (x_var 1 (pv 1)) x_int (fun _ _ => rfl)) (a_cons (x_ix k_ixT ix_tup (x_var 1 (pv 1)) x_int (fun _ _ => rfl)) a_nil))) (ar_cons (ar_cons (ar_cons ar_nil)))))) ss_nil)
        (ss_cons (s_if (t_cmp k_eq (op_eqD (hu64 hr)) (x_ix k_ixT ix_tup (x_var 1 (pv 1)) x_int (fun _ _ => rfl)) x_str (nomark _)) (ss_one (s_ret (x_meth T.cl_Roll F_Roll_gauge (hr.mono (by decide)) tk (x_var 0 (pv 0)) (a_cons (x_ix k_ixT ix_tup (x_var 1 (pv 1)) x_int (fun _ _ => rfl)) (a_cons (x_ix k_ixT ix_tup (x_var 1 (pv 1)) x_int (fun _ _ => rfl)) a_nil)) (ar_cons (ar_cons ar_nil))))) ss_nil)
        (ss_cons (s_if (t_cmp k_eq (op_eqD (hu64 hr)) (x_ix k_ixT ix_tup (x_var 1 (pv 1)) x_int (fun _ _ => rfl)) x_str (nomark _)) (ss_one (s_ret (x_meth T.cl_Roll F_Roll_rate (hr.mono (by decide)) tk (x_var 0 (pv 0)) (a_cons (x_ix k_ixT ix_tup (x_var 1 (pv 1)) x_int (fun _ _ => rfl)) (a_cons (x_ix k_ixT ix_tup (x_var 1 (pv 1)) x_int (fun _ _ => rfl)) a_nil)) (ar_cons (ar_cons ar_nil))))) ss_nil)
        (ss_cons (s_if (t_cmp k_eq (op_eqD (hu64 hr)) (x_ix k_ixT ix_tup (x_var 1 (pv 1)) x_int (fun _ _ => rfl)) x_str (nomark _)) (ss_one (s_ret (x_meth T.cl_Roll F_Roll_paid (hr.mono (by decide)) tk (x_var 0 (pv 0)) (a_cons (x_ix k_ixT ix_tup (x_var 1 (pv 1)) x_int (fun _ _ => rfl)) (a_cons (x_ix k_ixT ix_tup (x_var 1 (pv 1)) x_int (fun _ _ => rfl)) (a_cons (x_ix k_ixT ix_tup (x_var 1 (pv 1)) x_int (fun _ _ => rfl)) a_nil))) (ar_cons (ar_cons (ar_cons ar_nil)))))) ss_nil)
        (ss_cons (s_if (t_cmp k_eq (op_eqD (hu64 hr)) (x_ix k_ixT ix_tup (x_var 1 (pv 1)) x_int (fun _ _ => rfl)) x_str (nomark _)) (ss_one (s_ret (x_meth T.cl_Roll F_Roll_kept (hr.mono (by decide)) tk (x_var 0 (pv 0)) (a_cons (x_ix k_ixT ix_tup (x_var 1 (pv 1)) x_int (fun _ _ => rfl)) (a_cons (x_ix k_ixT ix_tup (x_var 1 (pv 1)) x_int (fun _ _ => rfl)) (a_cons (x_ix k_ixT ix_tup (x_var 1 (pv 1)) x_int (fun _ _ => rfl)) a_nil))) (ar_cons (ar_cons (ar_cons ar_nil)))))) ss_nil)
        (ss_cons (s_if (t_cmp k_eq (op_eqD (hu64 hr)) (x_ix k_ixT ix_tup (x_var 1 (pv 1)) x_int (fun _ _ => rfl)) x_str (nomark _)) (ss_one (s_ret (x_meth T.cl_Roll F_Roll_close (hr.mono (by decide)) tk (x_var 0 (pv 0)) (a_cons (x_ix k_ixT ix_tup (x_var 1 (pv 1)) x_int (fun _ _ => rfl)) (a_cons (x_ix k_ixT ix_tup (x_var 1 (pv 1)) x_int (fun _ _ => rfl)) a_nil)) (ar_cons (ar_cons ar_nil))))) ss_nil)
        (ss_one (s_ret (x_meth T.cl_Roll F_Roll_bill (hr.mono (by decide)) tk (x_var 0 (pv 0)) (a_cons (x_ix k_ixT ix_tup (x_var 1 (pv 1)) x_int (fun _ _ => rfl)) a_nil) (ar_cons ar_nil)))))))))))
theorem sc_law_cell_at : FnScope n_law_cell_at p_law_cell_at (defScope st_law_cell_at) := ⟨rfl, rfl, rfl, by decide +kernel, rfl, by decide +kernel, by decide +kernel⟩
theorem fn_law_cell_at (T : Txt K mg)  : Fn P w K mg base (PySem.Str.ofString "_law_cell_at") 1 (spP K 2 f_law_cell_at) := by
  obtain ⟨fd, F⟩ := T.F_law_cell_at
  refine mk_P (s := sm_law_cell_at) rfl rfl rfl T.g_law_cell_at F sc_law_cell_at (F.bindsN fun _ _ _ _ _ _ us hl => match us, hl with | [_, _], _ => rfl) (fun cdv A outer st H E hr => ?_)
  have tk : Takes (cxOf (L2.CX P w) P w K mg base n_law_cell_at (PySem.Str.ofString "_law_cell_at") (defScope st_law_cell_at) (He.ga K (PySem.Str.ofString "_law_cell_at")) cdv A outer st H E) (wishOf E) := takes_of rfl rfl rfl rfl
  have hp : PassesOwn (model P w) (cxOf (L2.CX P w) P w K mg base n_law_cell_at (PySem.Str.ofString "_law_cell_at") (defScope st_law_cell_at) (He.ga K (PySem.Str.ofString "_law_cell_at")) cdv A outer st H E).A (cxOf (L2.CX P w) P w K mg base n_law_cell_at (PySem.Str.ofString "_law_cell_at") (defScope st_law_cell_at) (He.ga K (PySem.Str.ofString "_law_cell_at")) cdv A outer st H E).env (cxOf (L2.CX P w) P w K mg base n_law_cell_at (PySem.Str.ofString "_law_cell_at") (defScope st_law_cell_at) (He.ga K (PySem.Str.ofString "_law_cell_at")) cdv A outer st H E).xe := passes_of rfl
  exact ss_cons (s_if (t_cmp k_lt op_lt (x_var 1 (pv 1)) (x_blt k_len call_len (by rfl) T.n_len PySem.boot_len (a_cons (x_var 0 (pv 0)) a_nil)) (nomark _)) (ss_one (s_ret (x_ix k_ixL ix_list (x_var 0 (pv 0)) (x_var 1 (pv 1)) (fun _ _ => rfl)))) ss_nil)
        (ss_one (s_ret x_int))
theorem sc_Roll_sent : FnScope n_Roll_sent p_Roll_sent (defScope st_Roll_sent) := ⟨rfl, rfl, rfl, by decide +kernel, rfl, by decide +kernel, by decide +kernel⟩
theorem fn_Roll_sent (T : Txt K mg) (F_Roll_sure : Md P w K mg base (PySem.Str.ofString "Roll") (PySem.Str.ofString "sure") 3 (spW K 2 f_Roll_sure)) : Md P w K mg base (PySem.Str.ofString "Roll") (PySem.Str.ofString "sent") 4 (spW K 2 f_Roll_sent) := by
  obtain ⟨fd, F⟩ := T.F_Roll_sent
  refine mk_MW (s := sm_Roll_sent) rfl rfl rfl T.M_Roll_sent F sc_Roll_sent (F.bindsN fun _ _ _ _ _ _ us hl => match us, hl with | [_, _], _ => rfl) (fun cdv A outer st H E hr => ?_)
  have tk : Takes (cxOf (L2.CX P w) P w K mg base n_Roll_sent (PySem.Str.ofString "Roll.sent") (defScope st_Roll_sent) (He.ma K (He.ga K (PySem.Str.ofString "Roll")) (PySem.Str.ofString "sent")) cdv A outer st H E) (wishOf E) := takes_of rfl rfl rfl rfl
  have hp : PassesOwn (model P w) (cxOf (L2.CX P w) P w K mg base n_Roll_sent (PySem.Str.ofString "Roll.sent") (defScope st_Roll_sent) (He.ma K (He.ga K (PySem.Str.ofString "Roll")) (PySem.Str.ofString "sent")) cdv A outer st H E).A (cxOf (L2.CX P w) P w K mg base n_Roll_sent (PySem.Str.ofString "Roll.sent") (defScope st_Roll_sent) (He.ma K (He.ga K (PySem.Str.ofString "Roll")) (PySem.Str.ofString "sent")) cdv A outer st H E).env (cxOf (L2.CX P w) P w K mg base n_Roll_sent (PySem.Str.ofString "Roll.sent") (defScope st_Roll_sent) (He.ma K (He.ga K (PySem.Str.ofString "Roll")) (PySem.Str.ofString "sent")) cdv A outer st H E).xe := passes_of rfl
  exact ss_one (s_ret (x_fld rfl T.cl_Lease T.na_Lease_rent_out (x_meth T.cl_Roll F_Roll_sure (hr.mono (by decide)) tk (x_var 0 (pv 0)) (a_cons (x_var 1 (pv 1)) a_nil) (ar_cons ar_nil))))
theorem sc_Roll_given : FnScope n_Roll_given p_Roll_given (defScope st_Roll_given) := ⟨rfl, rfl, rfl, by decide +kernel, rfl, by decide +kernel, by decide +kernel⟩
theorem fn_Roll_given (T : Txt K mg) (F_Roll_sure : Md P w K mg base (PySem.Str.ofString "Roll") (PySem.Str.ofString "sure") 3 (spW K 2 f_Roll_sure)) : Md P w K mg base (PySem.Str.ofString "Roll") (PySem.Str.ofString "given") 4 (spW K 2 f_Roll_given) := by
  obtain ⟨fd, F⟩ := T.F_Roll_given
  refine mk_MW (s := sm_Roll_given) rfl rfl rfl T.M_Roll_given F sc_Roll_given (F.bindsN fun _ _ _ _ _ _ us hl => match us, hl with | [_, _], _ => rfl) (fun cdv A outer st H E hr => ?_)
  have tk : Takes (cxOf (L2.CX P w) P w K mg base n_Roll_given (PySem.Str.ofString "Roll.given") (defScope st_Roll_given) (He.ma K (He.ga K (PySem.Str.ofString "Roll")) (PySem.Str.ofString "given")) cdv A outer st H E) (wishOf E) := takes_of rfl rfl rfl rfl
  have hp : PassesOwn (model P w) (cxOf (L2.CX P w) P w K mg base n_Roll_given (PySem.Str.ofString "Roll.given") (defScope st_Roll_given) (He.ma K (He.ga K (PySem.Str.ofString "Roll")) (PySem.Str.ofString "given")) cdv A outer st H E).A (cxOf (L2.CX P w) P w K mg base n_Roll_given (PySem.Str.ofString "Roll.given") (defScope st_Roll_given) (He.ma K (He.ga K (PySem.Str.ofString "Roll")) (PySem.Str.ofString "given")) cdv A outer st H E).env (cxOf (L2.CX P w) P w K mg base n_Roll_given (PySem.Str.ofString "Roll.given") (defScope st_Roll_given) (He.ma K (He.ga K (PySem.Str.ofString "Roll")) (PySem.Str.ofString "given")) cdv A outer st H E).xe := passes_of rfl
  exact ss_one (s_ret (x_fld rfl T.cl_Lease T.na_Lease_pledge_out (x_meth T.cl_Roll F_Roll_sure (hr.mono (by decide)) tk (x_var 0 (pv 0)) (a_cons (x_var 1 (pv 1)) a_nil) (ar_cons ar_nil))))
theorem sc_law : FnScope n_law p_law (defScope st_law) := ⟨rfl, rfl, rfl, by decide +kernel, rfl, by decide +kernel, by decide +kernel⟩
theorem fn_law (T : Txt K mg) (F_law_some : Fn P w K mg base (PySem.Str.ofString "_law_some") 2 (spP K 3 f_law_some)) (F_law_roll : Fn P w K mg base (PySem.Str.ofString "_law_roll") 10 (spW K 1 f_law_roll)) (F_Roll_close : Md P w K mg base (PySem.Str.ofString "Roll") (PySem.Str.ofString "close") 9 (spW K 3 f_Roll_close)) (F_Roll_many : Md P w K mg base (PySem.Str.ofString "Roll") (PySem.Str.ofString "many") 1 (spW K 1 f_Roll_many)) (F_law_asked : Fn P w K mg base (PySem.Str.ofString "_law_asked") 8 (spW K 2 f_law_asked)) (F_Roll_bill : Md P w K mg base (PySem.Str.ofString "Roll") (PySem.Str.ofString "bill") 9 (spW K 2 f_Roll_bill)) (F_law_base : Fn P w K mg base (PySem.Str.ofString "_law_base") 1 (spP K 1 f_law_base)) (F_law_do : Fn P w K mg base (PySem.Str.ofString "_law_do") 10 (spW K 2 f_law_do)) (F_law_cell_at : Fn P w K mg base (PySem.Str.ofString "_law_cell_at") 1 (spP K 2 f_law_cell_at)) (F_Roll_sent : Md P w K mg base (PySem.Str.ofString "Roll") (PySem.Str.ofString "sent") 4 (spW K 2 f_Roll_sent)) (F_Roll_given : Md P w K mg base (PySem.Str.ofString "Roll") (PySem.Str.ofString "given") 4 (spW K 2 f_Roll_given)) (F_Roll_owed : Md P w K mg base (PySem.Str.ofString "Roll") (PySem.Str.ofString "owed") 7 (spW K 3 f_Roll_owed)) (F_law_mix : Fn P w K mg base (PySem.Str.ofString "_law_mix") 1 (spP K 2 f_law_mix)) {fd : FuncData} (F : FunD K (PySem.Str.ofString "law") (PySem.Str.ofString "law") (defArgs st_law) (defBody st_law) (defScope st_law) [] [] (He.ga K (PySem.Str.ofString "law")) fd) : FnOk P w K mg base (L2.CX P w) 11 (He.ga K (PySem.Str.ofString "law")) fd p_law (spW K 1 f_law) := by
  refine mk_okW (s := sm_law) rfl rfl rfl F sc_law (fun cdv A outer st H E hr => ?_)
  have tk : Takes (cxOf (L2.CX P w) P w K mg base n_law (PySem.Str.ofString "law") (defScope st_law) (He.ga K (PySem.Str.ofString "law")) cdv A outer st H E) (wishOf E) := takes_of rfl rfl rfl rfl
  have hp : PassesOwn (model P w) (cxOf (L2.CX P w) P w K mg base n_law (PySem.Str.ofString "law") (defScope st_law) (He.ga K (PySem.Str.ofString "law")) cdv A outer st H E).A (cxOf (L2.CX P w) P w K mg base n_law (PySem.Str.ofString "law") (defScope st_law) (He.ga K (PySem.Str.ofString "law")) cdv A outer st H E).env (cxOf (L2.CX P w) P w K mg base n_law (PySem.Str.ofString "law") (defScope st_law) (He.ga K (PySem.Str.ofString "law")) cdv A outer st H E).xe := passes_of rfl
  exact ss_cons (s_set (fun _ h => ps_set (i := 1) sc_law.nd rfl (Or.inr rfl) h) (x_mod (x_callP F_law_base (hr.mono (by decide)) tk rfl (a_cons (x_callP F_law_cell_at (hr.mono (by decide)) tk rfl (a_cons (x_var 0 (pv 0)) (a_cons x_int a_nil)) rfl (hx := ar_cons (ar_cons ar_nil))) a_nil) rfl (hx := ar_cons ar_nil)) x_int))
        (ss_cons (s_set (fun _ h => ps_set (i := 2) sc_law.nd rfl (Or.inr rfl) h) x_int)
        (ss_cons (s_if (t_cmp k_eq (op_eqD (hu64 hr)) (x_mod (x_callP F_law_cell_at (hr.mono (by decide)) tk rfl (a_cons (x_var 0 (pv 0)) (a_cons x_int a_nil)) rfl (hx := ar_cons (ar_cons ar_nil))) x_int) x_int (nomark _)) (ss_one (s_set (fun _ h => ps_set (i := 2) sc_law.nd rfl (Or.inr rfl) h) x_int)) ss_nil)
        (ss_cons (s_set (fun _ h => ps_set (i := 3) sc_law.nd rfl (Or.inl rfl) h) (x_callP F_law_some (hr.mono (by decide)) tk rfl (a_cons (x_var 0 (pv 0)) (a_cons (x_var 1 (pv 1)) (a_cons (x_var 2 (pv 2)) a_nil))) rfl (hx := ar_cons (ar_cons (ar_cons ar_nil)))))
        (ss_cons (s_set (fun _ h => ps_set (i := 4) sc_law.nd rfl (Or.inr rfl) h) (x_callW F_law_roll (hr.mono (by decide)) tk rfl (a_cons (x_var 1 (pv 1)) a_nil) rfl (hx := ar_cons ar_nil)))
        (ss_cons (s_set (fun _ h => ps_set (i := 5) sc_law.nd rfl (Or.inr rfl) h) (x_callW F_law_roll (hr.mono (by decide)) tk rfl (a_cons (x_var 1 (pv 1)) a_nil) rfl (hx := ar_cons ar_nil)))
        (ss_cons (s_set (fun _ h => ps_set (i := 6) sc_law.nd rfl (Or.inl rfl) h) (x_callW F_law_roll (hr.mono (by decide)) tk rfl (a_cons (x_var 1 (pv 1)) a_nil) rfl (hx := ar_cons ar_nil)))
        (ss_cons (s_set (fun _ h => ps_set (i := 7) sc_law.nd rfl (Or.inl rfl) h) (x_add (x_var 1 (pv 1)) (x_mod (x_div (x_callP F_law_cell_at (hr.mono (by decide)) tk rfl (a_cons (x_var 0 (pv 0)) (a_cons x_int a_nil)) rfl (hx := ar_cons (ar_cons ar_nil))) x_int) (x_var 2 (pv 2)))))
        (ss_cons (s_expr (x_meth T.cl_Roll F_Roll_close (hr.mono (by decide)) tk (x_var 5 (pv 5)) (a_cons x_int (a_cons (x_var 7 (pv 7)) a_nil)) (ar_cons (ar_cons ar_nil))))
        (ss_cons (s_for (tg_name 8) hp rfl (x_var 3 (pv 3)) (pg_name (i := 8) sc_law.nd rfl (Or.inl rfl)) (ss_one (s_expr (x_callW F_law_do (hr.mono (by decide)) tk rfl (a_cons (x_var 4 (pv 4)) (a_cons (x_var 8 (pv 8)) a_nil)) rfl (hx := ar_cons (ar_cons ar_nil))))))
        (ss_cons (s_lcR (i := 9) rfl rfl (sw_true rfl rfl rfl (by decide +kernel)) (j := 14) rfl sc_law.nd (by rfl) T.n_range x_int (blkOk_by (own := [((PySem.Str.ofString "_law_k"), 14)]) (N := n_law) (sc := defScope st_law) (by decide +kernel)) (fun _ _ _ _ _ => pg_name (i := 14) sc_law.nd rfl (Or.inl rfl)) (fun _ _ _ _ _ => pts_nil) (fun _ _ _ _ _ => x_add (x_var 1 (pv 1)) (x_mod (x_callP F_law_mix (hr.mono (by decide)) RK.takes0 rfl (a_cons (x_callP F_law_cell_at (hr.mono (by decide)) RK.takes0 rfl (a_cons (x_var 0 (pv 0)) (a_cons x_int a_nil)) rfl (hx := ar_cons (ar_cons ar_nil))) (a_cons (x_var 14 (pv 14)) a_nil)) rfl (hx := ar_cons (ar_cons ar_nil))) (x_var 2 (pv 2)))))
        (ss_cons (s_set (fun _ h => ps_set (i := 10) sc_law.nd rfl (Or.inl rfl) h) (x_meth0 T.cl_Roll F_Roll_many (hr.mono (by decide)) tk (x_var 6 (pv 6))))
        (ss_cons (s_for (tg_name 8) hp rfl (x_sl k_slL sl_list (x_var 3 (pv 3)) po_n (po_s (x_div (x_blt k_len call_len (by rfl) T.n_len PySem.boot_len (a_cons (x_var 3 (pv 3)) a_nil)) x_int))) (pg_name (i := 8) sc_law.nd rfl (Or.inl rfl)) (ss_one (s_expr (x_callW F_law_do (hr.mono (by decide)) tk rfl (a_cons (x_var 6 (pv 6)) (a_cons (x_var 8 (pv 8)) a_nil)) rfl (hx := ar_cons (ar_cons ar_nil))))))
        (ss_cons (s_set (fun _ h => ps_set (i := 11) sc_law.nd rfl (Or.inl rfl) h) (x_callW F_law_asked (hr.mono (by decide)) tk rfl (a_cons (x_var 6 (pv 6)) (a_cons (x_var 9 (pv 9)) a_nil)) rfl (hx := ar_cons (ar_cons ar_nil))))
        (ss_cons (s_set (fun _ h => ps_set (i := 12) sc_law.nd rfl (Or.inl rfl) h) (x_add x_int (x_mod (x_div (x_callP F_law_cell_at (hr.mono (by decide)) tk rfl (a_cons (x_var 0 (pv 0)) (a_cons x_int a_nil)) rfl (hx := ar_cons (ar_cons ar_nil))) x_int) (x_blt k_max2 (call_max2 rfl) (by rfl) T.n_max (by decide +kernel) (a_cons x_int (a_cons (x_blt k_len call_len (by rfl) T.n_len PySem.boot_len (a_cons (x_var 3 (pv 3)) a_nil)) a_nil))))))
        (ss_cons (s_set (fun _ h => ps_set (i := 13) sc_law.nd rfl (Or.inl rfl) h) (x_bin k_cat op_catG (x_sl k_slL sl_list (x_var 3 (pv 3)) (po_s (x_var 12 (pv 12))) po_n) (x_sl k_slL sl_list (x_var 3 (pv 3)) po_n (po_s (x_var 12 (pv 12))))))
        (ss_cons (s_if (t_cmp k_eq (op_eqD (hu64 hr)) (x_mod (x_callP F_law_cell_at (hr.mono (by decide)) tk rfl (a_cons (x_var 0 (pv 0)) (a_cons x_int a_nil)) rfl (hx := ar_cons (ar_cons ar_nil))) x_int) x_int (nomark _)) (ss_one (s_set (fun _ h => ps_set (i := 13) sc_law.nd rfl (Or.inl rfl) h) (x_revL (x_var 13 (pv 13))))) ss_nil)
        (ss_cons (s_forR1 hp rfl rfl T.n_range (x_blt k_len call_len (by rfl) T.n_len PySem.boot_len (a_cons (x_var 13 (pv 13)) a_nil)) (pg_name (i := 14) sc_law.nd rfl (Or.inl rfl)) (ss_cons (s_if (t_cmp k_eq (op_eqD (hu64 hr)) (x_var 14 (pv 14)) (x_mod (x_callP F_law_cell_at (hr.mono (by decide)) tk rfl (a_cons (x_var 0 (pv 0)) (a_cons x_int a_nil)) rfl (hx := ar_cons (ar_cons ar_nil))) x_int) (nomark _)) (ss_one (s_expr (x_meth T.cl_Roll F_Roll_bill (hr.mono (by decide)) tk (x_var 5 (pv 5)) (a_cons (x_ix k_ixL ix_list (x_var 9 (pv 9)) x_int (fun _ _ => rfl)) a_nil) (ar_cons ar_nil)))) ss_nil)
        (ss_one (s_expr (x_callW F_law_do (hr.mono (by decide)) tk rfl (a_cons (x_var 5 (pv 5)) (a_cons (x_ix k_ixL ix_list (x_var 13 (pv 13)) (x_var 14 (pv 14)) (fun _ _ => rfl)) a_nil)) rfl (hx := ar_cons (ar_cons ar_nil)))))))
        (ss_cons (s_set (fun _ h => ps_set (i := 15) sc_law.nd rfl (Or.inl rfl) h) (x_blt k_maxL (cr_max rfl) (by rfl) T.n_max (by decide +kernel) (a_cons (x_var 9 (pv 9)) a_nil)))
        (ss_cons (s_expr (x_meth T.cl_Roll F_Roll_bill (hr.mono (by decide)) tk (x_var 4 (pv 4)) (a_cons (x_var 15 (pv 15)) a_nil) (ar_cons ar_nil)))
        (ss_cons (s_expr (x_meth T.cl_Roll F_Roll_bill (hr.mono (by decide)) tk (x_var 5 (pv 5)) (a_cons (x_var 15 (pv 15)) a_nil) (ar_cons ar_nil)))
        (ss_cons (s_expr (x_meth T.cl_Roll F_Roll_close (hr.mono (by decide)) tk (x_var 4 (pv 4)) (a_cons x_int (a_cons (x_var 7 (pv 7)) a_nil)) (ar_cons (ar_cons ar_nil))))
        (ss_cons (s_if (PW.pt (w_or (t_cmp k_ne (op_neD (hu64 hr)) (x_callW F_law_asked (hr.mono (by decide)) tk rfl (a_cons (x_var 4 (pv 4)) (a_cons (x_var 9 (pv 9)) a_nil)) rfl (hx := ar_cons (ar_cons ar_nil))) (x_callW F_law_asked (hr.mono (by decide)) tk rfl (a_cons (x_var 5 (pv 5)) (a_cons (x_var 9 (pv 9)) a_nil)) rfl (hx := ar_cons (ar_cons ar_nil))) (nomark _)) (w_or (t_cmp k_ne (op_neD (hu64 hr)) (x_callW F_law_asked (hr.mono (by decide)) tk rfl (a_cons (x_var 6 (pv 6)) (a_cons (x_var 9 (pv 9)) a_nil)) rfl (hx := ar_cons (ar_cons ar_nil))) (x_var 11 (pv 11)) (nomark _)) (w_or1 (t_cmp k_ne (op_neD (hu64 hr)) (x_var 10 (pv 10)) x_int (nomark _)))))) (ss_one (s_ret x_bl)) ss_nil)
        (ss_cons (s_lcR (i := 16) rfl rfl (sw_true rfl rfl rfl (by decide +kernel)) (j := 14) rfl sc_law.nd (by rfl) T.n_range x_int (blkOk_by (own := [((PySem.Str.ofString "_law_k"), 14)]) (N := n_law) (sc := defScope st_law) (by decide +kernel)) (fun _ _ _ _ _ => pg_name (i := 14) sc_law.nd rfl (Or.inl rfl)) (fun _ _ _ _ _ => pts_nil) (fun _ _ _ _ _ => x_tup (a_cons (x_meth T.cl_Roll F_Roll_sent (hr.mono (by decide)) RK.takes0 (x_var 4 (pv 4)) (a_cons (x_var 14 (pv 14)) a_nil) (ar_cons ar_nil)) (a_cons (x_meth T.cl_Roll F_Roll_given (hr.mono (by decide)) RK.takes0 (x_var 4 (pv 4)) (a_cons (x_var 14 (pv 14)) a_nil) (ar_cons ar_nil)) a_nil))))
        (ss_one (s_ret (x_and (x_cmp k_eq (op_eqD (hu64 hr)) (x_var 16 (pv 16)) (x_lcR (j := 14) rfl sc_law.nd (by rfl) T.n_range x_int (blkOk_by (own := [((PySem.Str.ofString "_law_k"), 14)]) (N := n_law) (sc := defScope st_law) (by decide +kernel)) (fun _ _ _ _ _ => pg_name (i := 14) sc_law.nd rfl (Or.inl rfl)) (fun _ _ _ _ _ => pts_nil) (fun _ _ _ _ _ => x_tup (a_cons (x_meth T.cl_Roll F_Roll_sent (hr.mono (by decide)) RK.takes0 (x_var 5 (pv 5)) (a_cons (x_var 14 (pv 14)) a_nil) (ar_cons ar_nil)) (a_cons (x_meth T.cl_Roll F_Roll_given (hr.mono (by decide)) RK.takes0 (x_var 5 (pv 5)) (a_cons (x_var 14 (pv 14)) a_nil) (ar_cons ar_nil)) a_nil)))) (nomark _)) (x_one (x_cmp k_eq (op_eqD (hu64 hr)) (x_ix k_ixT ix_tup (x_ix k_ixL ix_list (x_var 16 (pv 16)) x_int (fun _ _ => rfl)) x_int (fun _ _ => rfl)) (x_meth T.cl_Roll F_Roll_owed (hr.mono (by decide)) tk (x_var 4 (pv 4)) (a_cons x_int (a_cons (x_var 15 (pv 15)) a_nil)) (ar_cons (ar_cons ar_nil))) (nomark _)))))))))))))))))))))))))))))
/-- all of them -/
theorem fnok_law {fd : FuncData} (T : Txt K mg) (F : FunD K (PySem.Str.ofString "law") (PySem.Str.ofString "law") (defArgs st_law) (defBody st_law) (defScope st_law) [] [] (He.ga K (PySem.Str.ofString "law")) fd) : FnOk P w K mg base (L2.CX P w) 11 (He.ga K (PySem.Str.ofString "law")) fd p_law (spW K 1 f_law) := by
  have F_law_mix : Fn P w K mg base (PySem.Str.ofString "_law_mix") 1 (spP K 2 f_law_mix) := fn_law_mix T 
  have F_law_room : Fn P w K mg base (PySem.Str.ofString "_law_room") 1 (spP K 3 f_law_room) := fn_law_room T 
  have F_law_money : Fn P w K mg base (PySem.Str.ofString "_law_money") 1 (spP K 1 f_law_money) := fn_law_money T 
  have F_law_number : Fn P w K mg base (PySem.Str.ofString "_law_number") 1 (spP K 1 f_law_number) := fn_law_number T 
  have F_law_some : Fn P w K mg base (PySem.Str.ofString "_law_some") 2 (spP K 3 f_law_some) := fn_law_some T F_law_mix F_law_room F_law_money F_law_number
  have F_Roll__init : Md P w K mg base (PySem.Str.ofString "Roll") (PySem.Str.ofString "__init__") 1 (spW K 1 f_Roll__init) := fn_Roll__init T 
  have F_sure_flat : Fn P w K mg base (PySem.Str.ofString "sure_flat") 1 (spP K 1 f_sure_flat) := fn_sure_flat T 
  have F_is_whole : Fn P w K mg base (PySem.Str.ofString "is_whole") 1 (spP K 1 f_is_whole) := fn_is_whole T 
  have F_is_within : Fn P w K mg base (PySem.Str.ofString "is_within") 2 (spP K 3 f_is_within) := fn_is_within T F_is_whole
  have F_sure_day : Fn P w K mg base (PySem.Str.ofString "sure_day") 3 (spP K 1 f_sure_day) := fn_sure_day T F_is_within
  have F_sure_amount : Fn P w K mg base (PySem.Str.ofString "sure_amount") 3 (spP K 3 f_sure_amount) := fn_sure_amount T F_is_within
  have F_leaps_ahead : Fn P w K mg base (PySem.Str.ofString "leaps_ahead") 1 (spP K 1 f_leaps_ahead) := fn_leaps_ahead T 
  have F_year_start : Fn P w K mg base (PySem.Str.ofString "year_start") 2 (spP K 1 f_year_start) := fn_year_start T F_leaps_ahead
  have F_is_leap : Fn P w K mg base (PySem.Str.ofString "is_leap") 1 (spP K 1 f_is_leap) := fn_is_leap T 
  have F_length_of : Fn P w K mg base (PySem.Str.ofString "length_of") 2 (spP K 2 f_length_of) := fn_length_of T F_is_leap
  have F_month_of : Fn P w K mg base (PySem.Str.ofString "month_of") 4 (spP K 1 f_month_of) := fn_month_of T F_sure_day F_year_start F_length_of
  have F_month_days : Fn P w K mg base (PySem.Str.ofString "month_days") 3 (spP K 2 f_month_days) := fn_month_days T F_length_of F_is_within
  have F_unchanged_through : Fn P w K mg base (PySem.Str.ofString "unchanged_through") 1 (spP K 3 f_unchanged_through) := fn_unchanged_through T 
  have F_stretch : Fn P w K mg base (PySem.Str.ofString "stretch") 1 (spP K 4 f_stretch) := fn_stretch T 
  have F_pair_held : Fn P w K mg base (PySem.Str.ofString "pair_held") 1 (spP K 2 f_pair_held) := fn_pair_held T 
  have F_held : Fn P w K mg base (PySem.Str.ofString "held") 2 (spP K 2 f_held) := fn_held T F_pair_held
  have F_rent_on : Fn P w K mg base (PySem.Str.ofString "rent_on") 3 (spP K 3 f_rent_on) := fn_rent_on T F_pair_held F_held
  have F_owed : Fn P w K mg base (PySem.Str.ofString "owed") 5 (spP K 4 f_owed) := fn_owed T F_month_of F_month_days F_unchanged_through F_stretch F_rent_on
  have F_Lease_due : Md P w K mg base (PySem.Str.ofString "Lease") (PySem.Str.ofString "due") 6 (spW K 3 f_Lease_due) := fn_Lease_due T F_owed
  have F_Lease_rent_lacking : Md P w K mg base (PySem.Str.ofString "Lease") (PySem.Str.ofString "rent_lacking") 7 (spW K 3 f_Lease_rent_lacking) := fn_Lease_rent_lacking T F_Lease_due
  have F_balance : Fn P w K mg base (PySem.Str.ofString "balance") 1 (spP K 2 f_balance) := fn_balance T 
  have F_grown : Fn P w K mg base (PySem.Str.ofString "grown") 3 (spP K 3 f_grown) := fn_grown T F_unchanged_through F_balance F_held
  have F_Lease_worth : Md P w K mg base (PySem.Str.ofString "Lease") (PySem.Str.ofString "worth") 4 (spW K 3 f_Lease_worth) := fn_Lease_worth T F_balance F_grown
  have F_Lease_pledge_lacking : Md P w K mg base (PySem.Str.ofString "Lease") (PySem.Str.ofString "pledge_lacking") 5 (spW K 2 f_Lease_pledge_lacking) := fn_Lease_pledge_lacking T F_Lease_worth
  have F_Roll_done : Md P w K mg base (PySem.Str.ofString "Roll") (PySem.Str.ofString "done") 8 (spW K 2 f_Roll_done) := fn_Roll_done T F_Lease_rent_lacking F_Lease_pledge_lacking
  have F_Lease__init : Md P w K mg base (PySem.Str.ofString "Lease") (PySem.Str.ofString "__init__") 1 (spW K 5 f_Lease__init) := fn_Lease__init T 
  have F_Lease_is_free_from : Md P w K mg base (PySem.Str.ofString "Lease") (PySem.Str.ofString "is_free_from") 1 (spW K 2 f_Lease_is_free_from) := fn_Lease_is_free_from T 
  have F_Roll_let : Md P w K mg base (PySem.Str.ofString "Roll") (PySem.Str.ofString "let") 9 (spW K 5 f_Roll_let) := fn_Roll_let T F_sure_flat F_sure_day F_sure_amount F_Roll_done F_Lease__init F_Lease_is_free_from
  have F_law_roll : Fn P w K mg base (PySem.Str.ofString "_law_roll") 10 (spW K 1 f_law_roll) := fn_law_roll T F_Roll__init F_Roll_let
  have F_Roll_sure : Md P w K mg base (PySem.Str.ofString "Roll") (PySem.Str.ofString "sure") 3 (spW K 2 f_Roll_sure) := fn_Roll_sure T F_is_within
  have F_Roll_close : Md P w K mg base (PySem.Str.ofString "Roll") (PySem.Str.ofString "close") 9 (spW K 3 f_Roll_close) := fn_Roll_close T F_Roll_sure F_sure_day F_Roll_done
  have F_Roll_many : Md P w K mg base (PySem.Str.ofString "Roll") (PySem.Str.ofString "many") 1 (spW K 1 f_Roll_many) := fn_Roll_many T 
  have F_Roll_owed : Md P w K mg base (PySem.Str.ofString "Roll") (PySem.Str.ofString "owed") 7 (spW K 3 f_Roll_owed) := fn_Roll_owed T F_Roll_sure F_sure_day F_Lease_due
  have F_Roll_pledge : Md P w K mg base (PySem.Str.ofString "Roll") (PySem.Str.ofString "pledge") 5 (spW K 3 f_Roll_pledge) := fn_Roll_pledge T F_Roll_sure F_sure_day F_Lease_worth
  have F_law_asked : Fn P w K mg base (PySem.Str.ofString "_law_asked") 8 (spW K 2 f_law_asked) := fn_law_asked T F_Roll_owed F_Roll_pledge
  have F_Roll_bill : Md P w K mg base (PySem.Str.ofString "Roll") (PySem.Str.ofString "bill") 9 (spW K 2 f_Roll_bill) := fn_Roll_bill T F_sure_day F_Roll_done
  have F_law_base : Fn P w K mg base (PySem.Str.ofString "_law_base") 1 (spP K 1 f_law_base) := fn_law_base T 
  have F_Roll_end : Md P w K mg base (PySem.Str.ofString "Roll") (PySem.Str.ofString "end") 9 (spW K 3 f_Roll_end) := fn_Roll_end T F_Roll_sure F_sure_day F_Roll_done
  have F_Roll_step : Md P w K mg base (PySem.Str.ofString "Roll") (PySem.Str.ofString "step") 9 (spW K 4 f_Roll_step) := fn_Roll_step T F_Roll_sure F_sure_day F_sure_amount F_Roll_done
  have F_Roll_gauge : Md P w K mg base (PySem.Str.ofString "Roll") (PySem.Str.ofString "gauge") 9 (spW K 3 f_Roll_gauge) := fn_Roll_gauge T F_sure_day F_sure_amount F_Roll_done
  have F_Roll_rate : Md P w K mg base (PySem.Str.ofString "Roll") (PySem.Str.ofString "rate") 9 (spW K 3 f_Roll_rate) := fn_Roll_rate T F_sure_day F_sure_amount F_Roll_done
  have F_Roll_paid : Md P w K mg base (PySem.Str.ofString "Roll") (PySem.Str.ofString "paid") 9 (spW K 4 f_Roll_paid) := fn_Roll_paid T F_Roll_sure F_sure_day F_sure_amount F_Roll_done
  have F_Roll_kept : Md P w K mg base (PySem.Str.ofString "Roll") (PySem.Str.ofString "kept") 9 (spW K 4 f_Roll_kept) := fn_Roll_kept T F_Roll_sure F_sure_day F_sure_amount F_Roll_done
  have F_law_do : Fn P w K mg base (PySem.Str.ofString "_law_do") 10 (spW K 2 f_law_do) := fn_law_do T F_Roll_bill F_Roll_let F_Roll_end F_Roll_step F_Roll_gauge F_Roll_rate F_Roll_paid F_Roll_kept F_Roll_close
  have F_law_cell_at : Fn P w K mg base (PySem.Str.ofString "_law_cell_at") 1 (spP K 2 f_law_cell_at) := fn_law_cell_at T 
  have F_Roll_sent : Md P w K mg base (PySem.Str.ofString "Roll") (PySem.Str.ofString "sent") 4 (spW K 2 f_Roll_sent) := fn_Roll_sent T F_Roll_sure
  have F_Roll_given : Md P w K mg base (PySem.Str.ofString "Roll") (PySem.Str.ofString "given") 4 (spW K 2 f_Roll_given) := fn_Roll_given T F_Roll_sure
  exact fn_law T F_law_some F_law_roll F_Roll_close F_Roll_many F_law_asked F_Roll_bill F_law_base F_law_do F_law_cell_at F_Roll_sent F_Roll_given F_Roll_owed F_law_mix F
end
end LW

set_option Elab.async false
set_option linter.all false
set_option maxRecDepth 100000
set_option maxHeartbeats 4000000
namespace LW
open PySem PySem.Spec PyProof.Rows L2 RK
def d_law_mix : He.DefD := ⟨((PySem.Str.ofString "_law_mix"), none), (PySem.Str.ofString "_law_mix"), (PySem.Str.ofString "_law_mix"), defArgs st_law_mix, defBody st_law_mix, defScope st_law_mix, [], []⟩
def d_law_room : He.DefD := ⟨((PySem.Str.ofString "_law_room"), none), (PySem.Str.ofString "_law_room"), (PySem.Str.ofString "_law_room"), defArgs st_law_room, defBody st_law_room, defScope st_law_room, [], []⟩
def d_law_money : He.DefD := ⟨((PySem.Str.ofString "_law_money"), none), (PySem.Str.ofString "_law_money"), (PySem.Str.ofString "_law_money"), defArgs st_law_money, defBody st_law_money, defScope st_law_money, [], []⟩
def d_law_number : He.DefD := ⟨((PySem.Str.ofString "_law_number"), none), (PySem.Str.ofString "_law_number"), (PySem.Str.ofString "_law_number"), defArgs st_law_number, defBody st_law_number, defScope st_law_number, [], []⟩
def d_law_some : He.DefD := ⟨((PySem.Str.ofString "_law_some"), none), (PySem.Str.ofString "_law_some"), (PySem.Str.ofString "_law_some"), defArgs st_law_some, defBody st_law_some, defScope st_law_some, [], []⟩
def d_Roll__init : He.DefD := ⟨((PySem.Str.ofString "Roll"), some (PySem.Str.ofString "__init__")), (PySem.Str.ofString "__init__"), (PySem.Str.ofString "Roll.__init__"), defArgs st_Roll__init, defBody st_Roll__init, defScope st_Roll__init, [], []⟩
def d_sure_flat : He.DefD := ⟨((PySem.Str.ofString "sure_flat"), none), (PySem.Str.ofString "sure_flat"), (PySem.Str.ofString "sure_flat"), defArgs st_sure_flat, defBody st_sure_flat, defScope st_sure_flat, [], []⟩
def d_is_whole : He.DefD := ⟨((PySem.Str.ofString "is_whole"), none), (PySem.Str.ofString "is_whole"), (PySem.Str.ofString "is_whole"), defArgs st_is_whole, defBody st_is_whole, defScope st_is_whole, [], []⟩
def d_is_within : He.DefD := ⟨((PySem.Str.ofString "is_within"), none), (PySem.Str.ofString "is_within"), (PySem.Str.ofString "is_within"), defArgs st_is_within, defBody st_is_within, defScope st_is_within, [], []⟩
def d_sure_day : He.DefD := ⟨((PySem.Str.ofString "sure_day"), none), (PySem.Str.ofString "sure_day"), (PySem.Str.ofString "sure_day"), defArgs st_sure_day, defBody st_sure_day, defScope st_sure_day, [], []⟩
def d_sure_amount : He.DefD := ⟨((PySem.Str.ofString "sure_amount"), none), (PySem.Str.ofString "sure_amount"), (PySem.Str.ofString "sure_amount"), defArgs st_sure_amount, defBody st_sure_amount, defScope st_sure_amount, [], []⟩
def d_leaps_ahead : He.DefD := ⟨((PySem.Str.ofString "leaps_ahead"), none), (PySem.Str.ofString "leaps_ahead"), (PySem.Str.ofString "leaps_ahead"), defArgs st_leaps_ahead, defBody st_leaps_ahead, defScope st_leaps_ahead, [], []⟩
def d_year_start : He.DefD := ⟨((PySem.Str.ofString "year_start"), none), (PySem.Str.ofString "year_start"), (PySem.Str.ofString "year_start"), defArgs st_year_start, defBody st_year_start, defScope st_year_start, [], []⟩
def d_is_leap : He.DefD := ⟨((PySem.Str.ofString "is_leap"), none), (PySem.Str.ofString "is_leap"), (PySem.Str.ofString "is_leap"), defArgs st_is_leap, defBody st_is_leap, defScope st_is_leap, [], []⟩
def d_length_of : He.DefD := ⟨((PySem.Str.ofString "length_of"), none), (PySem.Str.ofString "length_of"), (PySem.Str.ofString "length_of"), defArgs st_length_of, defBody st_length_of, defScope st_length_of, [], []⟩
def d_month_of : He.DefD := ⟨((PySem.Str.ofString "month_of"), none), (PySem.Str.ofString "month_of"), (PySem.Str.ofString "month_of"), defArgs st_month_of, defBody st_month_of, defScope st_month_of, [], []⟩
def d_month_days : He.DefD := ⟨((PySem.Str.ofString "month_days"), none), (PySem.Str.ofString "month_days"), (PySem.Str.ofString "month_days"), defArgs st_month_days, defBody st_month_days, defScope st_month_days, [], []⟩
def d_unchanged_through : He.DefD := ⟨((PySem.Str.ofString "unchanged_through"), none), (PySem.Str.ofString "unchanged_through"), (PySem.Str.ofString "unchanged_through"), defArgs st_unchanged_through, defBody st_unchanged_through, defScope st_unchanged_through, [], []⟩
def d_stretch : He.DefD := ⟨((PySem.Str.ofString "stretch"), none), (PySem.Str.ofString "stretch"), (PySem.Str.ofString "stretch"), defArgs st_stretch, defBody st_stretch, defScope st_stretch, [], []⟩
def d_pair_held : He.DefD := ⟨((PySem.Str.ofString "pair_held"), none), (PySem.Str.ofString "pair_held"), (PySem.Str.ofString "pair_held"), defArgs st_pair_held, defBody st_pair_held, defScope st_pair_held, [], []⟩
def d_held : He.DefD := ⟨((PySem.Str.ofString "held"), none), (PySem.Str.ofString "held"), (PySem.Str.ofString "held"), defArgs st_held, defBody st_held, defScope st_held, [], []⟩
def d_rent_on : He.DefD := ⟨((PySem.Str.ofString "rent_on"), none), (PySem.Str.ofString "rent_on"), (PySem.Str.ofString "rent_on"), defArgs st_rent_on, defBody st_rent_on, defScope st_rent_on, [], []⟩
def d_owed : He.DefD := ⟨((PySem.Str.ofString "owed"), none), (PySem.Str.ofString "owed"), (PySem.Str.ofString "owed"), defArgs st_owed, defBody st_owed, defScope st_owed, [], []⟩
def d_Lease_due : He.DefD := ⟨((PySem.Str.ofString "Lease"), some (PySem.Str.ofString "due")), (PySem.Str.ofString "due"), (PySem.Str.ofString "Lease.due"), defArgs st_Lease_due, defBody st_Lease_due, defScope st_Lease_due, [], []⟩
def d_Lease_rent_lacking : He.DefD := ⟨((PySem.Str.ofString "Lease"), some (PySem.Str.ofString "rent_lacking")), (PySem.Str.ofString "rent_lacking"), (PySem.Str.ofString "Lease.rent_lacking"), defArgs st_Lease_rent_lacking, defBody st_Lease_rent_lacking, defScope st_Lease_rent_lacking, [], []⟩
def d_balance : He.DefD := ⟨((PySem.Str.ofString "balance"), none), (PySem.Str.ofString "balance"), (PySem.Str.ofString "balance"), defArgs st_balance, defBody st_balance, defScope st_balance, [], []⟩
def d_grown : He.DefD := ⟨((PySem.Str.ofString "grown"), none), (PySem.Str.ofString "grown"), (PySem.Str.ofString "grown"), defArgs st_grown, defBody st_grown, defScope st_grown, [], []⟩
def d_Lease_worth : He.DefD := ⟨((PySem.Str.ofString "Lease"), some (PySem.Str.ofString "worth")), (PySem.Str.ofString "worth"), (PySem.Str.ofString "Lease.worth"), defArgs st_Lease_worth, defBody st_Lease_worth, defScope st_Lease_worth, [], []⟩
def d_Lease_pledge_lacking : He.DefD := ⟨((PySem.Str.ofString "Lease"), some (PySem.Str.ofString "pledge_lacking")), (PySem.Str.ofString "pledge_lacking"), (PySem.Str.ofString "Lease.pledge_lacking"), defArgs st_Lease_pledge_lacking, defBody st_Lease_pledge_lacking, defScope st_Lease_pledge_lacking, [], []⟩
def d_Roll_done : He.DefD := ⟨((PySem.Str.ofString "Roll"), some (PySem.Str.ofString "done")), (PySem.Str.ofString "done"), (PySem.Str.ofString "Roll.done"), defArgs st_Roll_done, defBody st_Roll_done, defScope st_Roll_done, [], []⟩
def d_Lease__init : He.DefD := ⟨((PySem.Str.ofString "Lease"), some (PySem.Str.ofString "__init__")), (PySem.Str.ofString "__init__"), (PySem.Str.ofString "Lease.__init__"), defArgs st_Lease__init, defBody st_Lease__init, defScope st_Lease__init, [], []⟩
def d_Lease_is_free_from : He.DefD := ⟨((PySem.Str.ofString "Lease"), some (PySem.Str.ofString "is_free_from")), (PySem.Str.ofString "is_free_from"), (PySem.Str.ofString "Lease.is_free_from"), defArgs st_Lease_is_free_from, defBody st_Lease_is_free_from, defScope st_Lease_is_free_from, [], []⟩
def d_Roll_let : He.DefD := ⟨((PySem.Str.ofString "Roll"), some (PySem.Str.ofString "let")), (PySem.Str.ofString "let"), (PySem.Str.ofString "Roll.let"), defArgs st_Roll_let, defBody st_Roll_let, defScope st_Roll_let, [], []⟩
def d_law_roll : He.DefD := ⟨((PySem.Str.ofString "_law_roll"), none), (PySem.Str.ofString "_law_roll"), (PySem.Str.ofString "_law_roll"), defArgs st_law_roll, defBody st_law_roll, defScope st_law_roll, [], []⟩
def d_Roll_sure : He.DefD := ⟨((PySem.Str.ofString "Roll"), some (PySem.Str.ofString "sure")), (PySem.Str.ofString "sure"), (PySem.Str.ofString "Roll.sure"), defArgs st_Roll_sure, defBody st_Roll_sure, defScope st_Roll_sure, [], []⟩
def d_Roll_close : He.DefD := ⟨((PySem.Str.ofString "Roll"), some (PySem.Str.ofString "close")), (PySem.Str.ofString "close"), (PySem.Str.ofString "Roll.close"), defArgs st_Roll_close, defBody st_Roll_close, defScope st_Roll_close, [], []⟩
def d_Roll_many : He.DefD := ⟨((PySem.Str.ofString "Roll"), some (PySem.Str.ofString "many")), (PySem.Str.ofString "many"), (PySem.Str.ofString "Roll.many"), defArgs st_Roll_many, defBody st_Roll_many, defScope st_Roll_many, [], []⟩
def d_Roll_owed : He.DefD := ⟨((PySem.Str.ofString "Roll"), some (PySem.Str.ofString "owed")), (PySem.Str.ofString "owed"), (PySem.Str.ofString "Roll.owed"), defArgs st_Roll_owed, defBody st_Roll_owed, defScope st_Roll_owed, [], []⟩
def d_Roll_pledge : He.DefD := ⟨((PySem.Str.ofString "Roll"), some (PySem.Str.ofString "pledge")), (PySem.Str.ofString "pledge"), (PySem.Str.ofString "Roll.pledge"), defArgs st_Roll_pledge, defBody st_Roll_pledge, defScope st_Roll_pledge, [], []⟩
def d_law_asked : He.DefD := ⟨((PySem.Str.ofString "_law_asked"), none), (PySem.Str.ofString "_law_asked"), (PySem.Str.ofString "_law_asked"), defArgs st_law_asked, defBody st_law_asked, defScope st_law_asked, [], []⟩
def d_Roll_bill : He.DefD := ⟨((PySem.Str.ofString "Roll"), some (PySem.Str.ofString "bill")), (PySem.Str.ofString "bill"), (PySem.Str.ofString "Roll.bill"), defArgs st_Roll_bill, defBody st_Roll_bill, defScope st_Roll_bill, [], []⟩
def d_law_base : He.DefD := ⟨((PySem.Str.ofString "_law_base"), none), (PySem.Str.ofString "_law_base"), (PySem.Str.ofString "_law_base"), defArgs st_law_base, defBody st_law_base, defScope st_law_base, [], []⟩
def d_Roll_end : He.DefD := ⟨((PySem.Str.ofString "Roll"), some (PySem.Str.ofString "end")), (PySem.Str.ofString "end"), (PySem.Str.ofString "Roll.end"), defArgs st_Roll_end, defBody st_Roll_end, defScope st_Roll_end, [], []⟩
def d_Roll_step : He.DefD := ⟨((PySem.Str.ofString "Roll"), some (PySem.Str.ofString "step")), (PySem.Str.ofString "step"), (PySem.Str.ofString "Roll.step"), defArgs st_Roll_step, defBody st_Roll_step, defScope st_Roll_step, [], []⟩
def d_Roll_gauge : He.DefD := ⟨((PySem.Str.ofString "Roll"), some (PySem.Str.ofString "gauge")), (PySem.Str.ofString "gauge"), (PySem.Str.ofString "Roll.gauge"), defArgs st_Roll_gauge, defBody st_Roll_gauge, defScope st_Roll_gauge, [], []⟩
def d_Roll_rate : He.DefD := ⟨((PySem.Str.ofString "Roll"), some (PySem.Str.ofString "rate")), (PySem.Str.ofString "rate"), (PySem.Str.ofString "Roll.rate"), defArgs st_Roll_rate, defBody st_Roll_rate, defScope st_Roll_rate, [], []⟩
def d_Roll_paid : He.DefD := ⟨((PySem.Str.ofString "Roll"), some (PySem.Str.ofString "paid")), (PySem.Str.ofString "paid"), (PySem.Str.ofString "Roll.paid"), defArgs st_Roll_paid, defBody st_Roll_paid, defScope st_Roll_paid, [], []⟩
def d_Roll_kept : He.DefD := ⟨((PySem.Str.ofString "Roll"), some (PySem.Str.ofString "kept")), (PySem.Str.ofString "kept"), (PySem.Str.ofString "Roll.kept"), defArgs st_Roll_kept, defBody st_Roll_kept, defScope st_Roll_kept, [], []⟩
def d_law_do : He.DefD := ⟨((PySem.Str.ofString "_law_do"), none), (PySem.Str.ofString "_law_do"), (PySem.Str.ofString "_law_do"), defArgs st_law_do, defBody st_law_do, defScope st_law_do, [], []⟩
def d_law_cell_at : He.DefD := ⟨((PySem.Str.ofString "_law_cell_at"), none), (PySem.Str.ofString "_law_cell_at"), (PySem.Str.ofString "_law_cell_at"), defArgs st_law_cell_at, defBody st_law_cell_at, defScope st_law_cell_at, [], []⟩
def d_Roll_sent : He.DefD := ⟨((PySem.Str.ofString "Roll"), some (PySem.Str.ofString "sent")), (PySem.Str.ofString "sent"), (PySem.Str.ofString "Roll.sent"), defArgs st_Roll_sent, defBody st_Roll_sent, defScope st_Roll_sent, [], []⟩
def d_Roll_given : He.DefD := ⟨((PySem.Str.ofString "Roll"), some (PySem.Str.ofString "given")), (PySem.Str.ofString "given"), (PySem.Str.ofString "Roll.given"), defArgs st_Roll_given, defBody st_Roll_given, defScope st_Roll_given, [], []⟩
def d_law : He.DefD := ⟨((PySem.Str.ofString "law"), none), (PySem.Str.ofString "law"), (PySem.Str.ofString "law"), defArgs st_law, defBody st_law, defScope st_law, [], []⟩
def fn : List He.DefD := [d_law_mix, d_law_room, d_law_money, d_law_number, d_law_some, d_Roll__init, d_sure_flat, d_is_whole, d_is_within, d_sure_day, d_sure_amount, d_leaps_ahead, d_year_start, d_is_leap, d_length_of, d_month_of, d_month_days, d_unchanged_through, d_stretch, d_pair_held, d_held, d_rent_on, d_owed, d_Lease_due, d_Lease_rent_lacking, d_balance, d_grown, d_Lease_worth, d_Lease_pledge_lacking, d_Roll_done, d_Lease__init, d_Lease_is_free_from, d_Roll_let, d_law_roll, d_Roll_sure, d_Roll_close, d_Roll_many, d_Roll_owed, d_Roll_pledge, d_law_asked, d_Roll_bill, d_law_base, d_Roll_end, d_Roll_step, d_Roll_gauge, d_Roll_rate, d_Roll_paid, d_Roll_kept, d_law_do, d_law_cell_at, d_Roll_sent, d_Roll_given, d_law]
def fa : List He.Fa := [.glo (PySem.Str.ofString "_law_mix"), .glo (PySem.Str.ofString "_law_room"), .glo (PySem.Str.ofString "_law_money"), .glo (PySem.Str.ofString "_law_number"), .glo (PySem.Str.ofString "_law_some"), .meth (PySem.Str.ofString "Roll") (PySem.Str.ofString "__init__"), .glo (PySem.Str.ofString "sure_flat"), .glo (PySem.Str.ofString "is_whole"), .glo (PySem.Str.ofString "is_within"), .glo (PySem.Str.ofString "sure_day"), .glo (PySem.Str.ofString "sure_amount"), .glo (PySem.Str.ofString "leaps_ahead"), .glo (PySem.Str.ofString "year_start"), .glo (PySem.Str.ofString "is_leap"), .glo (PySem.Str.ofString "length_of"), .glo (PySem.Str.ofString "month_of"), .glo (PySem.Str.ofString "month_days"), .glo (PySem.Str.ofString "unchanged_through"), .glo (PySem.Str.ofString "stretch"), .glo (PySem.Str.ofString "pair_held"), .glo (PySem.Str.ofString "held"), .glo (PySem.Str.ofString "rent_on"), .glo (PySem.Str.ofString "owed"), .meth (PySem.Str.ofString "Lease") (PySem.Str.ofString "due"), .meth (PySem.Str.ofString "Lease") (PySem.Str.ofString "rent_lacking"), .glo (PySem.Str.ofString "balance"), .glo (PySem.Str.ofString "grown"), .meth (PySem.Str.ofString "Lease") (PySem.Str.ofString "worth"), .meth (PySem.Str.ofString "Lease") (PySem.Str.ofString "pledge_lacking"), .meth (PySem.Str.ofString "Roll") (PySem.Str.ofString "done"), .meth (PySem.Str.ofString "Lease") (PySem.Str.ofString "__init__"), .meth (PySem.Str.ofString "Lease") (PySem.Str.ofString "is_free_from"), .meth (PySem.Str.ofString "Roll") (PySem.Str.ofString "let"), .glo (PySem.Str.ofString "_law_roll"), .meth (PySem.Str.ofString "Roll") (PySem.Str.ofString "sure"), .meth (PySem.Str.ofString "Roll") (PySem.Str.ofString "close"), .meth (PySem.Str.ofString "Roll") (PySem.Str.ofString "many"), .meth (PySem.Str.ofString "Roll") (PySem.Str.ofString "owed"), .meth (PySem.Str.ofString "Roll") (PySem.Str.ofString "pledge"), .glo (PySem.Str.ofString "_law_asked"), .meth (PySem.Str.ofString "Roll") (PySem.Str.ofString "bill"), .glo (PySem.Str.ofString "_law_base"), .meth (PySem.Str.ofString "Roll") (PySem.Str.ofString "end"), .meth (PySem.Str.ofString "Roll") (PySem.Str.ofString "step"), .meth (PySem.Str.ofString "Roll") (PySem.Str.ofString "gauge"), .meth (PySem.Str.ofString "Roll") (PySem.Str.ofString "rate"), .meth (PySem.Str.ofString "Roll") (PySem.Str.ofString "paid"), .meth (PySem.Str.ofString "Roll") (PySem.Str.ofString "kept"), .glo (PySem.Str.ofString "_law_do"), .glo (PySem.Str.ofString "_law_cell_at"), .meth (PySem.Str.ofString "Roll") (PySem.Str.ofString "sent"), .meth (PySem.Str.ofString "Roll") (PySem.Str.ofString "given"), .glo (PySem.Str.ofString "law"), .free (PySem.Str.ofString "bool"), .free (PySem.Str.ofString "enumerate"), .free (PySem.Str.ofString "int"), .free (PySem.Str.ofString "isinstance"), .free (PySem.Str.ofString "len"), .free (PySem.Str.ofString "list"), .free (PySem.Str.ofString "max"), .free (PySem.Str.ofString "min"), .free (PySem.Str.ofString "range"), .free (PySem.Str.ofString "str"), .free (PySem.Str.ofString "sum"), .int (PySem.Str.ofString "LAST_DAY") 99999, .int (PySem.Str.ofString "FIRST_YEAR") 2000, .int (PySem.Str.ofString "LAST_YEAR") 2273, .glo (PySem.Str.ofString "MONTHS"), .int (PySem.Str.ofString "PARTS") 3650000, .glo (PySem.Str.ofString "PLAIN"), .str (PySem.Str.ofString "LETTERS") (PySem.Str.ofString "abcdefghijklmnopqrstuvwxyz"), .int (PySem.Str.ofString "MOST_SIGNS") 8, .int (PySem.Str.ofString "MOST_LEASES") 20, .int (PySem.Str.ofString "MOST_CENTS") 1000000000, .int (PySem.Str.ofString "MOST_NUMBER") 1000000, .int (PySem.Str.ofString "MOST_RATE") 10000, .glo (PySem.Str.ofString "RentError"), .exc (PySem.Str.ofString "RentError"), .glo (PySem.Str.ofString "BadDay"), .exc (PySem.Str.ofString "BadDay"), .glo (PySem.Str.ofString "BadFlat"), .exc (PySem.Str.ofString "BadFlat"), .glo (PySem.Str.ofString "BadAmount"), .exc (PySem.Str.ofString "BadAmount"), .glo (PySem.Str.ofString "NoLease"), .exc (PySem.Str.ofString "NoLease"), .glo (PySem.Str.ofString "Taken"), .exc (PySem.Str.ofString "Taken"), .glo (PySem.Str.ofString "Full"), .exc (PySem.Str.ofString "Full"), .glo (PySem.Str.ofString "Done"), .exc (PySem.Str.ofString "Done"), .cls (PySem.Str.ofString "Lease"), .mkr (PySem.Str.ofString "Lease"), .glo (PySem.Str.ofString "Lease"), .noat (PySem.Str.ofString "Lease") (PySem.Str.ofString "flat"), .noat (PySem.Str.ofString "Lease") (PySem.Str.ofString "first"), .noat (PySem.Str.ofString "Lease") (PySem.Str.ofString "last"), .noat (PySem.Str.ofString "Lease") (PySem.Str.ofString "indexed"), .noat (PySem.Str.ofString "Lease") (PySem.Str.ofString "steps"), .noat (PySem.Str.ofString "Lease") (PySem.Str.ofString "moves"), .noat (PySem.Str.ofString "Lease") (PySem.Str.ofString "shut"), .noat (PySem.Str.ofString "Lease") (PySem.Str.ofString "rent_out"), .noat (PySem.Str.ofString "Lease") (PySem.Str.ofString "pledge_out"), .cls (PySem.Str.ofString "Roll"), .mkr (PySem.Str.ofString "Roll"), .glo (PySem.Str.ofString "Roll"), .noat (PySem.Str.ofString "Roll") (PySem.Str.ofString "leases"), .noat (PySem.Str.ofString "Roll") (PySem.Str.ofString "gauges"), .noat (PySem.Str.ofString "Roll") (PySem.Str.ofString "rates"), .noat (PySem.Str.ofString "Roll") (PySem.Str.ofString "through"), .noat (PySem.Str.ofString "Roll") (PySem.Str.ofString "told")]
def e_k_bool (K : PySem.W.Frag) : Bool := ["NoneType", "bool", "int", "str", "list", "tuple"].all fun t => decide (PySem.W.kitOne K (.type t) (.type "bool") = some (isKind t "bool"))
def e_k_int (K : PySem.W.Frag) : Bool := ["NoneType", "bool", "int", "str", "list", "tuple"].all fun t => decide (PySem.W.kitOne K (.type t) (.type "int") = some (isKind t "int"))
def e_k_str (K : PySem.W.Frag) : Bool := ["NoneType", "bool", "int", "str", "list", "tuple"].all fun t => decide (PySem.W.kitOne K (.type t) (.type "str") = some (isKind t "str"))
def e_c_MONTHS (K : PySem.W.Frag) : Bool := He.tupB K (PySem.Str.ofString "MONTHS") ([31, 28, 31, 30, 31, 30, 31, 31, 30, 31, 30, 31].map He.Dv.int)
def e_c_PLAIN (K : PySem.W.Frag) : Bool := rowB K (PySem.Str.ofString "PLAIN") [(0, 100)]
def exB (K : PySem.W.Frag) : Bool := e_k_bool K && (e_k_int K && (e_k_str K && (e_c_MONTHS K && (e_c_PLAIN K))))
theorem txt_of {K : PySem.W.Frag} {h : Heap} {mg : Str → Option Value} (X : K.In h) (G : h.Ns mainGlobals mg) (c : He.SaysD fa fn K) (e : exB K = true) : Txt K mg := by
  unfold exB at e
  obtain ⟨q_k_bool, e⟩ := He.ba e
  obtain ⟨q_k_int, e⟩ := He.ba e
  obtain ⟨q_k_str, e⟩ := He.ba e
  obtain ⟨q_c_MONTHS, e⟩ := He.ba e
  have q_c_PLAIN := e
  exact {
    F_law_mix := c.def_ 0 (d := d_law_mix) rfl,
    g_law_mix := He.glo_ok X G (c.fact 0 (f := .glo (PySem.Str.ofString "_law_mix")) rfl),
    F_law_room := c.def_ 1 (d := d_law_room) rfl,
    g_law_room := He.glo_ok X G (c.fact 1 (f := .glo (PySem.Str.ofString "_law_room")) rfl),
    F_law_money := c.def_ 2 (d := d_law_money) rfl,
    g_law_money := He.glo_ok X G (c.fact 2 (f := .glo (PySem.Str.ofString "_law_money")) rfl),
    F_law_number := c.def_ 3 (d := d_law_number) rfl,
    g_law_number := He.glo_ok X G (c.fact 3 (f := .glo (PySem.Str.ofString "_law_number")) rfl),
    F_law_some := c.def_ 4 (d := d_law_some) rfl,
    g_law_some := He.glo_ok X G (c.fact 4 (f := .glo (PySem.Str.ofString "_law_some")) rfl),
    F_Roll__init := c.def_ 5 (d := d_Roll__init) rfl,
    M_Roll__init := He.meth_ok (c.fact 5 (f := .meth (PySem.Str.ofString "Roll") (PySem.Str.ofString "__init__")) rfl),
    F_sure_flat := c.def_ 6 (d := d_sure_flat) rfl,
    g_sure_flat := He.glo_ok X G (c.fact 6 (f := .glo (PySem.Str.ofString "sure_flat")) rfl),
    F_is_whole := c.def_ 7 (d := d_is_whole) rfl,
    g_is_whole := He.glo_ok X G (c.fact 7 (f := .glo (PySem.Str.ofString "is_whole")) rfl),
    F_is_within := c.def_ 8 (d := d_is_within) rfl,
    g_is_within := He.glo_ok X G (c.fact 8 (f := .glo (PySem.Str.ofString "is_within")) rfl),
    F_sure_day := c.def_ 9 (d := d_sure_day) rfl,
    g_sure_day := He.glo_ok X G (c.fact 9 (f := .glo (PySem.Str.ofString "sure_day")) rfl),
    F_sure_amount := c.def_ 10 (d := d_sure_amount) rfl,
    g_sure_amount := He.glo_ok X G (c.fact 10 (f := .glo (PySem.Str.ofString "sure_amount")) rfl),
    F_leaps_ahead := c.def_ 11 (d := d_leaps_ahead) rfl,
    g_leaps_ahead := He.glo_ok X G (c.fact 11 (f := .glo (PySem.Str.ofString "leaps_ahead")) rfl),
    F_year_start := c.def_ 12 (d := d_year_start) rfl,
    g_year_start := He.glo_ok X G (c.fact 12 (f := .glo (PySem.Str.ofString "year_start")) rfl),
    F_is_leap := c.def_ 13 (d := d_is_leap) rfl,
    g_is_leap := He.glo_ok X G (c.fact 13 (f := .glo (PySem.Str.ofString "is_leap")) rfl),
    F_length_of := c.def_ 14 (d := d_length_of) rfl,
    g_length_of := He.glo_ok X G (c.fact 14 (f := .glo (PySem.Str.ofString "length_of")) rfl),
    F_month_of := c.def_ 15 (d := d_month_of) rfl,
    g_month_of := He.glo_ok X G (c.fact 15 (f := .glo (PySem.Str.ofString "month_of")) rfl),
    F_month_days := c.def_ 16 (d := d_month_days) rfl,
    g_month_days := He.glo_ok X G (c.fact 16 (f := .glo (PySem.Str.ofString "month_days")) rfl),
    F_unchanged_through := c.def_ 17 (d := d_unchanged_through) rfl,
    g_unchanged_through := He.glo_ok X G (c.fact 17 (f := .glo (PySem.Str.ofString "unchanged_through")) rfl),
    F_stretch := c.def_ 18 (d := d_stretch) rfl,
    g_stretch := He.glo_ok X G (c.fact 18 (f := .glo (PySem.Str.ofString "stretch")) rfl),
    F_pair_held := c.def_ 19 (d := d_pair_held) rfl,
    g_pair_held := He.glo_ok X G (c.fact 19 (f := .glo (PySem.Str.ofString "pair_held")) rfl),
    F_held := c.def_ 20 (d := d_held) rfl,
    g_held := He.glo_ok X G (c.fact 20 (f := .glo (PySem.Str.ofString "held")) rfl),
    F_rent_on := c.def_ 21 (d := d_rent_on) rfl,
    g_rent_on := He.glo_ok X G (c.fact 21 (f := .glo (PySem.Str.ofString "rent_on")) rfl),
    F_owed := c.def_ 22 (d := d_owed) rfl,
    g_owed := He.glo_ok X G (c.fact 22 (f := .glo (PySem.Str.ofString "owed")) rfl),
    F_Lease_due := c.def_ 23 (d := d_Lease_due) rfl,
    M_Lease_due := He.meth_ok (c.fact 23 (f := .meth (PySem.Str.ofString "Lease") (PySem.Str.ofString "due")) rfl),
    F_Lease_rent_lacking := c.def_ 24 (d := d_Lease_rent_lacking) rfl,
    M_Lease_rent_lacking := He.meth_ok (c.fact 24 (f := .meth (PySem.Str.ofString "Lease") (PySem.Str.ofString "rent_lacking")) rfl),
    F_balance := c.def_ 25 (d := d_balance) rfl,
    g_balance := He.glo_ok X G (c.fact 25 (f := .glo (PySem.Str.ofString "balance")) rfl),
    F_grown := c.def_ 26 (d := d_grown) rfl,
    g_grown := He.glo_ok X G (c.fact 26 (f := .glo (PySem.Str.ofString "grown")) rfl),
    F_Lease_worth := c.def_ 27 (d := d_Lease_worth) rfl,
    M_Lease_worth := He.meth_ok (c.fact 27 (f := .meth (PySem.Str.ofString "Lease") (PySem.Str.ofString "worth")) rfl),
    F_Lease_pledge_lacking := c.def_ 28 (d := d_Lease_pledge_lacking) rfl,
    M_Lease_pledge_lacking := He.meth_ok (c.fact 28 (f := .meth (PySem.Str.ofString "Lease") (PySem.Str.ofString "pledge_lacking")) rfl),
    F_Roll_done := c.def_ 29 (d := d_Roll_done) rfl,
    M_Roll_done := He.meth_ok (c.fact 29 (f := .meth (PySem.Str.ofString "Roll") (PySem.Str.ofString "done")) rfl),
    F_Lease__init := c.def_ 30 (d := d_Lease__init) rfl,
    M_Lease__init := He.meth_ok (c.fact 30 (f := .meth (PySem.Str.ofString "Lease") (PySem.Str.ofString "__init__")) rfl),
    F_Lease_is_free_from := c.def_ 31 (d := d_Lease_is_free_from) rfl,
    M_Lease_is_free_from := He.meth_ok (c.fact 31 (f := .meth (PySem.Str.ofString "Lease") (PySem.Str.ofString "is_free_from")) rfl),
    F_Roll_let := c.def_ 32 (d := d_Roll_let) rfl,
    M_Roll_let := He.meth_ok (c.fact 32 (f := .meth (PySem.Str.ofString "Roll") (PySem.Str.ofString "let")) rfl),
    F_law_roll := c.def_ 33 (d := d_law_roll) rfl,
    g_law_roll := He.glo_ok X G (c.fact 33 (f := .glo (PySem.Str.ofString "_law_roll")) rfl),
    F_Roll_sure := c.def_ 34 (d := d_Roll_sure) rfl,
    M_Roll_sure := He.meth_ok (c.fact 34 (f := .meth (PySem.Str.ofString "Roll") (PySem.Str.ofString "sure")) rfl),
    F_Roll_close := c.def_ 35 (d := d_Roll_close) rfl,
    M_Roll_close := He.meth_ok (c.fact 35 (f := .meth (PySem.Str.ofString "Roll") (PySem.Str.ofString "close")) rfl),
    F_Roll_many := c.def_ 36 (d := d_Roll_many) rfl,
    M_Roll_many := He.meth_ok (c.fact 36 (f := .meth (PySem.Str.ofString "Roll") (PySem.Str.ofString "many")) rfl),
    F_Roll_owed := c.def_ 37 (d := d_Roll_owed) rfl,
    M_Roll_owed := He.meth_ok (c.fact 37 (f := .meth (PySem.Str.ofString "Roll") (PySem.Str.ofString "owed")) rfl),
    F_Roll_pledge := c.def_ 38 (d := d_Roll_pledge) rfl,
    M_Roll_pledge := He.meth_ok (c.fact 38 (f := .meth (PySem.Str.ofString "Roll") (PySem.Str.ofString "pledge")) rfl),
    F_law_asked := c.def_ 39 (d := d_law_asked) rfl,
    g_law_asked := He.glo_ok X G (c.fact 39 (f := .glo (PySem.Str.ofString "_law_asked")) rfl),
    F_Roll_bill := c.def_ 40 (d := d_Roll_bill) rfl,
    M_Roll_bill := He.meth_ok (c.fact 40 (f := .meth (PySem.Str.ofString "Roll") (PySem.Str.ofString "bill")) rfl),
    F_law_base := c.def_ 41 (d := d_law_base) rfl,
    g_law_base := He.glo_ok X G (c.fact 41 (f := .glo (PySem.Str.ofString "_law_base")) rfl),
    F_Roll_end := c.def_ 42 (d := d_Roll_end) rfl,
    M_Roll_end := He.meth_ok (c.fact 42 (f := .meth (PySem.Str.ofString "Roll") (PySem.Str.ofString "end")) rfl),
    F_Roll_step := c.def_ 43 (d := d_Roll_step) rfl,
    M_Roll_step := He.meth_ok (c.fact 43 (f := .meth (PySem.Str.ofString "Roll") (PySem.Str.ofString "step")) rfl),
    F_Roll_gauge := c.def_ 44 (d := d_Roll_gauge) rfl,
    M_Roll_gauge := He.meth_ok (c.fact 44 (f := .meth (PySem.Str.ofString "Roll") (PySem.Str.ofString "gauge")) rfl),
    F_Roll_rate := c.def_ 45 (d := d_Roll_rate) rfl,
    M_Roll_rate := He.meth_ok (c.fact 45 (f := .meth (PySem.Str.ofString "Roll") (PySem.Str.ofString "rate")) rfl),
    F_Roll_paid := c.def_ 46 (d := d_Roll_paid) rfl,
    M_Roll_paid := He.meth_ok (c.fact 46 (f := .meth (PySem.Str.ofString "Roll") (PySem.Str.ofString "paid")) rfl),
    F_Roll_kept := c.def_ 47 (d := d_Roll_kept) rfl,
    M_Roll_kept := He.meth_ok (c.fact 47 (f := .meth (PySem.Str.ofString "Roll") (PySem.Str.ofString "kept")) rfl),
    F_law_do := c.def_ 48 (d := d_law_do) rfl,
    g_law_do := He.glo_ok X G (c.fact 48 (f := .glo (PySem.Str.ofString "_law_do")) rfl),
    F_law_cell_at := c.def_ 49 (d := d_law_cell_at) rfl,
    g_law_cell_at := He.glo_ok X G (c.fact 49 (f := .glo (PySem.Str.ofString "_law_cell_at")) rfl),
    F_Roll_sent := c.def_ 50 (d := d_Roll_sent) rfl,
    M_Roll_sent := He.meth_ok (c.fact 50 (f := .meth (PySem.Str.ofString "Roll") (PySem.Str.ofString "sent")) rfl),
    F_Roll_given := c.def_ 51 (d := d_Roll_given) rfl,
    M_Roll_given := He.meth_ok (c.fact 51 (f := .meth (PySem.Str.ofString "Roll") (PySem.Str.ofString "given")) rfl),
    F_law := c.def_ 52 (d := d_law) rfl,
    g_law := He.glo_ok X G (c.fact 52 (f := .glo (PySem.Str.ofString "law")) rfl),
    n_bool := He.free_ok X G (c.fact 53 (f := .free (PySem.Str.ofString "bool")) rfl),
    n_enumerate := He.free_ok X G (c.fact 54 (f := .free (PySem.Str.ofString "enumerate")) rfl),
    n_int := He.free_ok X G (c.fact 55 (f := .free (PySem.Str.ofString "int")) rfl),
    n_isinstance := He.free_ok X G (c.fact 56 (f := .free (PySem.Str.ofString "isinstance")) rfl),
    n_len := He.free_ok X G (c.fact 57 (f := .free (PySem.Str.ofString "len")) rfl),
    n_list := He.free_ok X G (c.fact 58 (f := .free (PySem.Str.ofString "list")) rfl),
    n_max := He.free_ok X G (c.fact 59 (f := .free (PySem.Str.ofString "max")) rfl),
    n_min := He.free_ok X G (c.fact 60 (f := .free (PySem.Str.ofString "min")) rfl),
    n_range := He.free_ok X G (c.fact 61 (f := .free (PySem.Str.ofString "range")) rfl),
    n_str := He.free_ok X G (c.fact 62 (f := .free (PySem.Str.ofString "str")) rfl),
    n_sum := He.free_ok X G (c.fact 63 (f := .free (PySem.Str.ofString "sum")) rfl),
    k_bool := fun t ht => of_decide_eq_true (List.all_eq_true.mp q_k_bool t ht),
    k_int := fun t ht => of_decide_eq_true (List.all_eq_true.mp q_k_int t ht),
    k_str := fun t ht => of_decide_eq_true (List.all_eq_true.mp q_k_str t ht),
    c_LAST_DAY := He.int_ok X G (c.fact 64 (f := .int (PySem.Str.ofString "LAST_DAY") 99999) rfl),
    c_FIRST_YEAR := He.int_ok X G (c.fact 65 (f := .int (PySem.Str.ofString "FIRST_YEAR") 2000) rfl),
    c_LAST_YEAR := He.int_ok X G (c.fact 66 (f := .int (PySem.Str.ofString "LAST_YEAR") 2273) rfl),
    g_MONTHS := He.glo_ok X G (c.fact 67 (f := .glo (PySem.Str.ofString "MONTHS")) rfl),
    c_MONTHS := dp_tupB q_c_MONTHS,
    c_PARTS := He.int_ok X G (c.fact 68 (f := .int (PySem.Str.ofString "PARTS") 3650000) rfl),
    g_PLAIN := He.glo_ok X G (c.fact 69 (f := .glo (PySem.Str.ofString "PLAIN")) rfl),
    c_PLAIN := dp_rowB q_c_PLAIN,
    c_LETTERS := He.str_ok X G (c.fact 70 (f := .str (PySem.Str.ofString "LETTERS") (PySem.Str.ofString "abcdefghijklmnopqrstuvwxyz")) rfl),
    c_MOST_SIGNS := He.int_ok X G (c.fact 71 (f := .int (PySem.Str.ofString "MOST_SIGNS") 8) rfl),
    c_MOST_LEASES := He.int_ok X G (c.fact 72 (f := .int (PySem.Str.ofString "MOST_LEASES") 20) rfl),
    c_MOST_CENTS := He.int_ok X G (c.fact 73 (f := .int (PySem.Str.ofString "MOST_CENTS") 1000000000) rfl),
    c_MOST_NUMBER := He.int_ok X G (c.fact 74 (f := .int (PySem.Str.ofString "MOST_NUMBER") 1000000) rfl),
    c_MOST_RATE := He.int_ok X G (c.fact 75 (f := .int (PySem.Str.ofString "MOST_RATE") 10000) rfl),
    x_RentError := exc_mk (He.glo_ok X G (c.fact 76 (f := .glo (PySem.Str.ofString "RentError")) rfl)) (He.exc_ok (c.fact 77 (f := .exc (PySem.Str.ofString "RentError")) rfl)),
    x_BadDay := exc_mk (He.glo_ok X G (c.fact 78 (f := .glo (PySem.Str.ofString "BadDay")) rfl)) (He.exc_ok (c.fact 79 (f := .exc (PySem.Str.ofString "BadDay")) rfl)),
    x_BadFlat := exc_mk (He.glo_ok X G (c.fact 80 (f := .glo (PySem.Str.ofString "BadFlat")) rfl)) (He.exc_ok (c.fact 81 (f := .exc (PySem.Str.ofString "BadFlat")) rfl)),
    x_BadAmount := exc_mk (He.glo_ok X G (c.fact 82 (f := .glo (PySem.Str.ofString "BadAmount")) rfl)) (He.exc_ok (c.fact 83 (f := .exc (PySem.Str.ofString "BadAmount")) rfl)),
    x_NoLease := exc_mk (He.glo_ok X G (c.fact 84 (f := .glo (PySem.Str.ofString "NoLease")) rfl)) (He.exc_ok (c.fact 85 (f := .exc (PySem.Str.ofString "NoLease")) rfl)),
    x_Taken := exc_mk (He.glo_ok X G (c.fact 86 (f := .glo (PySem.Str.ofString "Taken")) rfl)) (He.exc_ok (c.fact 87 (f := .exc (PySem.Str.ofString "Taken")) rfl)),
    x_Full := exc_mk (He.glo_ok X G (c.fact 88 (f := .glo (PySem.Str.ofString "Full")) rfl)) (He.exc_ok (c.fact 89 (f := .exc (PySem.Str.ofString "Full")) rfl)),
    x_Done := exc_mk (He.glo_ok X G (c.fact 90 (f := .glo (PySem.Str.ofString "Done")) rfl)) (He.exc_ok (c.fact 91 (f := .exc (PySem.Str.ofString "Done")) rfl)),
    cl_Lease := He.cls_ok (c.fact 92 (f := .cls (PySem.Str.ofString "Lease")) rfl),
    mk_Lease := He.mkr_ok (c.fact 93 (f := .mkr (PySem.Str.ofString "Lease")) rfl),
    gc_Lease := He.glo_ok X G (c.fact 94 (f := .glo (PySem.Str.ofString "Lease")) rfl),
    na_Lease_flat := He.noat_ok (c.fact 95 (f := .noat (PySem.Str.ofString "Lease") (PySem.Str.ofString "flat")) rfl),
    na_Lease_first := He.noat_ok (c.fact 96 (f := .noat (PySem.Str.ofString "Lease") (PySem.Str.ofString "first")) rfl),
    na_Lease_last := He.noat_ok (c.fact 97 (f := .noat (PySem.Str.ofString "Lease") (PySem.Str.ofString "last")) rfl),
    na_Lease_indexed := He.noat_ok (c.fact 98 (f := .noat (PySem.Str.ofString "Lease") (PySem.Str.ofString "indexed")) rfl),
    na_Lease_steps := He.noat_ok (c.fact 99 (f := .noat (PySem.Str.ofString "Lease") (PySem.Str.ofString "steps")) rfl),
    na_Lease_moves := He.noat_ok (c.fact 100 (f := .noat (PySem.Str.ofString "Lease") (PySem.Str.ofString "moves")) rfl),
    na_Lease_shut := He.noat_ok (c.fact 101 (f := .noat (PySem.Str.ofString "Lease") (PySem.Str.ofString "shut")) rfl),
    na_Lease_rent_out := He.noat_ok (c.fact 102 (f := .noat (PySem.Str.ofString "Lease") (PySem.Str.ofString "rent_out")) rfl),
    na_Lease_pledge_out := He.noat_ok (c.fact 103 (f := .noat (PySem.Str.ofString "Lease") (PySem.Str.ofString "pledge_out")) rfl),
    cl_Roll := He.cls_ok (c.fact 104 (f := .cls (PySem.Str.ofString "Roll")) rfl),
    mk_Roll := He.mkr_ok (c.fact 105 (f := .mkr (PySem.Str.ofString "Roll")) rfl),
    gc_Roll := He.glo_ok X G (c.fact 106 (f := .glo (PySem.Str.ofString "Roll")) rfl),
    na_Roll_leases := He.noat_ok (c.fact 107 (f := .noat (PySem.Str.ofString "Roll") (PySem.Str.ofString "leases")) rfl),
    na_Roll_gauges := He.noat_ok (c.fact 108 (f := .noat (PySem.Str.ofString "Roll") (PySem.Str.ofString "gauges")) rfl),
    na_Roll_rates := He.noat_ok (c.fact 109 (f := .noat (PySem.Str.ofString "Roll") (PySem.Str.ofString "rates")) rfl),
    na_Roll_through := He.noat_ok (c.fact 110 (f := .noat (PySem.Str.ofString "Roll") (PySem.Str.ofString "through")) rfl),
    na_Roll_told := He.noat_ok (c.fact 111 (f := .noat (PySem.Str.ofString "Roll") (PySem.Str.ofString "told")) rfl) }
def loose0 : List PySem.Str := [(PySem.Str.ofString "_wall"), (PySem.Str.ofString "RentError"), (PySem.Str.ofString "BadDay"), (PySem.Str.ofString "BadFlat"), (PySem.Str.ofString "BadAmount"), (PySem.Str.ofString "NoLease"), (PySem.Str.ofString "Taken"), (PySem.Str.ofString "Full"), (PySem.Str.ofString "Done"), (PySem.Str.ofString "LAST_DAY"), (PySem.Str.ofString "FIRST_YEAR"), (PySem.Str.ofString "LAST_YEAR"), (PySem.Str.ofString "MONTHS"), (PySem.Str.ofString "is_whole"), (PySem.Str.ofString "is_within"), (PySem.Str.ofString "is_leap"), (PySem.Str.ofString "length_of"), (PySem.Str.ofString "leaps_ahead"), (PySem.Str.ofString "year_start"), (PySem.Str.ofString "month_days"), (PySem.Str.ofString "sure_day"), (PySem.Str.ofString "month_of"), (PySem.Str.ofString "pair_held"), (PySem.Str.ofString "held"), (PySem.Str.ofString "unchanged_through"), (PySem.Str.ofString "PARTS"), (PySem.Str.ofString "balance"), (PySem.Str.ofString "grown"), (PySem.Str.ofString "rent_on"), (PySem.Str.ofString "stretch")]
def loose1 : List PySem.Str := [(PySem.Str.ofString "owed"), (PySem.Str.ofString "PLAIN"), (PySem.Str.ofString "Lease"), (PySem.Str.ofString "LETTERS"), (PySem.Str.ofString "MOST_SIGNS"), (PySem.Str.ofString "MOST_LEASES"), (PySem.Str.ofString "MOST_CENTS"), (PySem.Str.ofString "MOST_NUMBER"), (PySem.Str.ofString "MOST_RATE"), (PySem.Str.ofString "sure_flat"), (PySem.Str.ofString "sure_amount"), (PySem.Str.ofString "Roll"), (PySem.Str.ofString "_law_cell_at"), (PySem.Str.ofString "_law_mix"), (PySem.Str.ofString "_law_base"), (PySem.Str.ofString "_law_money"), (PySem.Str.ofString "_law_number"), (PySem.Str.ofString "_law_do"), (PySem.Str.ofString "_law_room"), (PySem.Str.ofString "_law_some"), (PySem.Str.ofString "_law_roll"), (PySem.Str.ofString "_law_asked")]
def loose : List PySem.Str := loose0 ++ loose1
abbrev R : PySem.W.OpenRow := PySem.W.OpenLaw.row PySem.Challenge.rw_rentroll_k14_whole_told_late
abbrev hk : PySem.W.Hook := He.hookX 6 fa fn [] [] exB
def ob (s : PySem.W.SharedT) : He.AlX := He.obsX 6 fa fn [] [] exB (HandSHeadRun.getT s)
theorem ob_eq (s : PySem.W.SharedT) : ob s = hk.obs s.abs := He.obsX_eq (HandSHeadRun.getT_eq s)
set_option maxHeartbeats 0 in
theorem run (w : World) : HandSHeadRun.RunEq R (PySem.W.view R.prog [60]) hk ob 6000 loose w := by
  intro os
  kernel_rfl
end LW

set_option Elab.async false
set_option linter.all false
set_option maxRecDepth 100000
set_option maxHeartbeats 4000000
/-! RSim: the machine's steps as rules of simp. -/
namespace RK
open PySem PySem.Spec PyProof.Rows L2
/-- keeps simp from taking a rule for one that holds by reduction -/
theorem nr {α : Sort u} {a b : α} (h : a = b) : a = b := h
@[simp] theorem runP_ap (n s ds) : runP n s ds = finP (s (initE n (ds.map .d)) []) := nr rfl
@[simp] theorem runW_ap (n s ds w) : runW n s ds w = finW (s (initE n ds) w) := nr rfl
@[simp] theorem initE_ap (n ds) : initE n ds = ds.map some ++ List.replicate (n - ds.length) none := nr rfl
@[simp] theorem finP_rtd (x w) : finP (.ok (.rt (.d x)) w) = .ok x := nr rfl
@[simp] theorem finP_rt (v w) : finP (.ok (.rt v) w) = (match toD 6 w v with | some d => Rp.ok d | none => .bad) := nr rfl
@[simp] theorem finP_nx (e w) : finP (.ok (.nx e) w) = .ok .none := nr rfl
@[simp] theorem finP_ex (c e w) : finP (.ex c e w) = .ex c := nr rfl
@[simp] theorem finP_bad : finP .bad = .bad := nr rfl
@[simp] theorem finP_ite (c : Prop) [Decidable c] (a b) : finP (if c then a else b) = if c then finP a else finP b := by split <;> rfl
@[simp] theorem finW_rt (v w) : finW (.ok (.rt v) w) = .ok v w := nr rfl
@[simp] theorem finW_nx (e w) : finW (.ok (.nx e) w) = .ok (.d .none) w := nr rfl
@[simp] theorem finW_ex (c e w) : finW (.ex c e w) = .ex c w := nr rfl
@[simp] theorem finW_bad : finW .bad = .bad := nr rfl
@[simp] theorem finW_ite (c : Prop) [Decidable c] (a b) : finW (if c then a else b) = if c then finW a else finW b := by split <;> rfl
@[simp] theorem bind_ok {α β : Type} (a w) (f : α → Wd → Rs β) : (Rs.ok a w).bind f = f a w := nr rfl
@[simp] theorem bind_ex {α β : Type} (c w) (f : α → Wd → Rs β) : (Rs.ex c w).bind f = .ex c w := nr rfl
@[simp] theorem bind_bad {α β : Type} (f : α → Wd → Rs β) : Rs.bad.bind f = .bad := nr rfl
@[simp] theorem bind_ite {α β : Type} (c : Prop) [Decidable c] (a b) (f : α → Wd → Rs β) : (if c then a else b : Rs α).bind f = if c then a.bind f else b.bind f := by split <;> rfl
@[simp] theorem st_ok {α : Type} (a w e) (f : α → Wd → Rt) : (Rs.ok a w).st e f = f a w := nr rfl
@[simp] theorem st_ex {α : Type} (c w e) (f : α → Wd → Rt) : (Rs.ex c w).st e f = .ex c e w := nr rfl
@[simp] theorem st_bad {α : Type} (e) (f : α → Wd → Rt) : Rs.bad.st e f = .bad := nr rfl
@[simp] theorem st_ite {α : Type} (c : Prop) [Decidable c] (a b e) (f : α → Wd → Rt) : (if c then a else b : Rs α).st e f = if c then a.st e f else b.st e f := by split <;> rfl
@[simp] theorem xVar_ap (i e w) : xVar i e w = (match e[i]? with | some (some (.d x)) => Rs.ok (.d x) w | some (some (.loc l)) => .ok (.loc l) w | _ => .bad) := nr rfl
@[simp] theorem xLit_ap (d e w) : xLit d e w = .ok (.d d) w := nr rfl
@[simp] theorem xBin_ap (op a b e w) : xBin op a b e w = (a e w).bind fun x w1 => (b e w1).bind fun y w2 => op x y w2 := nr rfl
@[simp] theorem xAnd_ap (a b e w) : xAnd a b e w = (a e w).bind fun x w1 => match x with | .d (.bool p) => if p = true then b e w1 else .ok (.d (.bool false)) w1 | _ => .bad := nr rfl
@[simp] theorem xOr_ap (a b e w) : xOr a b e w = (a e w).bind fun x w1 => match x with | .d (.bool p) => if p = true then .ok (.d (.bool true)) w1 else b e w1 | _ => .bad := nr rfl
@[simp] theorem xNot_ap (a e w) : xNot a e w = (a e w).bind fun x w1 => match x with | .d (.bool b) => .ok (.d (.bool (!b))) w1 | _ => .bad := nr rfl
@[simp] theorem xChain_ap (op op' a b c e w) : xChain op op' a b c e w = (a e w).bind fun x w1 => (b e w1).bind fun y w2 => (op x y w2).bind fun z w3 => match z with
  | .d (.bool p) => if p = true then (c e w3).bind fun u w4 => op' y u w4 else .ok (.d (.bool false)) w3
  | _ => .bad := nr rfl
@[simp] theorem xNil_ap (e w) : xNil e w = .ok [] w := nr rfl
@[simp] theorem xCons_ap (a r e w) : xCons a r e w = (a e w).bind fun x w1 => (r e w1).bind fun xs w2 => .ok (x :: xs) w2 := nr rfl
@[simp] theorem allD_nil : allD [] = some [] := nr rfl
@[simp] theorem allD_cons (x r) : allD (.d x :: r) = (allD r).map (x :: ·) := nr rfl
@[simp] theorem allD_map (ds : List PyData) : allD (ds.map .d) = some ds := by
  induction ds with
  | nil => rfl
  | cons d ds ih => rw [List.map_cons, allD_cons, ih]; rfl
@[simp] theorem xTup_ap (a e w) : xTup a e w = (a e w).bind fun xs w1 => match allD xs with | some ds => if ds.length ≤ 100000 then .ok (.d (.tuple ds)) w1 else .bad | none => .bad := nr rfl
@[simp] theorem xLst_ap (a e w) : xLst a e w = (a e w).bind fun xs w1 => match allD xs with | some ds => if ds.length ≤ 100000 then .ok (.d (.list ds)) w1 else .bad | none => .bad := nr rfl
@[simp] theorem xLstS_ap (a e w) : xLstS a e w = (a e w).bind fun xs w1 => if xs.length ≤ 100000 then .ok (.loc w1.length) (w1 ++ [.lst xs]) else .bad := nr rfl
@[simp] theorem xTupS_ap (a e w) : xTupS a e w = (a e w).bind fun xs w1 => if xs.length ≤ 100000 then .ok (.loc w1.length) (w1 ++ [.tup xs]) else .bad := nr rfl
@[simp] theorem oI_ap (C g i j w) : oI C g (.d (.int i)) (.d (.int j)) w = if C i j = true then .ok (.d (g i j)) w else .bad := nr rfl
@[simp] theorem toD_d (n w x) : toD n w (.d x) = some x := by cases n <;> rfl
@[simp] theorem mapO_nil (f) : mapO f [] = some [] := nr rfl
@[simp] theorem mapO_cons (f x xs) : mapO f (x :: xs) = (match f x with | none => none | some y => (mapO f xs).map (y :: ·)) := nr rfl
@[simp] theorem mapO_map (n w) (ds : List PyData) : mapO (toD n w) (ds.map .d) = some ds := by
  induction ds with
  | nil => rfl
  | cons d ds ih => rw [List.map_cons, mapO_cons, toD_d, ih]; rfl
@[simp] theorem shaped_int (i) : SeqAt.shaped (.int i) = true := nr rfl
@[simp] theorem shaped_bool (i) : SeqAt.shaped (.bool i) = true := nr rfl
@[simp] theorem shaped_none : SeqAt.shaped .none = true := nr rfl
theorem eqv_int (i j : Int) : PyData.eqv (.int i) (.int j) = decide (i = j) := by
  show (i == j) = decide (i = j)
  rw [Bool.eq_iff_iff]; simp
@[simp] theorem oEq_int (i j w) : oEq (.d (.int i)) (.d (.int j)) w = .ok (.d (.bool (decide (i = j)))) w := by simp [oEq, eqv_int]
@[simp] theorem oNe_int (i j w) : oNe (.d (.int i)) (.d (.int j)) w = .ok (.d (.bool (!decide (i = j)))) w := by simp [oNe, eqv_int]
@[simp] theorem oIsN_ap (x w) : oIsN x (.d .none) w = .ok (.d (.bool (isNon x))) w := nr rfl
@[simp] theorem oNotN_ap (x w) : oNotN x (.d .none) w = .ok (.d (.bool (!isNon x))) w := nr rfl
@[simp] theorem isNon_none : isNon (.d .none) = true := nr rfl
@[simp] theorem isNon_int (i) : isNon (.d (.int i)) = false := nr rfl
@[simp] theorem isNon_tup (i) : isNon (.d (.tuple i)) = false := nr rfl
@[simp] theorem isNon_lst (i) : isNon (.d (.list i)) = false := nr rfl
@[simp] theorem isNon_loc (i) : isNon (.loc i) = false := nr rfl
@[simp] theorem isNon_str (i) : isNon (.d (.str i)) = false := nr rfl
@[simp] theorem isNon_bool (i) : isNon (.d (.bool i)) = false := nr rfl
@[simp] theorem oIxL_d (ds i w) : oIxL (.d (.list ds)) (.d (.int i)) w = (match atI ds i with | some d => .ok (.d d) w | none => .bad) := nr rfl
@[simp] theorem oIxT_d (ds i w) : oIxT (.d (.tuple ds)) (.d (.int i)) w = (match atI ds i with | some d => .ok (.d d) w | none => .bad) := nr rfl
@[simp] theorem oIxL_l (l i w) : oIxL (.loc l) (.d (.int i)) w = (match w[l]? with | some (.lst xs) => (match atI xs i with | some d => .ok d w | none => .bad) | _ => .bad) := nr rfl
@[simp] theorem oIxT_l (l i w) : oIxT (.loc l) (.d (.int i)) w = (match w[l]? with | some (.tup xs) => (match atI xs i with | some d => .ok d w | none => .bad) | _ => .bad) := nr rfl
@[simp] theorem xCallP_ap (f xs e w) : xCallP f xs e w = (xs e w).bind fun ds w1 => match allD ds with
  | some ps => match f ps with
    | .ok d => .ok (.d d) w1
    | .ex c => .ex c w1
    | .bad => .bad
  | none => .bad := nr rfl
@[simp] theorem xCallS_ap (f xs e w) : xCallS f xs e w = (xs e w).bind fun ds w1 => match mapO (toD 6 w1) ds with
  | some ps => match f ps with
    | .ok d => if isSc d = true then .ok (.d d) w1 else .bad
    | .ex c => .ex c w1
    | .bad => .bad
  | none => .bad := nr rfl
@[simp] theorem xCallW_ap (f xs e w) : xCallW f xs e w = (xs e w).bind fun ds w1 => f ds w1 := nr rfl
@[simp] theorem xCall_ap (op xs e w) : xCall op xs e w = (xs e w).bind fun ds w1 => op ds w1 := nr rfl
@[simp] theorem xIsi_ap (c x e w) : xIsi c x e w = (x e w).bind fun d w1 => oIsi c d w1 := nr rfl
@[simp] theorem isSc_int (i) : isSc (.int i) = true := nr rfl
@[simp] theorem isSc_bool (i) : isSc (.bool i) = true := nr rfl
@[simp] theorem oLen_l (ds w) : oLen [.d (.list ds)] w = .ok (.d (.int ds.length)) w := nr rfl
@[simp] theorem oLen_t (ds w) : oLen [.d (.tuple ds)] w = .ok (.d (.int ds.length)) w := nr rfl
@[simp] theorem oLen_loc (l w) : oLen [.loc l] w = (match w[l]? with | some (.lst xs) => .ok (.d (.int xs.length)) w | some (.tup xs) => .ok (.d (.int xs.length)) w | _ => .bad) := nr rfl
@[simp] theorem oMax2_ap (i j w) : oMax2 [.d (.int i), .d (.int j)] w = .ok (.d (.int (if j > i then j else i))) w := nr rfl
@[simp] theorem oMin2_ap (i j w) : oMin2 [.d (.int i), .d (.int j)] w = .ok (.d (.int (if j < i then j else i))) w := nr rfl
@[simp] theorem sSet_ap (i x e w) : sSet i x e w = (x e w).st e fun d w1 => .ok (.nx (e.set i (some d))) w1 := nr rfl
@[simp] theorem sRet_ap (x e w) : sRet x e w = (x e w).st e fun d w1 => .ok (.rt d) w1 := nr rfl
@[simp] theorem sExp_ap (x e w) : sExp x e w = (x e w).st e fun _ w1 => .ok (.nx e) w1 := nr rfl
@[simp] theorem sIf_ap (x s t e w) : sIf x s t e w = (x e w).st e fun d w1 => match d with | .d (.bool p) => if p = true then s e w1 else t e w1 | _ => .bad := nr rfl
@[simp] theorem sNil_ap (e w) : sNil e w = .ok (.nx e) w := nr rfl
@[simp] theorem sRaise_ap (c e w) : sRaise c e w = .ex c e w := nr rfl
/-- one statement, then the rest, by what the first has told -/
def thenS (r : Rt) (t : SM) : Rt := match r with
  | .ok (.nx e1) w1 => t e1 w1
  | r => r
@[simp] theorem sSeq_ap (s t e w) : sSeq s t e w = thenS (s e w) t := by
  unfold sSeq thenS
  cases s e w with
  | ok c w => cases c <;> rfl
  | ex c e w => rfl
  | bad => rfl
@[simp] theorem thenS_nx (e w t) : thenS (.ok (.nx e) w) t = t e w := nr rfl
@[simp] theorem thenS_rt (e w t) : thenS (.ok (.rt e) w) t = .ok (.rt e) w := nr rfl
@[simp] theorem thenS_ct (e w t) : thenS (.ok (.ct e) w) t = .ok (.ct e) w := nr rfl
@[simp] theorem thenS_bk (e w t) : thenS (.ok (.bk e) w) t = .ok (.bk e) w := nr rfl
@[simp] theorem thenS_ex (c e w t) : thenS (.ex c e w) t = .ex c e w := nr rfl
@[simp] theorem thenS_bad (t) : thenS .bad t = .bad := nr rfl
@[simp] theorem thenS_ite (c : Prop) [Decidable c] (a b t) : thenS (if c then a else b) t = if c then thenS a t else thenS b t := by split <;> rfl
/-- ways that meet -/
@[simp] theorem ok_and (c : Prop) [Decidable c] (q w) : (if c then Rs.ok (DV.d (PyData.bool q)) w else Rs.ok (DV.d (PyData.bool false)) w) = Rs.ok (DV.d (PyData.bool (decide c && q))) w := by
  by_cases h : c <;> simp [h]
@[simp] theorem ok_or (c : Prop) [Decidable c] (q w) : (if c then Rs.ok (DV.d (PyData.bool true)) w else Rs.ok (DV.d (PyData.bool q)) w) = Rs.ok (DV.d (PyData.bool (decide c || q))) w := by
  by_cases h : c <;> simp [h]
theorem at_lit {α : Type} (l : List α) (i : Nat) : atI l (i : Int) = l[i]? := by
  unfold atI ixN
  by_cases h : i < l.length
  · rw [if_pos (by omega), if_pos (by omega)]; simp
  · rw [if_pos (by omega), if_neg (by omega)]
    simp [List.getElem?_eq_none (Nat.le_of_not_lt h)]
theorem at_pos {α : Type} (l : List α) (i : Int) (h : 0 ≤ i) : atI l i = l[i.toNat]? := by
  obtain ⟨n, rfl⟩ : ∃ n : Nat, i = n := ⟨i.toNat, by omega⟩
  rw [at_lit]; rfl
@[simp] theorem at_0 {α : Type} (l : List α) : atI l 0 = l[0]? := at_lit l 0
@[simp] theorem at_2 {α : Type} (l : List α) : atI l 2 = l[2]? := at_lit l 2
@[simp] theorem at_3 {α : Type} (l : List α) : atI l 3 = l[3]? := at_lit l 3
@[simp] theorem at_4 {α : Type} (l : List α) : atI l 4 = l[4]? := at_lit l 4
@[simp] theorem at_5 {α : Type} (l : List α) : atI l 5 = l[5]? := at_lit l 5
@[simp] theorem at_1 {α : Type} (l : List α) : atI l 1 = l[1]? := at_lit l 1
/-- a while whose state is a -/
theorem while_spec {α : Type} {x : XM} {s : SM} {w : Wd} (env : α → En) (P : α → Prop) (test : α → Bool) (step : α → α) (μ : α → Nat)
    (hx : ∀ a, P a → x (env a) w = .ok (.d (.bool (test a))) w)
    (hs : ∀ a, P a → test a = true → s (env a) w = .ok (.nx (env (step a))) w ∧ P (step a) ∧ μ (step a) < μ a) :
    ∀ n a, P a → μ a < n → ∃ b, P b ∧ test b = false ∧ whileF x s n (env a) w = .ok (.nx (env b)) w := by
  intro n
  induction n with
  | zero => intro a _ h; omega
  | succ n ih =>
    intro a pa h
    by_cases t : test a = true
    · obtain ⟨e, p, l⟩ := hs a pa t
      obtain ⟨b, pb, tb, eb⟩ := ih (step a) p (by omega)
      refine ⟨b, pb, tb, ?_⟩
      unfold whileF
      rw [hx a pa, t]
      simp only [st_ok, if_true, e, eb]
    · refine ⟨a, pa, by simpa using t, ?_⟩
      unfold whileF
      rw [hx a pa]
      simp only [st_ok, if_neg t]
/-- a for over plain data whose state is a; the body goes on -/
theorem forD_spec {α : Type} {g : TgM} {s : SM} (env : α → En) (wd : α → Wd) (P : α → Prop) (step : α → PyData → α) :
    ∀ (ds : List PyData) (a : α), P a →
      (∀ a d, P a → d ∈ ds → ∃ e1, g (.d d) (env a) (wd a) = some e1 ∧ s e1 (wd a) = .ok (.nx (env (step a d))) (wd (step a d)) ∧ P (step a d)) →
      forD g s ds (env a) (wd a) = .ok (.nx (env (ds.foldl step a))) (wd (ds.foldl step a)) ∧ P (ds.foldl step a) := by
  intro ds
  induction ds with
  | nil => intro a p _; exact ⟨rfl, p⟩
  | cons d ds ih =>
    intro a p h
    obtain ⟨e1, h1, h2, h3⟩ := h a d p (List.mem_cons_self ..)
    have := ih (step a d) h3 (fun a d' pa m => h a d' pa (List.mem_cons_of_mem _ m))
    refine ⟨?_, this.2⟩
    show (match g (.d d) (env a) (wd a) with | none => Rt.bad | some e1 => match s e1 (wd a) with
      | .ok (.nx e2) w2 => forD g s ds e2 w2
      | .ok (.ct e2) w2 => forD g s ds e2 w2
      | .ok (.bk e2) w2 => .ok (.nx e2) w2
      | .ok (.rt d) w2 => .ok (.rt d) w2
      | .ex c e2 w2 => .ex c e2 w2
      | .bad => .bad) = _
    rw [h1]
    show (match s e1 (wd a) with
      | .ok (.nx e2) w2 => forD g s ds e2 w2
      | .ok (.ct e2) w2 => forD g s ds e2 w2
      | .ok (.bk e2) w2 => .ok (.nx e2) w2
      | .ok (.rt d) w2 => .ok (.rt d) w2
      | .ex c e2 w2 => .ex c e2 w2
      | .bad => .bad) = _
    rw [h2]
    exact this.1
/-- a for over range, by the number of turns -/
theorem forR_spec {α : Type} {g : TgM} {s : SM} (env : α → En) (wd : α → Wd) (P : Nat → α → Prop) (step : Nat → α → α) (lo : Int) :
    ∀ (n k : Nat) (a : α), P k a →
      (∀ a j, k ≤ j → j < k + n → P j a → ∃ e1, g (.d (.int (lo + (j : Int)))) (env a) (wd a) = some e1 ∧ s e1 (wd a) = .ok (.nx (env (step j a))) (wd (step j a)) ∧ P (j + 1) (step j a)) →
      ∃ b, P (k + n) b ∧ forD g s ((List.range' k n).map fun (j : Nat) => .int (lo + (j : Int))) (env a) (wd a) = .ok (.nx (env b)) (wd b) := by
  intro n
  induction n with
  | zero => intro k a p _; exact ⟨a, p, rfl⟩
  | succ n ih =>
    intro k a p h
    obtain ⟨e1, h1, h2, h3⟩ := h a k (Nat.le_refl _) (by omega) p
    obtain ⟨b, pb, eb⟩ := ih (k + 1) (step k a) h3 (fun a j h1 h2 p => h a j (by omega) (by omega) p)
    refine ⟨b, by rw [show k + (n + 1) = k + 1 + n by omega]; exact pb, ?_⟩
    rw [List.range'_succ, List.map_cons]
    unfold forD
    rw [h1]
    simp only [h2, eb]
theorem rngD_eq (lo : Int) (n : Nat) : rngD lo n = (List.range' 0 n).map fun (j : Nat) => .int (lo + (j : Int)) := by
  unfold rngD
  rw [List.range_eq_range']
@[simp] theorem sWhile_ap (n x s e w) : sWhile n x s e w = whileF x s n e w := nr rfl
@[simp] theorem sForR1_ap (j x s e w) : sForR1 j x s e w = (x e w).st e fun d w1 => match d with
  | .d (.int n) => if okR n = true then forD (gNm j) s (rngD 0 n.toNat) e w1 else .bad
  | _ => .bad := nr rfl
@[simp] theorem sForR2_ap (j x y s e w) : sForR2 j x y s e w = (x e w).st e fun d w1 => (y e w1).st e fun d2 w2 => match d, d2 with
  | .d (.int lo), .d (.int hi) => if (okR lo && okR hi) = true then forD (gNm j) s (rngD lo (hi - lo).toNat) e w2 else .bad
  | _, _ => .bad := nr rfl
@[simp] theorem sAsg_ap (g x e w) : sAsg g x e w = (x e w).st e fun d w1 => match g d e w1 with
  | some e1 => .ok (.nx e1) w1
  | none => .bad := nr rfl
@[simp] theorem gNm_ap (j d e w) : gNm j d e w = some (e.set j (some d)) := nr rfl
@[simp] theorem gTp_d (js ds e w) : gTp js (.d (.tuple ds)) e w = setsE js (ds.map .d) e := nr rfl
@[simp] theorem oInt1_i (i w) : oInt1 [.d (.int i)] w = .ok (.d (.int i)) w := nr rfl
@[simp] theorem oInt1_b (i w) : oInt1 [.d (.bool i)] w = .ok (.d (.int (if i = true then 1 else 0))) w := nr rfl
@[simp] theorem lstAt_loc (w l) : lstAt w (.loc l) = (match w[l]? with | some (.lst xs) => some (l, xs) | _ => none) := nr rfl
@[simp] theorem xApp_ap (xo xe e w) : xApp xo xe e w = (xo e w).bind fun x w1 => match lstAt w1 x with
  | none => .bad
  | some _ => (xe e w1).bind fun y w2 => match lstAt w2 x with
    | none => .bad
    | some (l, xs) => if xs.length < 100000 then .ok (.d .none) (w2.set l (.lst (xs ++ [y]))) else .bad := nr rfl
theorem toD_lst (n : Nat) (w : Wd) (l : Nat) (ds : List PyData) (h : w[l]? = some (.lst (ds.map .d))) : toD (n + 1) w (.loc l) = some (.list ds) := by
  show (match w[l]? with | some (.lst xs) => (mapO (toD n w) xs).map PyData.list | some (.tup xs) => (mapO (toD n w) xs).map PyData.tuple | _ => none) = _
  rw [h]
  simp only [mapO_map]
  rfl
@[simp] theorem poN_ap (e w) : poN e w = .ok none w := nr rfl
@[simp] theorem poS_ap (x e w) : poS x e w = (x e w).bind fun d w1 => match d with
  | .d (.int i) => .ok (some i) w1
  | _ => .bad := nr rfl
@[simp] theorem xSl_ap (op x lo hi e w) : xSl op x lo hi e w = (x e w).bind fun d w1 => (lo e w1).bind fun l w2 => (hi e w2).bind fun u w3 => op d l u w3 := nr rfl
@[simp] theorem oSlL_d (ds l u w) : oSlL (.d (.list ds)) l u w = .ok (.d (.list (cutL ds l u))) w := nr rfl
@[simp] theorem oSlS_d (z l u w) : oSlS (.d (.str z)) l u w = if z.length ≤ 100000 then .ok (.d (.str (cutS z l u))) w else .bad := nr rfl
@[simp] theorem oList_l (ds w) : oList [.d (.list ds)] w = .ok (.d (.list ds)) w := nr rfl
@[simp] theorem oList_t (ds w) : oList [.d (.tuple ds)] w = .ok (.d (.list ds)) w := nr rfl
@[simp] theorem xNeg_ap (x e w) : xNeg x e w = (x e w).bind fun d w1 => match d with
  | .d (.int i) => .ok (.d (.int (-i))) w1
  | _ => .bad := nr rfl
@[simp] theorem sFor_ap (g x s e w) : sFor g x s e w = (x e w).st e fun d w1 => match d with
  | .d (.list ds) => forD g s ds e w1
  | .loc l => match w1[l]? with
    | some (.lst xs) => forL g s l xs xs e w1
    | _ => .bad
  | _ => .bad := nr rfl
/-- a for over a list of things -/
theorem forM_spec {α β : Type} {g : TgM} {s : SM} (f : β → PyData) (env : α → En) (wd : α → Wd) (step : α → β → α) :
    ∀ (xs : List β) (a : α), (∀ a d, d ∈ xs → ∃ e1, g (.d (f d)) (env a) (wd a) = some e1 ∧ s e1 (wd a) = .ok (.nx (env (step a d))) (wd (step a d))) →
      forD g s (xs.map f) (env a) (wd a) = .ok (.nx (env (xs.foldl step a))) (wd (xs.foldl step a)) := by
  intro xs
  induction xs with
  | nil => intro a _; rfl
  | cons d ds ih =>
    intro a h
    obtain ⟨e1, h1, h2⟩ := h a d (List.mem_cons_self ..)
    have := ih (step a d) (fun a d' m => h a d' (List.mem_cons_of_mem _ m))
    rw [List.map_cons]
    unfold forD
    rw [h1]
    simp only [h2]
    exact this
/-! ### data that may be compared -/
structure Shp (n : Nat) (d : PyData) : Prop where
  lay : d.canLay0 = true
  dep : d.depth ≤ n
theorem Shp.int (n i) : Shp n (.int i) := ⟨rfl, Nat.zero_le _⟩
theorem Shp.bool (n i) : Shp n (.bool i) := ⟨rfl, Nat.zero_le _⟩
theorem Shp.none (n) : Shp n .none := ⟨rfl, Nat.zero_le _⟩
theorem shp_all {n : Nat} : ∀ {xs : List PyData}, (∀ x ∈ xs, Shp n x) → PyData.canLayAll0 xs = true ∧ PyData.depthAll xs ≤ n
  | [], _ => ⟨rfl, Nat.zero_le _⟩
  | x :: xs, h => by
    have h1 := h x (List.mem_cons_self ..)
    have h2 := shp_all (xs := xs) fun y m => h y (List.mem_cons_of_mem _ m)
    refine ⟨by rw [PyData.canLayAll0, h1.lay, h2.1]; rfl, ?_⟩
    rw [PyData.depthAll]
    exact Nat.max_le.mpr ⟨h1.dep, h2.2⟩
theorem Shp.list {n : Nat} {xs : List PyData} (h : ∀ x ∈ xs, Shp n x) : Shp (n + 1) (.list xs) := by
  obtain ⟨a, b⟩ := shp_all h
  refine ⟨a, ?_⟩
  rw [PyData.depth]
  omega
theorem Shp.tuple {n : Nat} {xs : List PyData} (h : ∀ x ∈ xs, Shp n x) : Shp (n + 1) (.tuple xs) := by
  obtain ⟨a, b⟩ := shp_all h
  refine ⟨a, ?_⟩
  rw [PyData.depth]
  omega
theorem Shp.mono {n m : Nat} {d : PyData} (h : Shp n d) (l : n ≤ m) : Shp m d := ⟨h.lay, Nat.le_trans h.dep l⟩
theorem Shp.ok {n : Nat} {d : PyData} (h : Shp n d) (l : n ≤ 64) : SeqAt.shaped d = true := by
  unfold SeqAt.shaped
  rw [h.lay, Bool.true_and, decide_eq_true_eq]
  exact Nat.le_trans h.dep l
theorem Shp.refl {n : Nat} {d : PyData} (h : Shp n d) : PyData.eqv d d = true := SeqAt.eqv_refl d h.lay
theorem shaped_refl {d : PyData} (h : SeqAt.shaped d = true) : PyData.eqv d d = true := SeqAt.eqv_refl d (Bool.and_eq_true_iff.mp h).1
theorem oEq_dd (x y w) (hx : SeqAt.shaped x = true) (hy : SeqAt.shaped y = true) : oEq (.d x) (.d y) w = .ok (.d (.bool (PyData.eqv x y))) w := by simp [oEq, hx, hy]
theorem oNe_dd (x y w) (hx : SeqAt.shaped x = true) (hy : SeqAt.shaped y = true) : oNe (.d x) (.d y) w = .ok (.d (.bool (!PyData.eqv x y))) w := by simp [oNe, hx, hy]
theorem oEq_same (x w) (hx : SeqAt.shaped x = true) : oEq (.d x) (.d x) w = .ok (.d (.bool true)) w := by rw [oEq_dd _ _ _ hx hx, shaped_refl hx]
theorem oNe_same (x w) (hx : SeqAt.shaped x = true) : oNe (.d x) (.d x) w = .ok (.d (.bool false)) w := by rw [oNe_dd _ _ _ hx hx, shaped_refl hx]; rfl
/-- a for over range, what it comes to left open -/
theorem forR_ex {α : Type} {g : TgM} {s : SM} (env : α → En) (wd : α → Wd) (P : Nat → α → Prop) (lo : Int) :
    ∀ (n k : Nat) (a : α), P k a →
      (∀ a j, k ≤ j → j < k + n → P j a → ∃ e1 a', g (.d (.int (lo + (j : Int)))) (env a) (wd a) = some e1 ∧ (s e1 (wd a) = .ok (.nx (env a')) (wd a') ∨ s e1 (wd a) = .ok (.ct (env a')) (wd a')) ∧ P (j + 1) a') →
      ∃ b, P (k + n) b ∧ forD g s ((List.range' k n).map fun (j : Nat) => .int (lo + (j : Int))) (env a) (wd a) = .ok (.nx (env b)) (wd b) := by
  intro n
  induction n with
  | zero => intro k a p _; exact ⟨a, p, rfl⟩
  | succ n ih =>
    intro k a p h
    obtain ⟨e1, a', h1, h2, h3⟩ := h a k (Nat.le_refl _) (by omega) p
    obtain ⟨b, pb, eb⟩ := ih (k + 1) a' h3 (fun a j h1 h2 p => h a j (by omega) (by omega) p)
    refine ⟨b, by rw [show k + (n + 1) = k + 1 + n by omega]; exact pb, ?_⟩
    rw [List.range'_succ, List.map_cons]
    unfold forD
    rw [h1]
    rcases h2 with h2 | h2 <;> simp only [h2, eb]
theorem forR0_ex {α : Type} {g : TgM} {s : SM} (env : α → En) (wd : α → Wd) (P : Nat → α → Prop) (n : Nat) (a : α) (h0 : P 0 a)
    (h : ∀ a j, j < n → P j a → ∃ e1 a', g (.d (.int (j : Int))) (env a) (wd a) = some e1 ∧ (s e1 (wd a) = .ok (.nx (env a')) (wd a') ∨ s e1 (wd a) = .ok (.ct (env a')) (wd a')) ∧ P (j + 1) a') :
    ∃ b, P n b ∧ forD g s (rngD 0 n) (env a) (wd a) = .ok (.nx (env b)) (wd b) := by
  obtain ⟨b, p, e⟩ := forR_ex (g := g) (s := s) env wd P 0 n 0 a h0 (fun a j _ h2 p => by rw [Int.zero_add]; exact h a j (by omega) p)
  rw [← rngD_eq] at e
  exact ⟨b, by simpa using p, e⟩
theorem ok_r (n : Int) (h1 : 0 ≤ n) (h2 : n ≤ 1000000) : okR n = true := by
  unfold okR
  simp
  omega
@[simp] theorem oIsi_tuple_tuple (ds : List PyData) (w : Wd) : oIsi "tuple" (.d (.tuple ds)) w = .ok (.d (.bool true)) w := nr rfl
@[simp] theorem oIsi_tuple_int (i : Int) (w : Wd) : oIsi "tuple" (.d (.int i)) w = .ok (.d (.bool false)) w := nr rfl
@[simp] theorem oIsi_tuple_bool (b : Bool) (w : Wd) : oIsi "tuple" (.d (.bool b)) w = .ok (.d (.bool false)) w := nr rfl
@[simp] theorem oIsi_tuple_list (ds : List PyData) (w : Wd) : oIsi "tuple" (.d (.list ds)) w = .ok (.d (.bool false)) w := nr rfl
@[simp] theorem oIsi_tuple_none  (w : Wd) : oIsi "tuple" (.d .none) w = .ok (.d (.bool false)) w := nr rfl
@[simp] theorem oIsi_tuple_str (z : Str) (w : Wd) : oIsi "tuple" (.d (.str z)) w = .ok (.d (.bool false)) w := nr rfl
@[simp] theorem oIsi_int_tuple (ds : List PyData) (w : Wd) : oIsi "int" (.d (.tuple ds)) w = .ok (.d (.bool false)) w := nr rfl
@[simp] theorem oIsi_int_int (i : Int) (w : Wd) : oIsi "int" (.d (.int i)) w = .ok (.d (.bool true)) w := nr rfl
@[simp] theorem oIsi_int_bool (b : Bool) (w : Wd) : oIsi "int" (.d (.bool b)) w = .ok (.d (.bool true)) w := nr rfl
@[simp] theorem oIsi_int_list (ds : List PyData) (w : Wd) : oIsi "int" (.d (.list ds)) w = .ok (.d (.bool false)) w := nr rfl
@[simp] theorem oIsi_int_none  (w : Wd) : oIsi "int" (.d .none) w = .ok (.d (.bool false)) w := nr rfl
@[simp] theorem oIsi_int_str (z : Str) (w : Wd) : oIsi "int" (.d (.str z)) w = .ok (.d (.bool false)) w := nr rfl
@[simp] theorem oIsi_bool_tuple (ds : List PyData) (w : Wd) : oIsi "bool" (.d (.tuple ds)) w = .ok (.d (.bool false)) w := nr rfl
@[simp] theorem oIsi_bool_int (i : Int) (w : Wd) : oIsi "bool" (.d (.int i)) w = .ok (.d (.bool false)) w := nr rfl
@[simp] theorem oIsi_bool_bool (b : Bool) (w : Wd) : oIsi "bool" (.d (.bool b)) w = .ok (.d (.bool true)) w := nr rfl
@[simp] theorem oIsi_bool_list (ds : List PyData) (w : Wd) : oIsi "bool" (.d (.list ds)) w = .ok (.d (.bool false)) w := nr rfl
@[simp] theorem oIsi_bool_none  (w : Wd) : oIsi "bool" (.d .none) w = .ok (.d (.bool false)) w := nr rfl
@[simp] theorem oIsi_bool_str (z : Str) (w : Wd) : oIsi "bool" (.d (.str z)) w = .ok (.d (.bool false)) w := nr rfl
@[simp] theorem oIsi_list_tuple (ds : List PyData) (w : Wd) : oIsi "list" (.d (.tuple ds)) w = .ok (.d (.bool false)) w := nr rfl
@[simp] theorem oIsi_list_int (i : Int) (w : Wd) : oIsi "list" (.d (.int i)) w = .ok (.d (.bool false)) w := nr rfl
@[simp] theorem oIsi_list_bool (b : Bool) (w : Wd) : oIsi "list" (.d (.bool b)) w = .ok (.d (.bool false)) w := nr rfl
@[simp] theorem oIsi_list_list (ds : List PyData) (w : Wd) : oIsi "list" (.d (.list ds)) w = .ok (.d (.bool true)) w := nr rfl
@[simp] theorem oIsi_list_none  (w : Wd) : oIsi "list" (.d .none) w = .ok (.d (.bool false)) w := nr rfl
@[simp] theorem oIsi_list_str (z : Str) (w : Wd) : oIsi "list" (.d (.str z)) w = .ok (.d (.bool false)) w := nr rfl
@[simp] theorem oIsi_str_tuple (ds : List PyData) (w : Wd) : oIsi "str" (.d (.tuple ds)) w = .ok (.d (.bool false)) w := nr rfl
@[simp] theorem oIsi_str_int (i : Int) (w : Wd) : oIsi "str" (.d (.int i)) w = .ok (.d (.bool false)) w := nr rfl
@[simp] theorem oIsi_str_bool (b : Bool) (w : Wd) : oIsi "str" (.d (.bool b)) w = .ok (.d (.bool false)) w := nr rfl
@[simp] theorem oIsi_str_list (ds : List PyData) (w : Wd) : oIsi "str" (.d (.list ds)) w = .ok (.d (.bool false)) w := nr rfl
@[simp] theorem oIsi_str_none  (w : Wd) : oIsi "str" (.d .none) w = .ok (.d (.bool false)) w := nr rfl
@[simp] theorem oIsi_str_str (z : Str) (w : Wd) : oIsi "str" (.d (.str z)) w = .ok (.d (.bool true)) w := nr rfl
/-! steps by hand -/
theorem callP_of {f : FP} {xs : AM} {e : En} {w w1 : Wd} {ds : List DV} {ps : List PyData} {d : PyData} (hx : xs e w = .ok ds w1) (ha : allD ds = some ps) (hf : f ps = .ok d) : xCallP f xs e w = .ok (.d d) w1 := by
  rw [xCallP_ap, hx, bind_ok, ha]
  simp only [hf]
theorem set_of {i : Nat} {x : XM} {e : En} {w w1 : Wd} {d : DV} (hx : x e w = .ok d w1) : sSet i x e w = .ok (.nx (e.set i (some d))) w1 := by rw [sSet_ap, hx, st_ok]
theorem seq_of {s t : SM} {e e1 : En} {w w1 : Wd} (h : s e w = .ok (.nx e1) w1) : sSeq s t e w = t e1 w1 := by rw [sSeq_ap, h, thenS_nx]
theorem seq_rt {s t : SM} {e : En} {w w1 : Wd} {d : DV} (h : s e w = .ok (.rt d) w1) : sSeq s t e w = .ok (.rt d) w1 := by rw [sSeq_ap, h, thenS_rt]
theorem if_of {x : XM} {s t : SM} {e : En} {w w1 : Wd} {b : Bool} (hx : x e w = .ok (.d (.bool b)) w1) : sIf x s t e w = (if b = true then s e w1 else t e w1) := by rw [sIf_ap, hx, st_ok]
theorem ret_of {x : XM} {e : En} {w w1 : Wd} {d : DV} (hx : x e w = .ok d w1) : sRet x e w = .ok (.rt d) w1 := by rw [sRet_ap, hx, st_ok]
theorem exp_of {x : XM} {e : En} {w w1 : Wd} {d : DV} (hx : x e w = .ok d w1) : sExp x e w = .ok (.nx e) w1 := by rw [sExp_ap, hx, st_ok]
theorem bin_of {op : DV → DV → Wd → Rs DV} {a b : XM} {e : En} {w w1 w2 : Wd} {x y : DV} {r : Rs DV} (ha : a e w = .ok x w1) (hb : b e w1 = .ok y w2) (ho : op x y w2 = r) : xBin op a b e w = r := by rw [xBin_ap, ha, bind_ok, hb, bind_ok, ho]
theorem or_of {a b : XM} {e : En} {w w1 w2 : Wd} {p q : Bool} (ha : a e w = .ok (.d (.bool p)) w1) (hb : p = false → b e w1 = .ok (.d (.bool q)) w1) (hw : w2 = w1) : xOr a b e w = .ok (.d (.bool (p || q))) w2 := by
  subst hw
  rw [xOr_ap, ha, bind_ok]
  cases p with
  | true => simp
  | false => simp [hb rfl]
theorem and_of {a b : XM} {e : En} {w w1 w2 : Wd} {p q : Bool} (ha : a e w = .ok (.d (.bool p)) w1) (hb : p = true → b e w1 = .ok (.d (.bool q)) w1) (hw : w2 = w1) : xAnd a b e w = .ok (.d (.bool (p && q))) w2 := by
  subst hw
  rw [xAnd_ap, ha, bind_ok]
  cases p with
  | true => simp [hb rfl]
  | false => simp
theorem not_of {a : XM} {e : En} {w w1 : Wd} {p : Bool} (ha : a e w = .ok (.d (.bool p)) w1) : xNot a e w = .ok (.d (.bool (!p))) w1 := by rw [xNot_ap, ha, bind_ok]
@[simp] theorem xLc_ap (st j x t s e w) : xLc st j x t s e w = (x e w).bind fun d w1 => match d with
  | .d (.list ds) => lcRun st j t s e ds w1
  | _ => .bad := nr rfl
@[simp] theorem xLcT_ap (st j x t s e w) : xLcT st j x t s e w = (x e w).bind fun d w1 => match d with
  | .d (.tuple ds) => lcRun st j t s e ds w1
  | _ => .bad := nr rfl
@[simp] theorem xLcR_ap (st j x t s e w) : xLcR st j x t s e w = (x e w).bind fun d w1 => match d with
  | .d (.int n) => if okR n = true then lcRun st j t s e (rngD 0 n.toNat) w1 else .bad
  | _ => .bad := nr rfl
/-- a comprehension over a list of things -/
theorem lcF_map {β : Type} {j : Nat} {t : Option XM} {s : XM} {e : En} {w : Wd} (f : β → PyData) (p : β → Bool) (g : β → PyData) : ∀ (xs : List β) (acc : List PyData),
    (∀ b ∈ xs, lcT t (e.set j (some (.d (f b)))) w = .ok (.d (.bool (p b))) w) → (∀ b ∈ xs, p b = true → s (e.set j (some (.d (f b)))) w = .ok (.d (g b)) w) → acc.length + xs.length ≤ 100000 →
    lcF j t s e (xs.map f) w acc = .ok (acc ++ (xs.filter p).map g) w := by
  intro xs
  induction xs with
  | nil => intro acc _ _ _; rw [List.map_nil, lcF]; simp
  | cons x xs ih =>
    intro acc h1 h2 h3
    rw [List.length_cons] at h3
    rw [List.map_cons, lcF, h1 x (List.mem_cons_self ..)]
    simp only
    by_cases hp : p x = true
    · rw [if_pos hp, h2 x (List.mem_cons_self ..) hp]
      simp only
      rw [if_pos (by omega), ih (acc ++ [g x]) (fun b m => h1 b (List.mem_cons_of_mem _ m)) (fun b m => h2 b (List.mem_cons_of_mem _ m)) (by rw [List.length_append, List.length_singleton]; omega), List.filter_cons_of_pos hp]
      simp
    · rw [if_neg hp, ih acc (fun b m => h1 b (List.mem_cons_of_mem _ m)) (fun b m => h2 b (List.mem_cons_of_mem _ m)) (by omega), List.filter_cons_of_neg hp]
theorem lcRun_map {β : Type} {j : Nat} {t : Option XM} {s : XM} {e : En} {w : Wd} (f : β → PyData) (p : β → Bool) (g : β → PyData) (xs : List β)
    (h1 : ∀ b ∈ xs, lcT t ((e.set j none).set j (some (.d (f b)))) w = .ok (.d (.bool (p b))) w) (h2 : ∀ b ∈ xs, p b = true → s ((e.set j none).set j (some (.d (f b)))) w = .ok (.d (g b)) w) (h3 : xs.length ≤ 100000) :
    lcRun false j t s e (xs.map f) w = .ok (.d (.list ((xs.filter p).map g))) w := by
  unfold lcRun
  rw [lcF_map f p g xs [] h1 h2 (by simpa using h3)]
  rfl
@[simp] theorem lcT_none (e w) : lcT none e w = .ok (.d (.bool true)) w := nr rfl
@[simp] theorem lcT_some (x e w) : lcT (some x) e w = x e w := nr rfl
@[simp] theorem oSumL_ints (ns : List Int) (w) : oSumL [.d (.list (ns.map .int))] w = .ok (.d (.int ns.sum)) w := by
  unfold oSumL itemsD
  simp only [intsOf_map]
@[simp] theorem oSortedL_ints (ns : List Int) (w) : oSortedL [.d (.list (ns.map .int))] w = .ok (.d (.list ((sortI ns).map .int))) w := by
  unfold oSortedL itemsD
  simp only [intsOf_map]
theorem sortI_perm (ns : List Int) : (sortI ns).Perm ns := List.mergeSort_perm _ _
theorem sortI_le (ns : List Int) : (sortI ns).Pairwise (· ≤ ·) := by
  have := List.pairwise_mergeSort (le := fun (a b : Int) => decide (a ≤ b)) (fun a b c h1 h2 => by simp only [decide_eq_true_eq] at *; omega) (fun a b => by simp only [Bool.or_eq_true, decide_eq_true_eq]; omega) ns
  exact this.imp fun h => of_decide_eq_true h
theorem sortI_3 (a b c : Int) : ∃ x y z, sortI [a, b, c] = [x, y, z] ∧ x ≤ y ∧ y ≤ z ∧ ∀ i ∈ [x, y, z], i ∈ [a, b, c] := by
  have p := sortI_perm [a, b, c]
  have l := sortI_le [a, b, c]
  generalize sortI [a, b, c] = q at p l
  have hl := p.length_eq
  match q, hl with
  | [x, y, z], _ =>
    refine ⟨x, y, z, rfl, ?_, ?_, fun i hi => p.mem_iff.mp hi⟩
    · exact (List.pairwise_cons.mp l).1 y (by simp)
    · exact (List.pairwise_cons.mp (List.pairwise_cons.mp l).2).1 z (by simp)
@[simp] theorem oCat_dd (xs ys w) : oCat (.d (.list xs)) (.d (.list ys)) w = if xs.length + ys.length ≤ 100000 then .ok (.d (.list (xs ++ ys))) w else .bad := nr rfl
/-! instances, dicts, enumerate -/
@[simp] theorem insAt_loc (w l) : insAt w (.loc l) = (match w[l]? with | some (.ins c fs) => some (l, c, fs) | _ => none) := nr rfl
@[simp] theorem dctAt_loc (w l) : dctAt w (.loc l) = (match w[l]? with | some (.dct kvs) => some (l, kvs) | _ => none) := nr rfl
theorem xFld_ap (c f x e w) : xFld c f x e w = (x e w).bind fun d w1 => match insAt w1 d with
  | some (_, c', fs) => if c' = c then (match fs.lookup f with
    | some v => .ok v w1
    | none => .bad) else .bad
  | none => .bad := rfl
theorem sFld_ap (c f xo xv e w) : sFld c f xo xv e w = (xv e w).st e fun y w1 => (xo e w1).st e fun d w2 => match insAt w2 d with
  | some (l, c', fs) => if c' = c ∧ fs.length < 1000 then .ok (.nx e) (w2.set l (.ins c (putD f y fs))) else .bad
  | none => .bad := rfl
theorem xMeth_ap (c m f xo xs e w) : xMeth c m f xo xs e w = (xo e w).bind fun d w1 => match insAt w1 d with
  | some (_, c', fs) => if c' = c ∧ fs.lookup m = none then (xs e w1).bind fun ds w2 => f (d :: ds) w2 else .bad
  | none => .bad := rfl
/-- a field, by hand -/
theorem fld_of {c f : Str} {x : XM} {e : En} {w w1 : Wd} {l : Nat} {fs : List (Str × DV)} {v : DV} (hx : x e w = .ok (.loc l) w1) (hi : w1[l]? = some (.ins c fs)) (hf : fs.lookup f = some v) : xFld c f x e w = .ok v w1 := by
  rw [xFld_ap, hx, bind_ok, insAt_loc, hi]
  simp only [if_true, hf]
theorem setF_of {c f : Str} {xo xv : XM} {e : En} {w w1 w2 : Wd} {l : Nat} {fs : List (Str × DV)} {v : DV} (hv : xv e w = .ok v w1) (hx : xo e w1 = .ok (.loc l) w2) (hi : w2[l]? = some (.ins c fs)) (hl : fs.length < 1000) :
    sFld c f xo xv e w = .ok (.nx e) (w2.set l (.ins c (putD f v fs))) := by
  rw [sFld_ap, hv, st_ok, hx, st_ok, insAt_loc, hi]
  simp only [true_and, hl, if_true]
theorem meth_of {c m : Str} {f : FW} {xo : XM} {xs : AM} {e : En} {w w1 w2 : Wd} {l : Nat} {fs : List (Str × DV)} {ds : List DV} (hx : xo e w = .ok (.loc l) w1) (hi : w1[l]? = some (.ins c fs)) (hf : fs.lookup m = none) (ha : xs e w1 = .ok ds w2) :
    xMeth c m f xo xs e w = f (.loc l :: ds) w2 := by
  rw [xMeth_ap, hx, bind_ok, insAt_loc, hi]
  simp only [true_and, hf, if_true, ha, bind_ok]
theorem make_of {c : Str} {f : FW} {xs : AM} {e : En} {w w1 w2 : Wd} {ds : List DV} (ha : xs e w = .ok ds w1) (hf : f (.loc w1.length :: ds) (w1 ++ [.ins c []]) = .ok (.d .none) w2) : xMake c f xs e w = .ok (.loc w1.length) w2 := by
  show ((xs e w).bind fun ds w1 => match f (.loc w1.length :: ds) (w1 ++ [.ins c []]) with
    | .ok (.d .none) w2 => Rs.ok (DV.loc w1.length) w2
    | .ex c' w2 => .ex c' w2
    | _ => .bad) = _
  rw [ha, bind_ok, hf]
end RK

set_option Elab.async false
set_option linter.all false
set_option maxRecDepth 100000
set_option maxHeartbeats 4000000
namespace LW
open PySem PySem.Spec PyProof.Rows L2 RK
def cell (ns : List Int) (k : Nat) : Int := (ns[k]?).getD 0
theorem cell_at (ns : List Int) (k : Nat) : f_law_cell_at [.list (ns.map .int), .int (k : Int)] = .ok (.int (cell ns k)) := by
  unfold f_law_cell_at sm_law_cell_at cell
  by_cases h : k < ns.length
  · have h2 : (k : Int) < (ns.length : Int) := by omega
    simp [h2, at_lit, h]
  · have h2 : ¬ (k : Int) < (ns.length : Int) := by omega
    simp [h2, h]
theorem c0 (ns : List Int) : f_law_cell_at [.list (ns.map .int), .int 0] = .ok (.int (cell ns 0)) := cell_at ns 0
theorem c1 (ns : List Int) : f_law_cell_at [.list (ns.map .int), .int 1] = .ok (.int (cell ns 1)) := cell_at ns 1
theorem c2 (ns : List Int) : f_law_cell_at [.list (ns.map .int), .int 2] = .ok (.int (cell ns 2)) := cell_at ns 2
theorem c3 (ns : List Int) : f_law_cell_at [.list (ns.map .int), .int 3] = .ok (.int (cell ns 3)) := cell_at ns 3
theorem c4 (ns : List Int) : f_law_cell_at [.list (ns.map .int), .int 4] = .ok (.int (cell ns 4)) := cell_at ns 4
theorem c5 (ns : List Int) : f_law_cell_at [.list (ns.map .int), .int 5] = .ok (.int (cell ns 5)) := cell_at ns 5
theorem at_mod {α : Type} (l : List α) (i : Int) (n : Int) (hn : n = l.length) (h0 : 0 < n) : ∃ x ∈ l, atI l (i % n) = some x := by
  have h1 := Int.emod_nonneg i (by omega : n ≠ 0)
  have h2 := Int.emod_lt_of_pos i h0
  have h3 : (i % n).toNat < l.length := by omega
  rw [at_pos _ _ h1, List.getElem?_eq_getElem h3]
  exact ⟨_, List.getElem_mem h3, rfl⟩
theorem at_modI (l : List Int) (i : Int) (n : Int) (hn : n = l.length) (h0 : 0 < n) : ∃ y ∈ l, atI (l.map PyData.int) (i % n) = some (.int y) := by
  obtain ⟨x, hx, e⟩ := at_mod (l.map PyData.int) i n (by simp [hn]) h0
  obtain ⟨y, hy, rfl⟩ := List.mem_map.mp hx
  exact ⟨y, hy, e⟩
end LW

set_option Elab.async false
set_option linter.all false
set_option maxRecDepth 100000
set_option maxHeartbeats 4000000
namespace LW
open PySem PySem.Spec PyProof.Rows L2 RK
theorem whole_int (i) : f_is_whole [.int i] = .ok (.bool true) := rfl
theorem whole_bool (i) : f_is_whole [.bool i] = .ok (.bool false) := rfl
theorem whole_str (i) : f_is_whole [.str i] = .ok (.bool false) := rfl
theorem whole_none : f_is_whole [.none] = .ok (.bool false) := rfl
theorem whole_tup (i) : f_is_whole [.tuple i] = .ok (.bool false) := rfl
theorem within_int (i a b) : f_is_within [.int i, .int a, .int b] = .ok (.bool (decide (a ≤ i) && decide (i ≤ b))) := by
  unfold f_is_within sm_is_within
  simp [whole_int]
theorem within_no (x a b) (h : f_is_whole [x] = .ok (.bool false)) : f_is_within [x, .int a, .int b] = .ok (.bool false) := by
  unfold f_is_within sm_is_within
  simp [h]
def leap (y : Int) : Bool := decide (y % 4 = 0) && !decide (y % 100 = 0) || decide (y % 400 = 0)
theorem is_leap (y) : f_is_leap [.int y] = .ok (.bool (leap y)) := by
  unfold f_is_leap sm_is_leap leap
  simp
def MS : List Int := [31, 28, 31, 30, 31, 30, 31, 31, 30, 31, 30, 31]
def mlen (y m : Int) : Int := if m = 2 ∧ leap y = true then 29 else (MS[(m - 1).toNat]?).getD 0
theorem ms_at (m : Int) (h1 : 1 ≤ m) (h2 : m ≤ 12) : atI (MS.map PyData.int) (m - 1) = some (.int ((MS[(m - 1).toNat]?).getD 0)) := by
  have h : m = 1 ∨ m = 2 ∨ m = 3 ∨ m = 4 ∨ m = 5 ∨ m = 6 ∨ m = 7 ∨ m = 8 ∨ m = 9 ∨ m = 10 ∨ m = 11 ∨ m = 12 := by omega
  rcases h with h | h | h | h | h | h | h | h | h | h | h | h <;> subst h <;> rfl
theorem length_of (y m : Int) (h1 : 1 ≤ m) (h2 : m ≤ 12) : f_length_of [.int y, .int m] = .ok (.int (mlen y m)) := by
  have e : atI ([PyData.int 31, .int 28, .int 31, .int 30, .int 31, .int 30, .int 31, .int 31, .int 30, .int 31, .int 30, .int 31]) (m - 1) = some (.int ((MS[(m - 1).toNat]?).getD 0)) := ms_at m h1 h2
  unfold f_length_of sm_length_of mlen
  by_cases hm : m = 2
  · by_cases hl : leap y = true <;> simp [hm, is_leap, hl] <;> rfl
  · simp [hm, is_leap, e]
theorem month_ok (y m : Int) (h1 : 1 ≤ m) (h2 : m ≤ 12) (h3 : 2000 ≤ y) (h4 : y ≤ 2273) : f_month_days [.int y, .int m] = .ok (.int (mlen y m)) := by
  unfold f_month_days sm_month_days
  simp [within_int, h1, h2, h3, h4, length_of]
theorem month_bad (y m : Int) (h : ¬ (2000 ≤ y ∧ y ≤ 2273 ∧ 1 ≤ m ∧ m ≤ 12)) : f_month_days [.int y, .int m] = .ex (PySem.Str.ofString "BadDay") := by
  unfold f_month_days sm_month_days
  by_cases a : 2000 ≤ y <;> by_cases b : y ≤ 2273 <;> by_cases c : 1 ≤ m <;> by_cases d : m ≤ 12 <;> simp [within_int, a, b, c, d] <;> exact (h ⟨a, b, c, d⟩).elim
theorem month_noM (y : Int) (x) (hx : f_is_whole [x] = .ok (.bool false)) : f_month_days [.int y, x] = .ex (PySem.Str.ofString "BadDay") := by
  unfold f_month_days sm_month_days
  simp [within_int, within_no, hx]
theorem month_noY (x) (m : Int) (hx : f_is_whole [x] = .ok (.bool false)) : f_month_days [x, .int m] = .ex (PySem.Str.ofString "BadDay") := by
  unfold f_month_days sm_month_days
  simp [within_int, within_no, hx]
theorem mlen_cases (y m : Int) (h1 : 1 ≤ m) (h2 : m ≤ 12) : 28 ≤ mlen y m ∧ mlen y m ≤ 31 := by
  have h : m = 1 ∨ m = 2 ∨ m = 3 ∨ m = 4 ∨ m = 5 ∨ m = 6 ∨ m = 7 ∨ m = 8 ∨ m = 9 ∨ m = 10 ∨ m = 11 ∨ m = 12 := by omega
  unfold mlen
  rcases h with h | h | h | h | h | h | h | h | h | h | h | h <;> subst h <;> by_cases l : leap y = true <;> simp [l, MS]
end LW

set_option Elab.async false
set_option linter.all false
set_option maxRecDepth 100000
set_option maxHeartbeats 4000000
namespace LW
open PySem PySem.Spec PyProof.Rows L2 RK
def lp (y : Int) : Int := if leap y = true then 1 else 0
def leaps (y : Int) : Int := (y - 1) / 4 - (y - 1) / 100 + (y - 1) / 400 - 484
def ystart (y : Int) : Int := 365 * (y - 2000) + leaps y
theorem leaps_ahead (y) : f_leaps_ahead [.int y] = .ok (.int (leaps y)) := by
  unfold f_leaps_ahead sm_leaps_ahead leaps
  simp
theorem year_start (y) : f_year_start [.int y] = .ok (.int (ystart y)) := by
  unfold f_year_start sm_year_start ystart
  simp [leaps_ahead]
theorem ystart_succ (y) : ystart (y + 1) = ystart y + 365 + lp y := by
  have h : lp y = (if y % 4 = 0 ∧ y % 100 ≠ 0 ∨ y % 400 = 0 then 1 else 0) := by
    unfold lp leap
    simp
  rw [h]
  unfold ystart leaps
  split <;> omega
theorem ystart_mono (y z : Int) (h : y ≤ z) : ystart y ≤ ystart z := by
  unfold ystart leaps
  omega
theorem lp_01 (y) : lp y = 0 ∨ lp y = 1 := by unfold lp; split <;> simp
def PT : List Int := [0, 31, 59, 90, 120, 151, 181, 212, 243, 273, 304, 334, 365]
/-- days of the year ahead of month m -/
def mst (y m : Int) : Int := (PT[(m - 1).toNat]?).getD 0 + (if 2 < m then lp y else 0)
theorem mst_1 (y) : mst y 1 = 0 := by simp [mst, PT]
theorem mst_13 (y) : mst y 13 = 365 + lp y := by simp [mst, PT]
theorem mst_succ (y m : Int) (h1 : 1 ≤ m) (h2 : m ≤ 12) : mst y (m + 1) = mst y m + mlen y m := by
  have h : m = 1 ∨ m = 2 ∨ m = 3 ∨ m = 4 ∨ m = 5 ∨ m = 6 ∨ m = 7 ∨ m = 8 ∨ m = 9 ∨ m = 10 ∨ m = 11 ∨ m = 12 := by omega
  unfold mlen mst lp
  rcases h with h | h | h | h | h | h | h | h | h | h | h | h <;> subst h <;> by_cases l : leap y = true <;> simp [l, MS, PT]
theorem mst_mono (y : Int) : ∀ (k : Nat) (m : Int), 1 ≤ m → m + k ≤ 13 → mst y m ≤ mst y (m + k) := by
  intro k
  induction k with
  | zero => intro m _ _; simp
  | succ k ih =>
    intro m h1 h2
    have a := ih m h1 (by omega)
    have b := mst_succ y (m + k) (by omega) (by omega)
    have c := mlen_cases y (m + k) (by omega) (by omega)
    rw [show m + ((k + 1 : Nat) : Int) = m + (k : Int) + 1 by omega]
    omega
structure IsDate (d y m n : Int) : Prop where
  y0 : 2000 ≤ y
  m1 : 1 ≤ m
  m12 : m ≤ 12
  n1 : 1 ≤ n
  nl : n ≤ mlen y m
  e : d = ystart y + mst y m + n - 1
theorem IsDate.lt {d y m n} (h : IsDate d y m n) : d < ystart (y + 1) := by
  have a := mst_succ y m h.m1 h.m12
  have b := mst_mono y (12 - m).toNat (m + 1) (by have := h.m1; omega) (by have := h.m12; omega)
  have c := h.m12
  rw [show m + 1 + ((12 - m).toNat : Int) = 13 by omega, mst_13] at b
  have := h.e
  have := h.nl
  rw [ystart_succ]
  omega
theorem IsDate.ge {d y m n} (h : IsDate d y m n) : ystart y ≤ d := by
  have b := mst_mono y (m - 1).toNat 1 (by omega) (by have := h.m12; have := h.m1; omega)
  have := h.m1
  rw [show (1 : Int) + ((m - 1).toNat : Int) = m by omega, mst_1] at b
  have := h.e
  have := h.n1
  omega
theorem IsDate.uniq {d y m n y' m' n'} (h : IsDate d y m n) (k : IsDate d y' m' n') : y = y' ∧ m = m' ∧ n = n' := by
  have e1 : y = y' := by
    rcases Int.lt_trichotomy y y' with c | c | c
    · have := ystart_mono (y + 1) y' (by omega)
      have := h.lt
      have := k.ge
      omega
    · exact c
    · have := ystart_mono (y' + 1) y (by omega)
      have := k.lt
      have := h.ge
      omega
  subst e1
  have far : ∀ {m n m' n' : Int}, IsDate d y m n → IsDate d y m' n' → m < m' → False := by
    intro m n m' n' h k c
    have a := mst_succ y m h.m1 h.m12
    have b := mst_mono y (m' - (m + 1)).toNat (m + 1) (by have := h.m1; omega) (by have := k.m12; omega)
    rw [show m + 1 + ((m' - (m + 1)).toNat : Int) = m' by omega] at b
    have := h.e
    have := k.e
    have := h.nl
    have := k.n1
    omega
  have e2 : m = m' := by
    rcases Int.lt_trichotomy m m' with c | c | c
    · exact (far h k c).elim
    · exact c
    · exact (far k h c).elim
  subst e2
  have := h.e
  have := k.e
  exact ⟨rfl, rfl, by omega⟩
theorem IsDate.y_le {d y m n} (h : IsDate d y m n) (hd : d ≤ 99999) : y ≤ 2273 := by
  have a := h.ge
  have b : ystart 2274 = 100077 := by decide
  by_cases c : y ≤ 2273
  · exact c
  · have := ystart_mono 2274 y (by omega)
    omega
/-- the day after -/
def nxt : Int × Int × Int → Int × Int × Int
  | (y, m, n) => if n < mlen y m then (y, m, n + 1) else if m < 12 then (y, m + 1, 1) else (y + 1, 1, 1)
def dn : Nat → Int × Int × Int
  | 0 => (2000, 1, 1)
  | k + 1 => nxt (dn k)
theorem IsDate.next {d y m n} (h : IsDate d y m n) : IsDate (d + 1) (nxt (y, m, n)).1 (nxt (y, m, n)).2.1 (nxt (y, m, n)).2.2 := by
  obtain ⟨a, b, c, d1, e, f⟩ := h
  unfold nxt
  by_cases h1 : n < mlen y m
  · simp only [if_pos h1]
    exact ⟨a, b, c, by omega, by omega, by omega⟩
  · simp only [if_neg h1]
    by_cases h2 : m < 12
    · simp only [if_pos h2]
      have := mst_succ y m b c
      have := mlen_cases y (m + 1) (by omega) (by omega)
      exact ⟨a, by omega, by omega, by omega, by omega, by omega⟩
    · simp only [if_neg h2]
      obtain rfl : m = 12 := by omega
      have h3 := mst_succ y 12 b c
      have h4 := mst_13 y
      have h5 := ystart_succ y
      have h6 := mst_1 (y + 1)
      have := mlen_cases (y + 1) 1 (by omega) (by omega)
      rw [show (12 : Int) + 1 = 13 by omega] at h3
      exact ⟨by omega, by omega, by omega, by omega, by omega, by omega⟩
theorem dn_is (k : Nat) : IsDate k (dn k).1 (dn k).2.1 (dn k).2.2 := by
  induction k with
  | zero => exact ⟨by decide, by decide, by decide, by decide, by decide, by decide⟩
  | succ k ih => exact ih.next
theorem IsDate.dn {d y m n} (h : IsDate d y m n) : dn d.toNat = (y, m, n) := by
  have g := h.ge
  have : (0 : Int) ≤ ystart y := by
    have := ystart_mono 2000 y h.y0
    have : ystart 2000 = 0 := by decide
    omega
  have k := dn_is d.toNat
  rw [show ((d.toNat : Nat) : Int) = d by omega] at k
  obtain ⟨a, b, c⟩ := k.uniq h
  rw [← a, ← b, ← c]
theorem sure_ok (d : Int) (h1 : 0 ≤ d) (h2 : d ≤ 99999) : f_sure_day [.int d] = .ok .none := by
  unfold f_sure_day sm_sure_day
  simp [within_int, h1, h2]
theorem sure_bad (d : Int) (h : ¬ (0 ≤ d ∧ d ≤ 99999)) : f_sure_day [.int d] = .ex (PySem.Str.ofString "BadDay") := by
  unfold f_sure_day sm_sure_day
  by_cases a : 0 ≤ d <;> by_cases b : d ≤ 99999 <;> simp [within_int, a, b]
  exact (h ⟨a, b⟩).elim
theorem sure_no (x) (hx : f_is_whole [x] = .ok (.bool false)) : f_sure_day [x] = .ex (PySem.Str.ofString "BadDay") := by
  unfold f_sure_day sm_sure_day
  simp [within_no, hx]
def tup3 (t : Int × Int × Int) : PyData := .tuple [.int t.1, .int t.2.1, .int t.2.2]
theorem month_year (d : Int) (h1 : 0 ≤ d) (h2 : d ≤ 99999) : ∃ y : Int, 2000 ≤ y ∧ ystart y ≤ d ∧ d < ystart (y + 1) ∧
    whileF sm_month_of_l2 sm_month_of_l1 400 [some (.d (.int d)), some (.d (.int (2000 + d / 366))), none, none] [] = .ok (.nx [some (.d (.int d)), some (.d (.int y)), none, none]) [] := by
  obtain ⟨y, ⟨a, b⟩, t, e⟩ := while_spec (x := sm_month_of_l2) (s := sm_month_of_l1) (w := []) (fun y : Int => [some (.d (.int d)), some (.d (.int y)), none, none]) (fun y => 2000 ≤ y ∧ ystart y ≤ d) (fun y => decide (ystart (y + 1) ≤ d)) (fun y => y + 1) (fun y => (2300 - y).toNat)
    (by
      intro y _
      unfold sm_month_of_l2
      simp [year_start])
    (by
      intro y ⟨a, b⟩ t
      have t := of_decide_eq_true t
      refine ⟨by unfold sm_month_of_l1; simp, ⟨by omega, t⟩, ?_⟩
      have : y < 2300 := by
        by_cases c : y < 2300
        · exact c
        · have := ystart_mono 2274 y (by omega)
          have b : ystart 2274 = 100077 := by decide
          omega
      omega) 400 (2000 + d / 366) ⟨by omega, by unfold ystart leaps; omega⟩ (by omega)
  exact ⟨y, a, b, by simpa using t, e⟩
theorem month_month (d y : Int) (h2 : d - ystart y < 365 + lp y) (h1 : ystart y ≤ d) : ∃ m n : Int, 1 ≤ m ∧ m ≤ 12 ∧ 0 ≤ n ∧ n < mlen y m ∧ d = ystart y + mst y m + n ∧
    whileF sm_month_of_l4 sm_month_of_l3 400 [some (.d (.int d)), some (.d (.int y)), some (.d (.int (d - ystart y))), some (.d (.int 1))] [] = .ok (.nx [some (.d (.int d)), some (.d (.int y)), some (.d (.int n)), some (.d (.int m))]) [] := by
  obtain ⟨⟨n, m⟩, ⟨a, b, c, f⟩, t, e⟩ := while_spec (x := sm_month_of_l4) (s := sm_month_of_l3) (w := []) (fun (p : Int × Int) => [some (.d (.int d)), some (.d (.int y)), some (.d (.int p.1)), some (.d (.int p.2))])
    (fun p => 1 ≤ p.2 ∧ p.2 ≤ 12 ∧ 0 ≤ p.1 ∧ d = ystart y + mst y p.2 + p.1) (fun p => decide (mlen y p.2 ≤ p.1)) (fun p => (p.1 - mlen y p.2, p.2 + 1)) (fun p => (13 - p.2).toNat)
    (by
      intro ⟨n, m⟩ ⟨a, b, c, f⟩
      unfold sm_month_of_l4
      simp only at a b c f
      simp [length_of, a, b])
    (by
      intro ⟨n, m⟩ ⟨a, b, c, f⟩ t
      simp only at a b c f t
      have t := of_decide_eq_true t
      have g : m < 12 := by
        by_cases g : m < 12
        · exact g
        · obtain rfl : m = 12 := by omega
          have h3 := mst_succ y 12 a b
          have h4 := mst_13 y
          rw [show (12 : Int) + 1 = 13 by omega] at h3
          omega
      have h3 := mst_succ y m a b
      refine ⟨by unfold sm_month_of_l3; simp [length_of, a, b], ⟨?_, ?_, ?_, ?_⟩, ?_⟩ <;> simp only <;> omega) 400 (d - ystart y, 1) ⟨by simp, by simp, by simp only; omega, by simp only [mst_1]; omega⟩ (by show (13 - (1 : Int)).toNat < 400; decide)
  exact ⟨m, n, a, b, c, by simpa using t, f, e⟩
theorem month_of_is (d : Int) (h1 : 0 ≤ d) (h2 : d ≤ 99999) : ∃ y m n, IsDate d y m n ∧ f_month_of [.int d] = .ok (.tuple [.int y, .int m, .int n]) := by
  obtain ⟨y, a, b, c, e1⟩ := month_year d h1 h2
  have hs := ystart_succ y
  obtain ⟨m, n, a2, b2, c2, f2, g2, e2⟩ := month_month d y (by omega) b
  refine ⟨y, m, n + 1, ⟨a, a2, b2, by omega, by omega, by omega⟩, ?_⟩
  unfold f_month_of sm_month_of sm_month_of_t1 sm_month_of_t2 sm_month_of_t3 sm_month_of_t4 sm_month_of_t5 sm_month_of_t6
  simp [sure_ok, h1, h2, e1, e2, year_start]
theorem month_of_ok (d : Int) (h1 : 0 ≤ d) (h2 : d ≤ 99999) : f_month_of [.int d] = .ok (tup3 (dn d.toNat)) := by
  obtain ⟨y, m, n, h, e⟩ := month_of_is d h1 h2
  rw [e, h.dn]
  rfl
theorem month_of_bad (x) (h : f_sure_day [x] = .ex (PySem.Str.ofString "BadDay")) : f_month_of [x] = .ex (PySem.Str.ofString "BadDay") := by
  unfold f_month_of sm_month_of
  simp [h]
end LW

set_option Elab.async false
set_option linter.all false
set_option maxRecDepth 100000
set_option maxHeartbeats 4000000
namespace LW
open PySem PySem.Spec PyProof.Rows L2 RK
theorem stretch_ok (r s k L : Int) (h1 : 0 ≤ r) (h2 : r ≤ 1000000000000000) (h3 : 0 < L) (h4 : L < 1073741824) : f_stretch [.int r, .int s, .int k, .int L] = .ok (.int (r * (s + k - 1) / L - r * (s - 1) / L)) := by
  unfold f_stretch sm_stretch
  have a : -18446744073709551616 < r := by omega
  have b : r < 18446744073709551616 := by omega
  simp [a, b, h3, h4]
/-- day d's part of the rent r -/
def pv (r : Int) (d : Nat) : Int := r * (dn d).2.2 / mlen (dn d).1 (dn d).2.1 - r * ((dn d).2.2 - 1) / mlen (dn d).1 (dn d).2.1
theorem pv_0 (r : Int) (d : Nat) (h1 : 0 ≤ r) : 0 ≤ pv r d := by
  have h := dn_is d
  have c := mlen_cases (dn d).1 _ h.m1 h.m12
  have : r * ((dn d).2.2 - 1) / mlen (dn d).1 (dn d).2.1 ≤ r * (dn d).2.2 / mlen (dn d).1 (dn d).2.1 :=
    Int.ediv_le_ediv (by omega) (Int.mul_le_mul_of_nonneg_left (by omega) h1)
  unfold pv
  omega
theorem pv_le (r : Int) (d : Nat) (h1 : 0 ≤ r) : pv r d ≤ r := by
  have h := dn_is d
  have c := mlen_cases (dn d).1 _ h.m1 h.m12
  have a : r * (dn d).2.2 ≤ r * ((dn d).2.2 - 1) + r * mlen (dn d).1 (dn d).2.1 := by
    have : r * 1 ≤ r * mlen (dn d).1 (dn d).2.1 := Int.mul_le_mul_of_nonneg_left (by omega) h1
    rw [Int.mul_sub]
    omega
  have b := Int.ediv_le_ediv (show 0 < mlen (dn d).1 (dn d).2.1 by omega) a
  rw [Int.add_mul_ediv_right _ _ (by omega)] at b
  unfold pv
  omega
end LW

set_option Elab.async false
set_option linter.all false
set_option maxRecDepth 100000
set_option maxHeartbeats 4000000
namespace LW
open PySem PySem.Spec PyProof.Rows L2 RK
theorem law_money_ok (c : Int) : ∃ r : Int, 0 ≤ r ∧ r ≤ 1000000000 ∧ f_law_money [.int c] = .ok (.int r) := by
  unfold f_law_money sm_law_money
  by_cases h : c % 4 = 0
  · obtain ⟨y, hy, e⟩ := at_modI [0, 1, 1000000000, 999999999, 29, 31] (c / 4) 6 rfl (by omega)
    simp only [List.map] at e
    refine ⟨y, ?_, ?_, ?_⟩
    · simp only [List.mem_cons, List.not_mem_nil, or_false] at hy
      omega
    · simp only [List.mem_cons, List.not_mem_nil, or_false] at hy
      omega
    · simp [h, e]
  · by_cases h1 : c % 4 = 1
    · exact ⟨c / 4 * 7919 % 1000000001, by omega, by omega, by simp [h, h1]⟩
    · exact ⟨c / 4 % 200000, by omega, by omega, by simp [h, h1]⟩
end LW

set_option Elab.async false
set_option linter.all false
set_option maxRecDepth 100000
set_option maxHeartbeats 4000000
namespace LW
open PySem PySem.Spec PyProof.Rows L2 RK
def tup2 (p : Int × Int) : PyData := .tuple [.int p.1, .int p.2]
def optd : Option (Int × Int) → PyData
  | none => .none
  | some p => tup2 p
def hstep (d : Int) : Option (Int × Int) → Int × Int → Option (Int × Int)
  | none, p => if p.1 ≤ d then some p else none
  | some q, p => if p.1 ≤ d ∧ q.1 ≤ p.1 then some p else some q
/-- the pair that holds -/
def hld (rows : List (Int × Int)) (d : Int) : Option (Int × Int) := rows.foldl (hstep d) none
theorem shp_tup2 (p) : Shp 1 (tup2 p) := Shp.tuple (n := 0) fun x h => by
  simp only [List.mem_cons, List.not_mem_nil, or_false] at h
  rcases h with rfl | rfl <;> exact Shp.int _ _
theorem shp_optd (p) : Shp 1 (optd p) := by
  cases p with
  | none => exact Shp.none _
  | some p => exact shp_tup2 p
theorem shp_rows (rows : List (Int × Int)) : Shp 2 (.list (rows.map tup2)) := Shp.list fun x h => by
  obtain ⟨p, _, rfl⟩ := List.mem_map.mp h
  exact shp_tup2 p
@[simp] theorem sh_tup2 (p) : SeqAt.shaped (tup2 p) = true := (shp_tup2 p).ok (by decide)
@[simp] theorem sh_optd (p) : SeqAt.shaped (optd p) = true := (shp_optd p).ok (by decide)
@[simp] theorem sh_rows (rows : List (Int × Int)) : SeqAt.shaped (.list (rows.map tup2)) = true := (shp_rows rows).ok (by decide)
@[simp] theorem isNon_optd (p) : isNon (.d (optd p)) = p.isNone := by cases p <;> rfl
def phEnv (rows : List (Int × Int)) (d : Int) (a : Option (Int × Int) × Option DV) : En := [some (.d (.list (rows.map tup2))), some (.d (.int d)), some (.d (optd a.1)), a.2]
theorem ph_loop (rows : List (Int × Int)) (d : Int) (xs : List (Int × Int)) (a : Option (Int × Int) × Option DV) :
    forD (gNm 3) sm_pair_held_l1 (xs.map tup2) (phEnv rows d a) [] = .ok (.nx (phEnv rows d (xs.foldl (fun a p => (hstep d a.1 p, some (.d (tup2 p)))) a))) [] := by
  refine forM_spec tup2 (phEnv rows d) (fun _ => []) (fun a p => (hstep d a.1 p, some (.d (tup2 p)))) xs a ?_
  intro ⟨b, k⟩ p _
  refine ⟨_, rfl, ?_⟩
  unfold sm_pair_held_l1 phEnv
  by_cases h : p.1 ≤ d
  · cases b with
    | none => simp [hstep, h, tup2, optd]
    | some q =>
      by_cases h2 : q.1 ≤ p.1 <;> simp [hstep, h, h2, tup2, optd]
  · cases b with
    | none => simp [hstep, h, tup2, optd]
    | some q => simp [hstep, h, tup2, optd]
theorem fold_fst (d : Int) (xs : List (Int × Int)) : ∀ a : Option (Int × Int) × Option DV, (xs.foldl (fun a p => (hstep d a.1 p, some (DV.d (tup2 p)))) a).1 = xs.foldl (hstep d) a.1 := by
  induction xs with
  | nil => intro a; rfl
  | cons x xs ih => intro a; rw [List.foldl_cons, List.foldl_cons, ih]
theorem pair_held_ok (rows : List (Int × Int)) (d : Int) : f_pair_held [.list (rows.map tup2), .int d] = .ok (optd (hld rows d)) := by
  have e := ph_loop rows d rows (none, none)
  have f := fold_fst d rows (none, none)
  unfold f_pair_held sm_pair_held
  unfold phEnv at e
  simp only [f] at e
  simp
  simp [show (PyData.none) = optd none from rfl, e, hld]
theorem held_ok (rows : List (Int × Int)) (d : Int) : f_held [.list (rows.map tup2), .int d] = .ok (match hld rows d with | none => .none | some p => .int p.2) := by
  unfold f_held sm_held
  cases h : hld rows d with
  | none => simp [pair_held_ok, h, optd]
  | some p => simp [pair_held_ok, h, optd, tup2]
end LW

set_option Elab.async false
set_option linter.all false
set_option maxRecDepth 100000
set_option maxHeartbeats 4000000
namespace LW
open PySem PySem.Spec PyProof.Rows L2 RK
def mix1 (a k : Int) : Int := (a * 48271 + k * 69621 + 11) % 1000003
def mix (a k : Int) : Int := (mix1 a k * mix1 a k + 7 * mix1 a k + k) % 999983
theorem mix_ok (a k : Int) : f_law_mix [.int a, .int k] = .ok (.int (mix a k)) := by
  have h1 : 0 ≤ mix1 a k := by unfold mix1; omega
  have h2 : mix1 a k < 1000003 := by unfold mix1; omega
  have h3 : -18446744073709551616 < mix1 a k := by omega
  have h4 : mix1 a k < 18446744073709551616 := by omega
  have e : mix1 a k = (a * 48271 + k * 69621 + 11) % 1000003 := rfl
  unfold f_law_mix sm_law_mix mix
  simp [← e, h3, h4]
theorem mix_0 (a k : Int) : 0 ≤ mix a k := by unfold mix; omega
theorem mix_lt (a k : Int) : mix a k < 999983 := by unfold mix; omega
end LW

set_option Elab.async false
set_option linter.all false
set_option maxRecDepth 100000
set_option maxHeartbeats 4000000
namespace LW
open PySem PySem.Spec PyProof.Rows L2 RK
/-- what a gauge row tells on a day -/
def gv (G : List (Int × Int)) (d : Int) : Int := match hld G d with
  | some q => q.2
  | none => 0
theorem hfold_mem (d : Int) : ∀ (xs : List (Int × Int)) (b : Option (Int × Int)) (p : Int × Int), xs.foldl (hstep d) b = some p → p ∈ xs ∨ b = some p
  | [], b, p, h => .inr h
  | x :: xs, b, p, h => by
    rw [List.foldl_cons] at h
    rcases hfold_mem d xs _ p h with h | h
    · exact .inl (List.mem_cons_of_mem _ h)
    · cases b with
      | none =>
        simp only [hstep] at h
        split at h
        · cases h
          exact .inl (List.mem_cons_self ..)
        · cases h
      | some q =>
        simp only [hstep] at h
        split at h
        · cases h
          exact .inl (List.mem_cons_self ..)
        · exact .inr h
theorem hld_mem {rows : List (Int × Int)} {d : Int} {p : Int × Int} (h : hld rows d = some p) : p ∈ rows := by
  rcases hfold_mem d rows none p h with h | h
  · exact h
  · cases h
theorem hfold_some (d : Int) : ∀ (xs : List (Int × Int)) (p : Int × Int), ∃ q, xs.foldl (hstep d) (some p) = some q
  | [], p => ⟨p, rfl⟩
  | x :: xs, p => by
    rw [List.foldl_cons]
    simp only [hstep]
    split
    · exact hfold_some d xs _
    · exact hfold_some d xs _
theorem hld_zero (n : Int) (r : List (Int × Int)) (d : Int) (h : 0 ≤ d) : ∃ q, hld ((0, n) :: r) d = some q := by
  unfold hld
  rw [List.foldl_cons]
  simp only [hstep, if_pos h]
  exact hfold_some d r _
theorem cut_mem {α : Type} {xs : List α} {l u : Option Int} {x : α} (h : x ∈ cutL xs l u) : x ∈ xs := by
  unfold cutL at h
  exact List.mem_of_mem_drop (List.mem_of_mem_take h)
theorem cut_map {α β : Type} (f : α → β) (xs : List α) (l u : Option Int) : cutL (xs.map f) l u = (cutL xs l u).map f := by
  unfold cutL
  rw [List.length_map, List.map_take, List.map_drop]
theorem cut_1 {α : Type} (x : α) (xs : List α) : cutL (x :: xs) none (some 1) = [x] := by
  unfold cutL
  have e : HT.sIx (x :: xs).length (x :: xs).length (some 1) = 1 := by
    show (if (1 : Int) < 0 then ((1 : Int) + (((x :: xs).length : Nat) : Int)).toNat else min (1 : Int).toNat (x :: xs).length) = 1
    rw [if_neg (by omega), List.length_cons]
    show min 1 (xs.length + 1) = 1
    omega
  rw [e]
  rfl
end LW

set_option Elab.async false
set_option linter.all false
set_option maxRecDepth 100000
set_option maxHeartbeats 4000000
namespace LW
open PySem PySem.Spec PyProof.Rows L2 RK
def rnt (S G : List (Int × Int)) (d : Int) : Int := match hld S d with
  | some p => p.2 * gv G d / gv G p.1
  | none => 0
structure SOk (S : List (Int × Int)) : Prop where
  b : ∀ p ∈ S, 0 ≤ p.1 ∧ 0 ≤ p.2 ∧ p.2 ≤ 1000000000
structure GOk (G : List (Int × Int)) : Prop where
  h : ∀ d, 0 ≤ d → ∃ q, hld G d = some q
  b : ∀ p ∈ G, 1 ≤ p.2 ∧ p.2 ≤ 1000000
theorem gok_zero (n : Int) (r : List (Int × Int)) (h : ∀ p ∈ (0, n) :: r, 1 ≤ p.2 ∧ p.2 ≤ 1000000) : GOk ((0, n) :: r) := ⟨fun d => hld_zero n r d, h⟩
theorem gv_b {G : List (Int × Int)} (g : GOk G) (d : Int) (h : 0 ≤ d) : 1 ≤ gv G d ∧ gv G d ≤ 1000000 := by
  obtain ⟨q, e⟩ := g.h d h
  unfold gv
  rw [e]
  exact g.b q (hld_mem e)
theorem held_g {G : List (Int × Int)} (g : GOk G) (d : Int) (h : 0 ≤ d) : f_held [.list (G.map tup2), .int d] = .ok (.int (gv G d)) := by
  rw [held_ok]
  obtain ⟨q, e⟩ := g.h d h
  unfold gv
  rw [e]
theorem rent_on_ok {S G : List (Int × Int)} (s : SOk S) (g : GOk G) (d : Int) (h : 0 ≤ d) : f_rent_on [.list (S.map tup2), .list (G.map tup2), .int d] = .ok (.int (rnt S G d)) := by
  unfold f_rent_on sm_rent_on rnt
  cases e : hld S d with
  | none => simp [pair_held_ok, e, optd]
  | some p =>
    obtain ⟨b1, b2, b3⟩ := s.b p (hld_mem e)
    obtain ⟨g1, g2⟩ := gv_b g p.1 b1
    have x1 : -18446744073709551616 < p.2 := by omega
    have x2 : p.2 < 18446744073709551616 := by omega
    have x3 : 0 < gv G p.1 := by omega
    have x4 : gv G p.1 < 1073741824 := by omega
    simp [pair_held_ok, e, optd, tup2, held_g g, h, b1, x1, x2, x3, x4]
theorem rnt_0 {S G : List (Int × Int)} (s : SOk S) (g : GOk G) (d : Int) (h : 0 ≤ d) : 0 ≤ rnt S G d := by
  unfold rnt
  cases e : hld S d with
  | none => exact Int.le_refl _
  | some p =>
    obtain ⟨b1, b2, b3⟩ := s.b p (hld_mem e)
    obtain ⟨g1, g2⟩ := gv_b g p.1 b1
    obtain ⟨g3, g4⟩ := gv_b g d h
    exact Int.ediv_nonneg (Int.mul_nonneg b2 (by omega)) (by omega)
end LW

set_option Elab.async false
set_option linter.all false
set_option maxRecDepth 100000
set_option maxHeartbeats 4000000
namespace LW
open PySem PySem.Spec PyProof.Rows L2 RK
def ustep (d : Int) (l : Int) (p : Int × Int) : Int := if d < p.1 ∧ p.1 ≤ l then p.1 - 1 else l
def unch (rows : List (Int × Int)) (d l : Int) : Int := rows.foldl (ustep d) l
theorem ufold (d : Int) : ∀ (xs : List (Int × Int)) (l : Int), d ≤ l → d ≤ xs.foldl (ustep d) l ∧ xs.foldl (ustep d) l ≤ l ∧ ∀ p ∈ xs, ¬ (d < p.1 ∧ p.1 ≤ xs.foldl (ustep d) l)
  | [], l, h => ⟨h, Int.le_refl _, fun p m => by cases m⟩
  | x :: xs, l, h => by
    rw [List.foldl_cons]
    have h1 : d ≤ ustep d l x ∧ ustep d l x ≤ l ∧ ¬ (d < x.1 ∧ x.1 ≤ ustep d l x) := by
      unfold ustep
      split <;> omega
    obtain ⟨a, b, c⟩ := ufold d xs (ustep d l x) h1.1
    refine ⟨a, by omega, fun p m => ?_⟩
    rcases List.mem_cons.mp m with rfl | m
    · omega
    · exact c p m
def ucEnv (rows : List (Int × Int)) (d : Int) (a : Int × Option DV) : En := [some (.d (.list (rows.map tup2))), some (.d (.int d)), some (.d (.int a.1)), a.2]
theorem uc_loop (rows : List (Int × Int)) (d : Int) (xs : List (Int × Int)) (a : Int × Option DV) :
    forD (gNm 3) sm_unchanged_through_l1 (xs.map tup2) (ucEnv rows d a) [] = .ok (.nx (ucEnv rows d (xs.foldl (fun a p => (ustep d a.1 p, some (.d (tup2 p)))) a))) [] := by
  refine forM_spec tup2 (ucEnv rows d) (fun _ => []) (fun a p => (ustep d a.1 p, some (.d (tup2 p)))) xs a ?_
  intro ⟨b, k⟩ p _
  refine ⟨_, rfl, ?_⟩
  unfold sm_unchanged_through_l1 ucEnv ustep
  by_cases h : d < p.1
  · by_cases h2 : p.1 ≤ b <;> simp [h, h2, tup2]
  · simp [h, tup2]
theorem ufold_fst (d : Int) (xs : List (Int × Int)) : ∀ a : Int × Option DV, (xs.foldl (fun a p => (ustep d a.1 p, some (DV.d (tup2 p)))) a).1 = xs.foldl (ustep d) a.1 := by
  induction xs with
  | nil => intro a; rfl
  | cons x xs ih => intro a; rw [List.foldl_cons, List.foldl_cons, ih]
theorem unch_ok (rows : List (Int × Int)) (d l : Int) : f_unchanged_through [.list (rows.map tup2), .int d, .int l] = .ok (.int (unch rows d l)) := by
  have e := uc_loop rows d rows (l, none)
  have f := ufold_fst d rows (l, none)
  unfold f_unchanged_through sm_unchanged_through unch
  unfold ucEnv at e
  simp only [f] at e
  simp [e]
theorem hfold_same (d e : Int) : ∀ (xs : List (Int × Int)) (b : Option (Int × Int)), (∀ p ∈ xs, (p.1 ≤ d ↔ p.1 ≤ e)) → xs.foldl (hstep e) b = xs.foldl (hstep d) b
  | [], b, _ => rfl
  | x :: xs, b, h => by
    have h1 := h x (List.mem_cons_self ..)
    rw [List.foldl_cons, List.foldl_cons, hfold_same d e xs _ fun p m => h p (List.mem_cons_of_mem _ m)]
    congr 1
    cases b with
    | none => simp only [hstep, h1]
    | some q => simp only [hstep, h1]
theorem hld_same (rows : List (Int × Int)) (d e u : Int) (h1 : d ≤ e) (h2 : e ≤ u) (h : ∀ p ∈ rows, ¬ (d < p.1 ∧ p.1 ≤ u)) : hld rows e = hld rows d := by
  refine hfold_same d e rows none fun p m => ?_
  have := h p m
  omega
end LW

set_option Elab.async false
set_option linter.all false
set_option maxRecDepth 100000
set_option maxHeartbeats 4000000
namespace LW
open PySem PySem.Spec PyProof.Rows L2 RK
/-- what is owed for one day -/
def dueD (S G : List (Int × Int)) (d : Nat) : Int := pv (rnt S G d) d
/-- for n days from k on -/
def sumD (S G : List (Int × Int)) (k : Nat) : Nat → Int
  | 0 => 0
  | n + 1 => sumD S G k n + dueD S G (k + n)
theorem sumD_add (S G : List (Int × Int)) (k x : Nat) : ∀ y, sumD S G k (x + y) = sumD S G k x + sumD S G (k + x) y
  | 0 => by simp [sumD]
  | y + 1 => by
    rw [← Nat.add_assoc]
    show sumD S G k (x + y) + _ = _ + (sumD S G (k + x) y + _)
    rw [sumD_add S G k x y, Nat.add_assoc k x y, Int.add_assoc]
theorem rnt_same (S G : List (Int × Int)) (d e u : Int) (h1 : d ≤ e) (h2 : e ≤ u) (hS : ∀ p ∈ S, ¬ (d < p.1 ∧ p.1 ≤ u)) (hG : ∀ p ∈ G, ¬ (d < p.1 ∧ p.1 ≤ u)) : rnt S G e = rnt S G d := by
  unfold rnt gv
  rw [hld_same S d e u h1 h2 hS, hld_same G d e u h1 h2 hG]
theorem rnt_le {S G : List (Int × Int)} (s : SOk S) (g : GOk G) (d : Int) (h : 0 ≤ d) : rnt S G d ≤ 1000000000000000 := by
  unfold rnt
  cases e : hld S d with
  | none => simp
  | some p =>
    obtain ⟨b1, b2, b3⟩ := s.b p (hld_mem e)
    obtain ⟨g1, g2⟩ := gv_b g p.1 b1
    obtain ⟨g3, g4⟩ := gv_b g d h
    simp only
    have m1 : p.2 * gv G d ≤ 1000000000 * 1000000 := Int.mul_le_mul b3 g4 (by omega) (by omega)
    have m0 : 0 ≤ p.2 * gv G d := Int.mul_nonneg b2 (by omega)
    have m2 : p.2 * gv G d / gv G p.1 ≤ p.2 * gv G d := Int.ediv_le_self _ m0
    omega
/-- days in a row within a month -/
theorem dn_in (d : Nat) (y m n : Int) (h : dn d = (y, m, n)) (j : Nat) (hj : n + j ≤ mlen y m) : dn (d + j) = (y, m, n + j) := by
  have q := dn_is d
  rw [h] at q
  have := q.e
  have k : IsDate ((d + j : Nat) : Int) y m (n + j) := ⟨q.y0, q.m1, q.m12, by have := q.n1; simp only at this; omega, hj, by simp only at this; omega⟩
  have := k.dn
  rw [Int.toNat_natCast] at this
  exact this
theorem sum_in (S G : List (Int × Int)) (d : Nat) (y m n r : Int) (h : dn d = (y, m, n)) : ∀ c : Nat, n + c ≤ mlen y m + 1 → (∀ j : Nat, j < c → rnt S G ((d + j : Nat) : Int) = r) → sumD S G d c = r * (n + c - 1) / mlen y m - r * (n - 1) / mlen y m
  | 0, _, _ => by
    show (0 : Int) = _
    rw [show n + ((0 : Nat) : Int) - 1 = n - 1 by omega]
    omega
  | c + 1, hc, hr => by
    show sumD S G d c + dueD S G (d + c) = _
    rw [sum_in S G d y m n r h c (by omega) fun j hj => hr j (by omega)]
    unfold dueD pv
    rw [hr c (by omega), dn_in d y m n h c (by omega)]
    simp only
    rw [show n + ((c + 1 : Nat) : Int) - 1 = n + c by omega]
    omega
structure OwS where
  t : Int
  d : Int
  m : Option DV
  l : Option DV
  u : Option DV
def owEnv (S G : List (Int × Int)) (a b : Int) (x : OwS) : En := [some (.d (.list (S.map tup2))), some (.d (.list (G.map tup2))), some (.d (.int a)), some (.d (.int b)), some (.d (.int x.t)), some (.d (.int x.d)), x.m, x.l, x.u]
def owU (S G : List (Int × Int)) (b d : Int) : Int := unch G d (unch S d (if d + mlen (dn d.toNat).1 (dn d.toNat).2.1 - (dn d.toNat).2.2 < b then d + mlen (dn d.toNat).1 (dn d.toNat).2.1 - (dn d.toNat).2.2 else b))
def owStep (S G : List (Int × Int)) (b : Int) (x : OwS) : OwS :=
  ⟨x.t + (rnt S G x.d * ((dn x.d.toNat).2.2 + (owU S G b x.d - x.d + 1) - 1) / mlen (dn x.d.toNat).1 (dn x.d.toNat).2.1 - rnt S G x.d * ((dn x.d.toNat).2.2 - 1) / mlen (dn x.d.toNat).1 (dn x.d.toNat).2.1), owU S G b x.d + 1, some (.d (tup3 (dn x.d.toNat))), some (.d (.int (mlen (dn x.d.toNat).1 (dn x.d.toNat).2.1))), some (.d (.int (owU S G b x.d)))⟩
theorem ow_body {S G : List (Int × Int)} (s : SOk S) (g : GOk G) (a b : Int) (x : OwS) (h0 : 0 ≤ x.d) (h1 : x.d ≤ 99999) : sm_owed_l1 (owEnv S G a b x) [] = .ok (.nx (owEnv S G a b (owStep S G b x))) [] := by
  have m := month_of_ok x.d h0 h1
  have q := dn_is x.d.toNat
  have l := month_ok _ _ q.m1 q.m12 q.y0 (q.y_le (by omega))
  have c := mlen_cases (dn x.d.toNat).1 _ q.m1 q.m12
  have r := rent_on_ok s g x.d h0
  have r0 := rnt_0 s g x.d h0
  have r1 := rnt_le s g x.d h0
  have st := fun k => stretch_ok (rnt S G x.d) (dn x.d.toNat).2.2 k (mlen (dn x.d.toNat).1 (dn x.d.toNat).2.1) r0 r1 (by omega) (by omega)
  unfold sm_owed_l1 owEnv owStep owU
  simp [m, tup3, l, unch_ok, r, st]
theorem owed_ok {S G : List (Int × Int)} (s : SOk S) (g : GOk G) (a : Nat) (b : Int) (hb : b ≤ 99999) : f_owed [.list (S.map tup2), .list (G.map tup2), .int (a : Int), .int b] = .ok (.int (sumD S G a (b + 1 - a).toNat)) := by
  obtain ⟨x, ⟨p1, p2, p3⟩, t, e⟩ := while_spec (x := sm_owed_l2) (s := sm_owed_l1) (w := []) (owEnv S G a b) (fun x => (a : Int) ≤ x.d ∧ (x.d ≤ b + 1 ∨ x.d = a) ∧ x.t = sumD S G a (x.d - a).toNat) (fun x => decide (x.d ≤ b)) (owStep S G b) (fun x => (b + 1 - x.d).toNat)
    (by
      intro x _
      unfold sm_owed_l2 owEnv
      simp)
    (by
      intro x ⟨p1, p2, p3⟩ t
      have t := of_decide_eq_true t
      have h0 : 0 ≤ x.d := by omega
      have q := dn_is x.d.toNat
      obtain ⟨y, m, n, hd⟩ : ∃ y m n, dn x.d.toNat = (y, m, n) := ⟨_, _, _, rfl⟩
      rw [hd] at q
      have q1 := q.n1
      have q2 := q.nl
      simp only at q1 q2
      have hU0 : x.d ≤ (if x.d + mlen y m - n < b then x.d + mlen y m - n else b) ∧ (if x.d + mlen y m - n < b then x.d + mlen y m - n else b) ≤ b ∧ (if x.d + mlen y m - n < b then x.d + mlen y m - n else b) ≤ x.d + mlen y m - n := by
        split <;> omega
      have f1 := ufold x.d S _ hU0.1
      have f2 := ufold x.d G _ f1.1
      have hu : owU S G b x.d = List.foldl (ustep x.d) (List.foldl (ustep x.d) (if x.d + mlen y m - n < b then x.d + mlen y m - n else b) S) G := by
        unfold owU unch
        rw [hd]
      rw [← hu] at f2
      obtain ⟨f21, f22, f23⟩ := f2
      obtain ⟨f11, f12, f13⟩ := f1
      have hS : ∀ p ∈ S, ¬ (x.d < p.1 ∧ p.1 ≤ owU S G b x.d) := fun p hp => by
        have := f13 p hp
        omega
      refine ⟨ow_body s g a b x h0 (by omega), ⟨?_, .inl ?_, ?_⟩, ?_⟩
      · show (a : Int) ≤ owU S G b x.d + 1
        omega
      · show owU S G b x.d + 1 ≤ b + 1
        omega
      · show x.t + _ = sumD S G a (owU S G b x.d + 1 - a).toNat
        have e1 : (owU S G b x.d + 1 - a).toNat = (x.d - a).toNat + (owU S G b x.d + 1 - x.d).toNat := by omega
        have e2 : a + (x.d - a).toNat = x.d.toNat := by omega
        have si := sum_in S G x.d.toNat y m n (rnt S G x.d) hd (owU S G b x.d + 1 - x.d).toNat (by omega) (fun j hj => by
          have : ((x.d.toNat + j : Nat) : Int) = x.d + j := by omega
          rw [this]
          exact rnt_same S G x.d (x.d + j) (owU S G b x.d) (by omega) (by omega) hS f23)
        rw [e1, sumD_add, e2, p3, si, hd]
        simp only
        have : n + (((owU S G b x.d + 1 - x.d).toNat : Nat) : Int) - 1 = n + (owU S G b x.d - x.d + 1) - 1 := by omega
        rw [this]
      · show (b + 1 - (owU S G b x.d + 1)).toNat < (b + 1 - x.d).toNat
        omega) 100001 ⟨0, a, none, none, none⟩ ⟨Int.le_refl _, .inr rfl, by simp [sumD]⟩ (by show (b + 1 - (a : Int)).toNat < 100001; omega)
  have t : b < x.d := by simpa using t
  have ex : sumD S G a (b + 1 - a).toNat = x.t := by
    rw [p3]
    congr 1
    omega
  have hd : sm_owed (initE 9 [.d (.list (S.map tup2)), .d (.list (G.map tup2)), .d (.int (a : Int)), .d (.int b)]) [] = .ok (.rt (.d (.int x.t))) [] := by
    unfold owEnv at e
    unfold sm_owed
    simp [e]
  show finP (sm_owed (initE 9 [.d (.list (S.map tup2)), .d (.list (G.map tup2)), .d (.int (a : Int)), .d (.int b)]) []) = _
  rw [hd, ex]
  rfl
end LW

set_option Elab.async false
set_option linter.all false
set_option maxRecDepth 100000
set_option maxHeartbeats 4000000
namespace LW
open PySem PySem.Spec PyProof.Rows L2 RK
theorem law_number_ok (c : Int) : ∃ r : Int, 1 ≤ r ∧ r ≤ 1000000 ∧ f_law_number [.int c] = .ok (.int r) := by
  unfold f_law_number sm_law_number
  by_cases h : c % 4 = 0
  · obtain ⟨y, hy, e⟩ := at_modI [1, 1000000, 100, 101] (c / 4) 4 rfl (by omega)
    simp only [List.map] at e
    refine ⟨y, ?_, ?_, ?_⟩
    · simp only [List.mem_cons, List.not_mem_nil, or_false] at hy
      omega
    · simp only [List.mem_cons, List.not_mem_nil, or_false] at hy
      omega
    · simp [h, e]
  · by_cases h1 : c % 4 = 1
    · exact ⟨1 + c / 4 * 7919 % 1000000, by omega, by omega, by simp [h, h1]⟩
    · exact ⟨90 + c / 4 % 40, by omega, by omega, by simp [h, h1]⟩
end LW

set_option Elab.async false
set_option linter.all false
set_option maxRecDepth 100000
set_option maxHeartbeats 4000000
namespace LW
open PySem PySem.Spec PyProof.Rows L2 RK
def sumF (F : Nat → Int) (k : Nat) : Nat → Int
  | 0 => 0
  | n + 1 => sumF F k n + F (k + n)
theorem sumF_add (F : Nat → Int) (k x : Nat) : ∀ y, sumF F k (x + y) = sumF F k x + sumF F (k + x) y
  | 0 => by simp [sumF]
  | y + 1 => by
    rw [← Nat.add_assoc]
    show sumF F k (x + y) + _ = _ + (sumF F (k + x) y + _)
    rw [sumF_add F k x y, Nat.add_assoc k x y, Int.add_assoc]
theorem sumF_const (F : Nat → Int) (k : Nat) (c : Int) : ∀ n : Nat, (∀ j, j < n → F (k + j) = c) → sumF F k n = c * n
  | 0, _ => by simp [sumF]
  | n + 1, h => by
    show sumF F k n + F (k + n) = _
    rw [sumF_const F k c n fun j hj => h j (by omega), h n (by omega), show ((n + 1 : Nat) : Int) = (n : Int) + 1 by omega, Int.mul_add, Int.mul_one]
theorem sumF_cut (F : Nat → Int) (b n : Nat) (h : ∀ d, d < b → F d = 0) : sumF F 0 n = sumF F b (n - b) := by
  by_cases c : n ≤ b
  · rw [show n - b = 0 by omega, sumF_const F 0 0 n fun j hj => by rw [Nat.zero_add]; exact h j (by omega)]
    simp [sumF]
  · have e : n = b + (n - b) := by omega
    rw [e, sumF_add, sumF_const F 0 0 b fun j hj => by rw [Nat.zero_add]; exact h j hj]
    simp
def bal (M : List (Int × Int)) (d : Int) : Int := ((M.filter fun p => decide (p.1 ≤ d)).map (·.2)).sum
structure ROk (R : List (Int × Int)) : Prop where
  h : ∀ d, 0 ≤ d → ∃ q, hld R d = some q
  b : ∀ p ∈ R, 0 ≤ p.2 ∧ p.2 ≤ 10000
theorem rok_zero (n : Int) (r : List (Int × Int)) (h : ∀ p ∈ (0, n) :: r, 0 ≤ p.2 ∧ p.2 ≤ 10000) : ROk ((0, n) :: r) := ⟨fun d => hld_zero n r d, h⟩
theorem rv_b {R : List (Int × Int)} (g : ROk R) (d : Int) (h : 0 ≤ d) : 0 ≤ gv R d ∧ gv R d ≤ 10000 := by
  obtain ⟨q, e⟩ := g.h d h
  unfold gv
  rw [e]
  exact g.b q (hld_mem e)
theorem held_r {R : List (Int × Int)} (g : ROk R) (d : Int) (h : 0 ≤ d) : f_held [.list (R.map tup2), .int d] = .ok (.int (gv R d)) := by
  rw [held_ok]
  obtain ⟨q, e⟩ := g.h d h
  unfold gv
  rw [e]
def growD (M R : List (Int × Int)) (d : Nat) : Int := bal M d * gv R d
theorem balance_ok (M : List (Int × Int)) (hM : M.length ≤ 100000) (d : Int) : f_balance [.list (M.map tup2), .int d] = .ok (.int (bal M d)) := by
  have lc : lcRun false 2 (some (xBin oLe (xBin oIxT (xVar 2) (xLit (.int 0))) (xVar 1))) (xBin oIxT (xVar 2) (xLit (.int 1))) [some (.d (.list (M.map tup2))), some (.d (.int d)), none] (M.map tup2) [] = .ok (.d (.list (((M.filter fun p => decide (p.1 ≤ d)).map (·.2)).map .int))) [] := by
    rw [List.map_map]
    refine lcRun_map tup2 (fun p => decide (p.1 ≤ d)) (fun p => .int p.2) M (fun b _ => ?_) (fun b _ _ => ?_) hM
    · simp [tup2]
    · simp [tup2]
  have h : sm_balance (initE 3 [.d (.list (M.map tup2)), .d (.int d)]) [] = .ok (.rt (.d (.int (bal M d)))) [] := by
    unfold sm_balance
    rw [ret_of (d := .d (.int (bal M d))) (w1 := [])]
    rw [xCall_ap, xCons_ap, xLc_ap, show (xVar 0) (initE 3 [.d (.list (M.map tup2)), .d (.int d)]) [] = .ok (.d (.list (M.map tup2))) [] from rfl, bind_ok]
    simp only
    rw [show initE 3 [.d (.list (M.map tup2)), .d (.int d)] = [some (.d (.list (M.map tup2))), some (.d (.int d)), none] from rfl, lc, bind_ok, xNil_ap, bind_ok, bind_ok, oSumL_ints]
    rfl
  show finP (sm_balance (initE 3 [.d (.list (M.map tup2)), .d (.int d)]) []) = _
  rw [h]
  rfl
theorem bal_same (M : List (Int × Int)) (d e u : Int) (h1 : d ≤ e) (h2 : e ≤ u) (h : ∀ p ∈ M, ¬ (d < p.1 ∧ p.1 ≤ u)) : bal M e = bal M d := by
  unfold bal
  congr 2
  refine List.filter_congr fun p m => ?_
  have := h p m
  rw [Bool.eq_iff_iff, decide_eq_true_eq, decide_eq_true_eq]
  omega
theorem bal_none (M : List (Int × Int)) (d : Int) (h : ∀ p ∈ M, d < p.1) : bal M d = 0 := by
  unfold bal
  rw [List.filter_eq_nil_iff.mpr fun p m => by have := h p m; simp; omega]
  rfl
def gwEnv (M R : List (Int × Int)) (b : Int) (x : Int × Int × Option DV) : En := [some (.d (.list (M.map tup2))), some (.d (.list (R.map tup2))), some (.d (.int b)), some (.d (.int x.1)), some (.d (.int x.2.1)), x.2.2]
def gwU (M R : List (Int × Int)) (b d : Int) : Int := unch R d (unch M d b)
def gwStep (M R : List (Int × Int)) (b : Int) (x : Int × Int × Option DV) : Int × Int × Option DV :=
  (x.1 + bal M x.2.1 * gv R x.2.1 * (gwU M R b x.2.1 - x.2.1 + 1), gwU M R b x.2.1 + 1, some (.d (.int (gwU M R b x.2.1))))
theorem gw_body (M : List (Int × Int)) (hM : M.length ≤ 100000) {R : List (Int × Int)} (g : ROk R) (b : Int) (x : Int × Int × Option DV) (h0 : 0 ≤ x.2.1) (h1 : gwU M R b x.2.1 ≤ 99999) (h2 : x.2.1 ≤ gwU M R b x.2.1) : sm_grown_l1 (gwEnv M R b x) [] = .ok (.nx (gwEnv M R b (gwStep M R b x))) [] := by
  have r := held_r g x.2.1 h0
  obtain ⟨r0, r1⟩ := rv_b g x.2.1 h0
  have bb := balance_ok M hM x.2.1
  have x1 : -18446744073709551616 < gv R x.2.1 := by omega
  have x2 : gv R x.2.1 < 18446744073709551616 := by omega
  have x3 : -18446744073709551616 < unch R x.2.1 (unch M x.2.1 b) - x.2.1 + 1 := by unfold gwU at h1 h2; omega
  have x4 : unch R x.2.1 (unch M x.2.1 b) - x.2.1 + 1 < 18446744073709551616 := by unfold gwU at h1 h2; omega
  unfold sm_grown_l1 gwEnv gwStep gwU
  simp [unch_ok, r, bb, x1, x2, x3, x4]
theorem grown_ok (M : List (Int × Int)) (hM : M.length ≤ 100000) {R : List (Int × Int)} (g : ROk R) (b : Int) (hb : b ≤ 99999) : f_grown [.list (M.map tup2), .list (R.map tup2), .int b] = .ok (.int (sumF (growD M R) 0 (b + 1).toNat / 3650000)) := by
  obtain ⟨x, ⟨p1, p2, p3⟩, t, e⟩ := while_spec (x := sm_grown_l2) (s := sm_grown_l1) (w := []) (gwEnv M R b) (fun x => 0 ≤ x.2.1 ∧ (x.2.1 ≤ b + 1 ∨ x.2.1 = 0) ∧ x.1 = sumF (growD M R) 0 x.2.1.toNat) (fun x => decide (x.2.1 ≤ b)) (gwStep M R b) (fun x => (b + 1 - x.2.1).toNat)
    (by
      intro x _
      unfold sm_grown_l2 gwEnv
      simp)
    (by
      intro ⟨T, d, u⟩ ⟨p1, p2, p3⟩ t
      have t := of_decide_eq_true t
      simp only at p1 p2 p3 t
      have f1 := ufold d M b t
      have f2 := ufold d R _ f1.1
      have hu : gwU M R b d = List.foldl (ustep d) (List.foldl (ustep d) b M) R := rfl
      rw [← hu] at f2
      obtain ⟨f21, f22, f23⟩ := f2
      obtain ⟨f11, f12, f13⟩ := f1
      have hS : ∀ p ∈ M, ¬ (d < p.1 ∧ p.1 ≤ gwU M R b d) := fun p hp => by
        have := f13 p hp
        omega
      refine ⟨gw_body M hM g b (T, d, u) p1 (by simp only; omega) f21, ⟨?_, .inl ?_, ?_⟩, ?_⟩
      · show 0 ≤ gwU M R b d + 1
        omega
      · show gwU M R b d + 1 ≤ b + 1
        omega
      · show T + bal M d * gv R d * (gwU M R b d - d + 1) = sumF (growD M R) 0 (gwU M R b d + 1).toNat
        have e1 : (gwU M R b d + 1).toNat = d.toNat + (gwU M R b d + 1 - d).toNat := by omega
        rw [e1, sumF_add, Nat.zero_add, p3, sumF_const (growD M R) d.toNat (bal M d * gv R d) _ fun j hj => by
          have hj2 : ((d.toNat + j : Nat) : Int) = d + j := by omega
          unfold growD
          rw [hj2, bal_same M d (d + j) (gwU M R b d) (by omega) (by omega) hS]
          unfold gv
          rw [hld_same R d (d + j) (gwU M R b d) (by omega) (by omega) f23]]
        rw [show (((gwU M R b d + 1 - d).toNat : Nat) : Int) = gwU M R b d - d + 1 by omega]
      · show (b + 1 - (gwU M R b d + 1)).toNat < (b + 1 - d).toNat
        omega) 100001 (0, 0, none) ⟨Int.le_refl _, .inr rfl, rfl⟩ (by show (b + 1 - 0).toNat < 100001; omega)
  obtain ⟨T, d, u⟩ := x
  simp only at p1 p2 p3
  have t : b < d := by simpa using t
  have ex : sumF (growD M R) 0 (b + 1).toNat = T := by
    rw [p3]
    congr 1
    omega
  have hd : sm_grown (initE 6 [.d (.list (M.map tup2)), .d (.list (R.map tup2)), .d (.int b)]) [] = .ok (.rt (.d (.int (T / 3650000)))) [] := by
    unfold gwEnv at e
    unfold sm_grown
    simp at e
    simp [e]
  show finP (sm_grown (initE 6 [.d (.list (M.map tup2)), .d (.list (R.map tup2)), .d (.int b)]) []) = _
  rw [hd, ex]
  rfl
end LW

set_option Elab.async false
set_option linter.all false
set_option maxRecDepth 100000
set_option maxHeartbeats 4000000
namespace LW
open PySem PySem.Spec PyProof.Rows L2 RK
/-! cells of the store: places and what stands there, each place once -/
abbrev Cell := Nat × AO
structure At (w : Wd) (C : List Cell) : Prop where
  get : ∀ p ∈ C, w[p.1]? = some p.2
  nd : (C.map Prod.fst).Nodup
theorem at_lt {w : Wd} {l : Nat} {o : AO} (h : w[l]? = some o) : l < w.length := (List.getElem?_eq_some_iff.mp h).1
theorem key_uniq {C : List Cell} (nd : (C.map Prod.fst).Nodup) {p q : Cell} (hp : p ∈ C) (hq : q ∈ C) (e : p.1 = q.1) : p = q := by
  induction C with
  | nil => cases hp
  | cons x xs ih =>
    rw [List.map_cons, List.nodup_cons] at nd
    rcases List.mem_cons.mp hp with hp | hp
    · rcases List.mem_cons.mp hq with hq | hq
      · rw [hp, hq]
      · exact (nd.1 (by rw [← hp, e]; exact List.mem_map_of_mem hq)).elim
    · rcases List.mem_cons.mp hq with hq | hq
      · exact (nd.1 (by rw [← hq, ← e]; exact List.mem_map_of_mem hp)).elim
      · exact ih nd.2 hp hq
theorem At.perm {w : Wd} {C D : List Cell} (h : At w C) (p : C.Perm D) : At w D := ⟨fun q hq => h.get q (p.mem_iff.mpr hq), (p.map Prod.fst).nodup_iff.mp h.nd⟩
theorem At.sub {w : Wd} {C D : List Cell} (h : At w C) (s : D.Sublist C) : At w D := ⟨fun q hq => h.get q (s.subset hq), h.nd.sublist (s.map _)⟩
theorem At.drop {w : Wd} {a : Cell} {C : List Cell} (h : At w (a :: C)) : At w C := h.sub (List.sublist_cons_self _ _)
theorem At.at_ {w : Wd} {C : List Cell} (h : At w C) {l : Nat} {o : AO} (m : (l, o) ∈ C) : w[l]? = some o := h.get (l, o) m
theorem At.set {w : Wd} {C C' : List Cell} {l : Nat} {o : AO} (h : At w C) (hk : C'.map Prod.fst = C.map Prod.fst) (hm : (l, o) ∈ C') (hp : ∀ p ∈ C', p = (l, o) ∨ p ∈ C) : At (w.set l o) C' := by
  have nd : (C'.map Prod.fst).Nodup := hk ▸ h.nd
  refine ⟨fun p m => ?_, nd⟩
  by_cases e : l = p.1
  · have : p = (l, o) := key_uniq nd m hm e.symm
    subst this
    have hl : l ∈ C.map Prod.fst := hk ▸ List.mem_map_of_mem (f := Prod.fst) hm
    obtain ⟨q, hq, e2⟩ := List.mem_map.mp hl
    have := at_lt (h.get q hq)
    rw [e2] at this
    exact List.getElem?_set_self this
  · rw [List.getElem?_set_ne e]
    rcases hp p m with rfl | hp
    · exact (e rfl).elim
    · exact h.get p hp
theorem At.lt {w : Wd} {C : List Cell} (h : At w C) {l : Nat} (m : l ∈ C.map Prod.fst) : l < w.length := by
  obtain ⟨q, hq, e2⟩ := List.mem_map.mp m
  have := at_lt (h.get q hq)
  rwa [e2] at this
theorem At.new {w : Wd} {C : List Cell} (h : At w C) (o : AO) : At (w ++ [o]) ((w.length, o) :: C) := by
  refine ⟨fun p m => ?_, ?_⟩
  · rcases List.mem_cons.mp m with rfl | m
    · simp
    · rw [List.getElem?_append_left (at_lt (h.get p m))]
      exact h.get p m
  · rw [List.map_cons, List.nodup_cons]
    exact ⟨fun m => Nat.lt_irrefl _ (h.lt m), h.nd⟩
theorem At.ne {w : Wd} {a b : Cell} {C : List Cell} (h : At w (a :: C)) (m : b ∈ C) : a.1 ≠ b.1 := fun e => by
  have := h.nd
  rw [List.map_cons, List.nodup_cons] at this
  exact this.1 (e ▸ List.mem_map_of_mem m)
theorem At.nd2 {w : Wd} {C : List Cell} (h : At w C) {a b : Cell} (s : List.Sublist [a, b] C) : a.1 ≠ b.1 := by
  have := h.nd.sublist (s.map Prod.fst)
  simp at this
  exact this
theorem At.keep {w : Wd} {C : List Cell} (h : At w C) {l : Nat} {o : AO} (m : (l, o) ∈ C) : w.set l o = w := by
  have hl := h.at_ m
  apply List.ext_getElem?
  intro k
  by_cases hk : l = k
  · subst hk
    rw [List.getElem?_set_self (at_lt hl), hl]
  · rw [List.getElem?_set_ne hk]
theorem set_same {w : Wd} {l : Nat} {o : AO} (h : w[l]? = some o) : w.set l o = w := by
  apply List.ext_getElem?
  intro k
  by_cases hk : l = k
  · subst hk
    rw [List.getElem?_set_self (at_lt h), h]
  · rw [List.getElem?_set_ne hk]
/-- one cell of many is changed -/
theorem At.put {w : Wd} {A B : List Cell} {l : Nat} {o o' : AO} (h : At w (A ++ (l, o) :: B)) : At (w.set l o') (A ++ (l, o') :: B) := by
  refine h.set (by simp) (by simp) fun p m => ?_
  simp only [List.mem_append, List.mem_cons] at m ⊢
  rcases m with m | rfl | m
  · exact .inr (.inl m)
  · exact .inl rfl
  · exact .inr (.inr (.inr m))
theorem At.put0 {w : Wd} {B : List Cell} {l : Nat} {o o' : AO} (h : At w ((l, o) :: B)) : At (w.set l o') ((l, o') :: B) := At.put (A := []) h
/-! steps by hand, more of them -/
theorem callS_of {f : FP} {xs : AM} {e : En} {w w1 : Wd} {ds : List DV} {ps : List PyData} {i : Int} (hx : xs e w = .ok ds w1) (ha : mapO (toD 6 w1) ds = some ps) (hf : f ps = .ok (.int i)) : xCallS f xs e w = .ok (.d (.int i)) w1 := by
  rw [xCallS_ap, hx, bind_ok, ha]
  simp only [hf]
  rfl
theorem cons_of {x : XM} {xs : AM} {e : En} {w w1 w2 : Wd} {d : DV} {ds : List DV} (hx : x e w = .ok d w1) (hs : xs e w1 = .ok ds w2) : xCons x xs e w = .ok (d :: ds) w2 := by rw [xCons_ap, hx, bind_ok, hs, bind_ok]
theorem toD_at {w : Wd} {l : Nat} {ds : List PyData} (h : w[l]? = some (.lst (ds.map .d))) : toD 6 w (.loc l) = some (.list ds) := toD_lst 5 w l ds h
theorem app_of {xo xe : XM} {e : En} {w w1 w2 : Wd} {l : Nat} {xs ys : List DV} {d : DV} (hx : xo e w = .ok (.loc l) w1) (h1 : w1[l]? = some (.lst xs)) (he : xe e w1 = .ok d w2) (h2 : w2[l]? = some (.lst ys)) (hl : ys.length < 100000) : xApp xo xe e w = .ok (.d .none) (w2.set l (.lst (ys ++ [d]))) := by
  rw [xApp_ap, hx, bind_ok, lstAt_loc, h1]
  simp only
  rw [he, bind_ok, lstAt_loc, h2]
  simp only
  rw [if_pos hl]
theorem seq_ex {s t : SM} {e e1 : En} {w w1 : Wd} {c : Str} (h : s e w = .ex c e1 w1) : sSeq s t e w = .ex c e1 w1 := by rw [sSeq_ap, h, thenS_ex]
theorem set_ex {i : Nat} {x : XM} {e : En} {w w1 : Wd} {c : Str} (hx : x e w = .ex c w1) : sSet i x e w = .ex c e w1 := by rw [sSet_ap, hx, st_ex]
theorem exp_ex {x : XM} {e : En} {w w1 : Wd} {c : Str} (hx : x e w = .ex c w1) : sExp x e w = .ex c e w1 := by rw [sExp_ap, hx, st_ex]
theorem ret_ex {x : XM} {e : En} {w w1 : Wd} {c : Str} (hx : x e w = .ex c w1) : sRet x e w = .ex c e w1 := by rw [sRet_ap, hx, st_ex]
theorem callP_ex {f : FP} {xs : AM} {e : En} {w w1 : Wd} {ds : List DV} {ps : List PyData} {c : Str} (hx : xs e w = .ok ds w1) (ha : allD ds = some ps) (hf : f ps = .ex c) : xCallP f xs e w = .ex c w1 := by
  rw [xCallP_ap, hx, bind_ok, ha]
  simp only [hf]
theorem callW_of {f : FW} {xs : AM} {e : En} {w w1 : Wd} {ds : List DV} {r : Rs DV} (hx : xs e w = .ok ds w1) (hf : f ds w1 = r) : xCallW f xs e w = r := by rw [xCallW_ap, hx, bind_ok, hf]
theorem try_ok {mt : Str → Str → Bool} {errs : List Str} {sb : SM} {hds : List (Str × SM)} {e : En} {w w' : Wd} {c : Ct} (h : sb e w = .ok c w') : sTry mt errs sb hds e w = .ok c w' := by
  unfold sTry
  rw [h]
theorem try_ex {mt : Str → Str → Bool} {errs : List Str} {sb : SM} {hds : List (Str × SM)} {e e1 : En} {w w1 : Wd} {c : Str} (h : sb e w = .ex c e1 w1) (hc : c ∈ errs) : sTry mt errs sb hds e w = handle mt hds c e1 w1 := by
  unfold sTry
  rw [h]
  simp only [if_pos hc]
/-- a method's call, by its own word -/
theorem methR_of {c m : Str} {f : FW} {xo : XM} {xs : AM} {e : En} {w w1 w2 : Wd} {l : Nat} {fs : List (Str × DV)} {ds : List DV} {r : Rs DV} (hx : xo e w = .ok (.loc l) w1) (hi : w1[l]? = some (.ins c fs)) (hf : fs.lookup m = none) (ha : xs e w1 = .ok ds w2) (hr : f (.loc l :: ds) w2 = r) :
    xMeth c m f xo xs e w = r := (meth_of hx hi hf ha).trans hr
end LW

set_option Elab.async false
set_option linter.all false
set_option maxRecDepth 100000
set_option maxHeartbeats 4000000
namespace LW
open PySem PySem.Spec PyProof.Rows L2 RK
/-! what a roll is (data: LM, RM), and how it stands in the store (places: LP, RP) -/
structure LM where
  flat : Str
  first : Int
  last : Option Int
  indexed : Bool
  steps : List (Int × Int)
  moves : List (Int × Int)
  shut : Option Int
  rent : Int
  pledge : Int
structure LP where
  l : Nat
  ls : Nat
  lm : Nat
def optI : Option Int → PyData
  | none => .none
  | some i => .int i
abbrev ivs (xs : List (Int × Int)) : List DV := (xs.map tup2).map .d
def leaseF (p : LP) (x : LM) : List (Str × DV) := [(PySem.Str.ofString "flat", .d (.str x.flat)), (PySem.Str.ofString "first", .d (.int x.first)), (PySem.Str.ofString "last", .d (optI x.last)), (PySem.Str.ofString "indexed", .d (.bool x.indexed)),
  (PySem.Str.ofString "steps", .loc p.ls), (PySem.Str.ofString "moves", .loc p.lm), (PySem.Str.ofString "shut", .d (optI x.shut)), (PySem.Str.ofString "rent_out", .d (.int x.rent)), (PySem.Str.ofString "pledge_out", .d (.int x.pledge))]
abbrev leaseO (p : LP) (x : LM) : AO := .ins (PySem.Str.ofString "Lease") (leaseF p x)
structure LeaseAt (w : Wd) (p : LP) (x : LM) : Prop where
  o : w[p.l]? = some (leaseO p x)
  s : w[p.ls]? = some (.lst (ivs x.steps))
  m : w[p.lm]? = some (.lst (ivs x.moves))
structure RM where
  leases : List LM
  gauges : List (Int × Int)
  rates : List (Int × Int)
  through : Int
  told : List PyData
structure RP where
  r : Nat
  la : Nat
  lg : Nat
  lr : Nat
  lt : Nat
  ls : List LP
def rollF (P : RP) (R : RM) : List (Str × DV) := [(PySem.Str.ofString "leases", .loc P.la), (PySem.Str.ofString "gauges", .loc P.lg), (PySem.Str.ofString "rates", .loc P.lr), (PySem.Str.ofString "through", .d (.int R.through)), (PySem.Str.ofString "told", .loc P.lt)]
abbrev rollO (P : RP) (R : RM) : AO := .ins (PySem.Str.ofString "Roll") (rollF P R)
def leaseC (p : LP) (x : LM) : List Cell := [(p.l, leaseO p x), (p.ls, .lst (ivs x.steps)), (p.lm, .lst (ivs x.moves))]
def leasesC : List LP → List LM → List Cell
  | p :: ps, x :: xs => leaseC p x ++ leasesC ps xs
  | _, _ => []
abbrev locsO (ps : List LP) : AO := .lst (ps.map fun p => .loc p.l)
def rollC (P : RP) (R : RM) : List Cell := [(P.r, rollO P R), (P.la, locsO P.ls), (P.lg, .lst (ivs R.gauges)), (P.lr, .lst (ivs R.rates)), (P.lt, .lst (R.told.map .d))] ++ leasesC P.ls R.leases
/-- a roll stands in the store, and beside it D -/
structure RAt (w : Wd) (P : RP) (R : RM) (D : List Cell) : Prop where
  at_ : At w (rollC P R ++ D)
  len : P.ls.length = R.leases.length
theorem leasesC_app : ∀ (ps : List LP) (xs : List LM) (qs : List LP) (ys : List LM), ps.length = xs.length → leasesC (ps ++ qs) (xs ++ ys) = leasesC ps xs ++ leasesC qs ys
  | [], [], _, _, _ => rfl
  | p :: ps, x :: xs, qs, ys, h => by
    show leaseC p x ++ leasesC (ps ++ qs) (xs ++ ys) = (leaseC p x ++ leasesC ps xs) ++ _
    rw [leasesC_app ps xs qs ys (by simpa using h), List.append_assoc]
theorem leasesC_mem : ∀ {ps : List LP} {xs : List LM} {i : Nat} {p : LP} {x : LM}, ps[i]? = some p → xs[i]? = some x → ∀ c ∈ leaseC p x, c ∈ leasesC ps xs
  | p' :: ps, x' :: xs, 0, p, x, h1, h2, c, hc => by
    simp only [List.getElem?_cons_zero, Option.some.injEq] at h1 h2
    subst h1 h2
    exact List.mem_append_left _ hc
  | p' :: ps, x' :: xs, i + 1, p, x, h1, h2, c, hc => by
    simp only [List.getElem?_cons_succ] at h1 h2
    exact List.mem_append_right _ (leasesC_mem h1 h2 c hc)
  | [], _, _, _, _, h1, _, _, _ => by simp at h1
  | _ :: _, [], _, _, _, _, h2, _, _ => by simp at h2
/-- a lease of many is another one: the cells -/
theorem leasesC_set : ∀ {ps : List LP} {xs : List LM} {i : Nat} {p : LP} {x : LM} (y : LM), ps[i]? = some p → xs[i]? = some x →
    ∃ A B, leasesC ps xs = A ++ leaseC p x ++ B ∧ leasesC ps (xs.set i y) = A ++ leaseC p y ++ B
  | p' :: ps, x' :: xs, 0, p, x, y, h1, h2 => by
    simp only [List.getElem?_cons_zero, Option.some.injEq] at h1 h2
    subst h1 h2
    exact ⟨[], leasesC ps xs, rfl, rfl⟩
  | p' :: ps, x' :: xs, i + 1, p, x, y, h1, h2 => by
    simp only [List.getElem?_cons_succ] at h1 h2
    obtain ⟨A, B, e1, e2⟩ := leasesC_set y h1 h2
    refine ⟨leaseC p' x' ++ A, B, ?_, ?_⟩
    · show leaseC p' x' ++ leasesC ps xs = _
      rw [e1]; simp only [List.append_assoc]
    · show leaseC p' x' ++ leasesC ps (xs.set i y) = _
      rw [e2]; simp only [List.append_assoc]
  | [], _, _, _, _, _, h1, _ => by simp at h1
  | _ :: _, [], _, _, _, _, _, h2 => by simp at h2
section
variable {w : Wd} {P : RP} {R : RM} {D : List Cell}
theorem RAt.o (h : RAt w P R D) : w[P.r]? = some (rollO P R) := h.at_.at_ (by simp [rollC])
theorem RAt.a (h : RAt w P R D) : w[P.la]? = some (locsO P.ls) := h.at_.at_ (by simp [rollC])
theorem RAt.g (h : RAt w P R D) : w[P.lg]? = some (.lst (ivs R.gauges)) := h.at_.at_ (by simp [rollC])
theorem RAt.rt (h : RAt w P R D) : w[P.lr]? = some (.lst (ivs R.rates)) := h.at_.at_ (by simp [rollC])
theorem RAt.t (h : RAt w P R D) : w[P.lt]? = some (.lst (R.told.map .d)) := h.at_.at_ (by simp [rollC])
theorem RAt.lease (h : RAt w P R D) {i : Nat} {p : LP} {x : LM} (h1 : P.ls[i]? = some p) (h2 : R.leases[i]? = some x) : LeaseAt w p x := by
  have m : ∀ c ∈ leaseC p x, c ∈ rollC P R ++ D := fun c hc => List.mem_append_left _ (List.mem_append_right _ (leasesC_mem h1 h2 c hc))
  exact ⟨h.at_.at_ (m _ (by simp [leaseC])), h.at_.at_ (m _ (by simp [leaseC])), h.at_.at_ (m _ (by simp [leaseC]))⟩
theorem RAt.place (h : RAt w P R D) {i : Nat} {x : LM} (h2 : R.leases[i]? = some x) : ∃ p, P.ls[i]? = some p := by
  have : i < P.ls.length := by rw [h.len]; exact (List.getElem?_eq_some_iff.mp h2).1
  exact ⟨_, List.getElem?_eq_getElem this⟩
theorem RAt.beside (h : RAt w P R D) : At w D := h.at_.sub (List.sublist_append_right _ _)
theorem RAt.get (h : RAt w P R D) {c : Cell} (m : c ∈ D) : w[c.1]? = some c.2 := h.beside.get c m
theorem RAt.perm (h : RAt w P R D) {D' : List Cell} (p : D.Perm D') : RAt w P R D' := ⟨h.at_.perm (p.append_left _), h.len⟩
theorem RAt.sub (h : RAt w P R D) {D' : List Cell} (p : D'.Sublist D) : RAt w P R D' := ⟨h.at_.sub (p.append_left _), h.len⟩
theorem RAt.new (h : RAt w P R D) (o : AO) : RAt (w ++ [o]) P R ((w.length, o) :: D) := ⟨(h.at_.new o).perm List.perm_middle.symm, h.len⟩
/-- what lies beside it is changed -/
theorem RAt.put (h : RAt w P R D) {D' : List Cell} {l : Nat} {o : AO} (hk : D'.map Prod.fst = D.map Prod.fst) (hm : (l, o) ∈ D') (hp : ∀ p ∈ D', p = (l, o) ∨ p ∈ D) : RAt (w.set l o) P R D' := by
  refine ⟨h.at_.set (by rw [List.map_append, List.map_append, hk]) (List.mem_append_right _ hm) fun p m => ?_, h.len⟩
  rcases List.mem_append.mp m with m | m
  · exact .inr (List.mem_append_left _ m)
  · rcases hp p m with e | e
    · exact .inl e
    · exact .inr (List.mem_append_right _ e)
theorem RAt.put0 {l : Nat} {o o' : AO} (h : RAt w P R ((l, o) :: D)) : RAt (w.set l o') P R ((l, o') :: D) := h.put rfl (by simp) fun p m => by
  rcases List.mem_cons.mp m with e | m
  · exact .inl e
  · exact .inr (List.mem_cons_of_mem _ m)
theorem RAt.setG (h : RAt w P R D) (v : List (Int × Int)) : RAt (w.set P.lg (.lst (ivs v))) P { R with gauges := v } D := by
  refine ⟨h.at_.set (by simp [rollC]) (by simp [rollC]) fun p m => ?_, h.len⟩
  simp only [rollC, List.mem_append, List.mem_cons, List.not_mem_nil, or_false] at m ⊢
  rcases m with (((m | m | m | m | m) | m) | m)
  · exact .inr (.inl (.inl (.inl m)))
  · exact .inr (.inl (.inl (.inr (.inl m))))
  · exact .inl m
  · exact .inr (.inl (.inl (.inr (.inr (.inr (.inl m))))))
  · exact .inr (.inl (.inl (.inr (.inr (.inr (.inr m))))))
  · exact .inr (.inl (.inr m))
  · exact .inr (.inr m)
theorem RAt.setR (h : RAt w P R D) (v : List (Int × Int)) : RAt (w.set P.lr (.lst (ivs v))) P { R with rates := v } D := by
  refine ⟨h.at_.set (by simp [rollC]) (by simp [rollC]) fun p m => ?_, h.len⟩
  simp only [rollC, List.mem_append, List.mem_cons, List.not_mem_nil, or_false] at m ⊢
  rcases m with (((m | m | m | m | m) | m) | m)
  · exact .inr (.inl (.inl (.inl m)))
  · exact .inr (.inl (.inl (.inr (.inl m))))
  · exact .inr (.inl (.inl (.inr (.inr (.inl m)))))
  · exact .inl m
  · exact .inr (.inl (.inl (.inr (.inr (.inr (.inr m))))))
  · exact .inr (.inl (.inr m))
  · exact .inr (.inr m)
theorem RAt.setT (h : RAt w P R D) (v : List PyData) : RAt (w.set P.lt (.lst (v.map .d))) P { R with told := v } D := by
  refine ⟨h.at_.set (by simp [rollC]) (by simp [rollC]) fun p m => ?_, h.len⟩
  simp only [rollC, List.mem_append, List.mem_cons, List.not_mem_nil, or_false] at m ⊢
  rcases m with (((m | m | m | m | m) | m) | m)
  · exact .inr (.inl (.inl (.inl m)))
  · exact .inr (.inl (.inl (.inr (.inl m))))
  · exact .inr (.inl (.inl (.inr (.inr (.inl m)))))
  · exact .inr (.inl (.inl (.inr (.inr (.inr (.inl m))))))
  · exact .inl m
  · exact .inr (.inl (.inr m))
  · exact .inr (.inr m)
theorem RAt.setB (h : RAt w P R D) (v : Int) : RAt (w.set P.r (rollO P { R with through := v })) P { R with through := v } D := by
  refine ⟨h.at_.set (by simp [rollC]) (by simp [rollC]) fun p m => ?_, h.len⟩
  simp only [rollC, List.mem_append, List.mem_cons, List.not_mem_nil, or_false] at m ⊢
  rcases m with (((m | m | m | m | m) | m) | m)
  · exact .inl m
  · exact .inr (.inl (.inl (.inr (.inl m))))
  · exact .inr (.inl (.inl (.inr (.inr (.inl m)))))
  · exact .inr (.inl (.inl (.inr (.inr (.inr (.inl m))))))
  · exact .inr (.inl (.inl (.inr (.inr (.inr (.inr m))))))
  · exact .inr (.inl (.inr m))
  · exact .inr (.inr m)
theorem RAt.setLs {i : Nat} {p : LP} {x y : LM} (h : RAt w P R D) (h1 : P.ls[i]? = some p) (h2 : R.leases[i]? = some x) (l : Nat) (o : AO) (hm : (l, o) ∈ leaseC p y) (hp : ∀ c ∈ leaseC p y, c = (l, o) ∨ c ∈ leaseC p x) : RAt (w.set l o) P { R with leases := R.leases.set i y } D := by
  obtain ⟨A, B, e1, e2⟩ := leasesC_set y h1 h2
  refine ⟨h.at_.set ?_ ?_ fun c m => ?_, by simpa using h.len⟩
  · simp only [rollC, e1, e2, List.map_append]
    rfl
  · simp only [rollC, e2, List.mem_append]
    exact .inl (.inr (.inl (.inr hm)))
  · simp only [rollC, e1, e2, List.mem_append] at m ⊢
    rcases m with (m | ((m | m) | m)) | m
    · exact .inr (.inl (.inl m))
    · exact .inr (.inl (.inr (.inl (.inl m))))
    · rcases hp c m with e | e
      · exact .inl e
      · exact .inr (.inl (.inr (.inl (.inr e))))
    · exact .inr (.inl (.inr (.inr m)))
    · exact .inr (.inr m)
/-- a lease's own object is changed -/
theorem RAt.setL {i : Nat} {p : LP} {x : LM} (y : LM) (h : RAt w P R D) (h1 : P.ls[i]? = some p) (h2 : R.leases[i]? = some x) (es : y.steps = x.steps) (em : y.moves = x.moves) : RAt (w.set p.l (leaseO p y)) P { R with leases := R.leases.set i y } D := by
  refine h.setLs h1 h2 _ _ (by simp [leaseC]) fun c m => ?_
  simp only [leaseC, List.mem_cons, List.not_mem_nil, or_false, es, em] at m ⊢
  rcases m with m | m | m
  · exact .inl m
  · exact .inr (.inr (.inl m))
  · exact .inr (.inr (.inr m))
theorem RAt.setS {i : Nat} {p : LP} {x : LM} (v : List (Int × Int)) (h : RAt w P R D) (h1 : P.ls[i]? = some p) (h2 : R.leases[i]? = some x) : RAt (w.set p.ls (.lst (ivs v))) P { R with leases := R.leases.set i { x with steps := v } } D := by
  refine h.setLs h1 h2 _ _ (by simp [leaseC]) fun c m => ?_
  simp only [leaseC, List.mem_cons, List.not_mem_nil, or_false] at m ⊢
  rcases m with m | m | m
  · exact .inr (.inl m)
  · exact .inl m
  · exact .inr (.inr (.inr m))
theorem RAt.setM {i : Nat} {p : LP} {x : LM} (v : List (Int × Int)) (h : RAt w P R D) (h1 : P.ls[i]? = some p) (h2 : R.leases[i]? = some x) : RAt (w.set p.lm (.lst (ivs v))) P { R with leases := R.leases.set i { x with moves := v } } D := by
  refine h.setLs h1 h2 _ _ (by simp [leaseC]) fun c m => ?_
  simp only [leaseC, List.mem_cons, List.not_mem_nil, or_false] at m ⊢
  rcases m with m | m | m
  · exact .inr (.inl m)
  · exact .inr (.inr (.inl m))
  · exact .inl m
/-- a lease more -/
theorem RAt.addL {p : LP} {x : LM} (h : RAt w P R (leaseC p x ++ D)) : RAt (w.set P.la (locsO (P.ls ++ [p]))) { P with ls := P.ls ++ [p] } { R with leases := R.leases ++ [x] } D := by
  have a2 : At w ([(P.r, rollO P R), (P.la, locsO P.ls), (P.lg, .lst (ivs R.gauges)), (P.lr, .lst (ivs R.rates)), (P.lt, .lst (R.told.map .d))] ++ leasesC (P.ls ++ [p]) (R.leases ++ [x]) ++ D) := by
    have e : leasesC (P.ls ++ [p]) (R.leases ++ [x]) = leasesC P.ls R.leases ++ leaseC p x := by
      rw [leasesC_app _ _ _ _ h.len]
      show _ ++ (leaseC p x ++ []) = _
      rw [List.append_nil]
    have a := h.at_
    unfold rollC at a
    rw [e]
    simpa only [List.append_assoc] using a
  exact ⟨At.put (A := [(P.r, rollO P R)]) a2, by simpa using h.len⟩
end
/-! fields -/
theorem lf_flat (p x) : (leaseF p x).lookup (PySem.Str.ofString "flat") = some (.d (.str x.flat)) := rfl
theorem lf_first (p x) : (leaseF p x).lookup (PySem.Str.ofString "first") = some (.d (.int x.first)) := rfl
theorem lf_last (p x) : (leaseF p x).lookup (PySem.Str.ofString "last") = some (.d (optI x.last)) := rfl
theorem lf_indexed (p x) : (leaseF p x).lookup (PySem.Str.ofString "indexed") = some (.d (.bool x.indexed)) := rfl
theorem lf_steps (p x) : (leaseF p x).lookup (PySem.Str.ofString "steps") = some (.loc p.ls) := rfl
theorem lf_moves (p x) : (leaseF p x).lookup (PySem.Str.ofString "moves") = some (.loc p.lm) := rfl
theorem lf_shut (p x) : (leaseF p x).lookup (PySem.Str.ofString "shut") = some (.d (optI x.shut)) := rfl
theorem lf_rent (p x) : (leaseF p x).lookup (PySem.Str.ofString "rent_out") = some (.d (.int x.rent)) := rfl
theorem lf_pledge (p x) : (leaseF p x).lookup (PySem.Str.ofString "pledge_out") = some (.d (.int x.pledge)) := rfl
theorem rf_leases (P R) : (rollF P R).lookup (PySem.Str.ofString "leases") = some (.loc P.la) := rfl
theorem rf_gauges (P R) : (rollF P R).lookup (PySem.Str.ofString "gauges") = some (.loc P.lg) := rfl
theorem rf_rates (P R) : (rollF P R).lookup (PySem.Str.ofString "rates") = some (.loc P.lr) := rfl
theorem rf_through (P R) : (rollF P R).lookup (PySem.Str.ofString "through") = some (.d (.int R.through)) := rfl
theorem rf_told (P R) : (rollF P R).lookup (PySem.Str.ofString "told") = some (.loc P.lt) := rfl
def LM.wr (x : LM) (v : Int) : LM := { x with rent := v }
def LM.wp (x : LM) (v : Int) : LM := { x with pledge := v }
def LM.wsh (x : LM) (v : Int) : LM := { x with shut := some v }
def LM.wla (x : LM) (v : Int) : LM := { x with last := some v }
theorem put_rent (p : LP) (x : LM) (v : Int) : putD (PySem.Str.ofString "rent_out") (.d (.int v)) (leaseF p x) = leaseF p (x.wr v) := rfl
theorem put_pledge (p : LP) (x : LM) (v : Int) : putD (PySem.Str.ofString "pledge_out") (.d (.int v)) (leaseF p x) = leaseF p (x.wp v) := rfl
theorem put_shut (p : LP) (x : LM) (v : Int) : putD (PySem.Str.ofString "shut") (.d (.int v)) (leaseF p x) = leaseF p (x.wsh v) := rfl
theorem put_last (p : LP) (x : LM) (v : Int) : putD (PySem.Str.ofString "last") (.d (.int v)) (leaseF p x) = leaseF p (x.wla v) := rfl
theorem put_through (P : RP) (R : RM) (v : Int) : putD (PySem.Str.ofString "through") (.d (.int v)) (rollF P R) = rollF P { R with through := v } := rfl
theorem lf_len (p : LP) (x : LM) : (leaseF p x).length < 1000 := by
  show 9 < 1000
  decide
theorem rf_len (P : RP) (R : RM) : (rollF P R).length < 1000 := by
  show 5 < 1000
  decide
end LW

set_option Elab.async false
set_option linter.all false
set_option maxRecDepth 100000
set_option maxHeartbeats 4000000
namespace LW
open PySem PySem.Spec PyProof.Rows L2 RK
def worthOf (x : LM) (R : List (Int × Int)) (d : Int) : Int := bal x.moves d + sumF (growD x.moves R) 0 (d + 1).toNat / 3650000
theorem worth_ok {w : Wd} {p : LP} {x : LM} (h : LeaseAt w p x) {lr : Nat} {R : List (Int × Int)} (hr : w[lr]? = some (.lst ((R.map tup2).map .d))) (g : ROk R) (hM : x.moves.length ≤ 100000) (d : Int) (hd : d ≤ 99999) :
    f_Lease_worth [.loc p.l, .loc lr, .d (.int d)] w = .ok (.d (.int (worthOf x R d))) w := by
  have v0 : (xVar 0) [some (.loc p.l), some (.loc lr), some (.d (.int d))] w = .ok (.loc p.l) w := rfl
  have v1 : (xVar 1) [some (.loc p.l), some (.loc lr), some (.d (.int d))] w = .ok (.loc lr) w := rfl
  have v2 : (xVar 2) [some (.loc p.l), some (.loc lr), some (.d (.int d))] w = .ok (.d (.int d)) w := rfl
  have fm := fld_of v0 h.o (lf_moves p x)
  have a1 := cons_of fm (cons_of v2 (xNil_ap _ w))
  have a2 := cons_of fm (cons_of v1 (cons_of v2 (xNil_ap _ w)))
  have m1 : mapO (toD 6 w) [.loc p.lm, .d (.int d)] = some [.list (x.moves.map tup2), .int d] := by rw [mapO_cons, toD_at h.m]; rfl
  have m2 : mapO (toD 6 w) [.loc p.lm, .loc lr, .d (.int d)] = some [.list (x.moves.map tup2), .list (R.map tup2), .int d] := by rw [mapO_cons, toD_at h.m, mapO_cons, toD_at hr]; rfl
  have c1 := callS_of a1 m1 (balance_ok x.moves hM d)
  have c2 := callS_of a2 m2 (grown_ok x.moves hM g d hd)
  show finW (sm_Lease_worth [some (.loc p.l), some (.loc lr), some (.d (.int d))] w) = _
  unfold sm_Lease_worth
  rw [ret_of (bin_of c1 c2 (oI_ap _ _ _ _ _))]
  rfl
/-- what is still lacking of a pledge -/
def pledgeTo (x : LM) (R : List (Int × Int)) : Int := match x.shut with
  | none => x.pledge
  | some d => worthOf x R d
theorem pledge_lacking_ok {w : Wd} {p : LP} {x : LM} (h : LeaseAt w p x) {lr : Nat} {R : List (Int × Int)} (hr : w[lr]? = some (.lst ((R.map tup2).map .d))) (g : ROk R) (hM : x.moves.length ≤ 100000) (hs : ∀ d, x.shut = some d → d ≤ 99999) :
    f_Lease_pledge_lacking [.loc p.l, .loc lr] w = .ok (.d (.int (pledgeTo x R - x.pledge))) (w.set p.l (.ins (PySem.Str.ofString "Lease") (leaseF p (x.wp (pledgeTo x R))))) := by
  have v0 : ∀ o, (xVar 0) [some (.loc p.l), some (.loc lr), o] w = .ok (.loc p.l) w := fun _ => rfl
  have v1 : ∀ o, (xVar 1) [some (.loc p.l), some (.loc lr), o] w = .ok (.loc lr) w := fun _ => rfl
  have fs := fun o => fld_of (v0 o) h.o (lf_shut p x)
  show finW (sm_Lease_pledge_lacking [some (.loc p.l), some (.loc lr), none] w) = _
  unfold sm_Lease_pledge_lacking
  cases q : x.shut with
  | none =>
    have t : xBin oIsN (xFld (PySem.Str.ofString "Lease") (PySem.Str.ofString "shut") (xVar 0)) (xLit .none) [some (.loc p.l), some (.loc lr), none] w = .ok (.d (.bool true)) w := by
      refine bin_of (fs none) (xLit_ap _ _ _) ?_
      rw [q]
      rfl
    have e : w.set p.l (.ins (PySem.Str.ofString "Lease") (leaseF p (x.wp (pledgeTo x R)))) = w := by
      have : pledgeTo x R = x.pledge := by unfold pledgeTo; rw [q]
      rw [this]
      exact set_same h.o
    have e2 : pledgeTo x R - x.pledge = 0 := by unfold pledgeTo; rw [q]; simp
    rw [seq_rt (d := .d (.int 0)) (w1 := w) (by rw [if_of t, if_pos rfl]; rfl), e, e2]
    rfl
  | some d =>
    have t : xBin oIsN (xFld (PySem.Str.ofString "Lease") (PySem.Str.ofString "shut") (xVar 0)) (xLit .none) [some (.loc p.l), some (.loc lr), none] w = .ok (.d (.bool false)) w := by
      refine bin_of (fs none) (xLit_ap _ _ _) ?_
      rw [q]
      rfl
    have fs2 := fs none
    rw [q] at fs2
    have wo := worth_ok h hr g hM d (hs d q)
    have mt : xMeth (PySem.Str.ofString "Lease") (PySem.Str.ofString "worth") f_Lease_worth (xVar 0) (xCons (xVar 1) (xCons (xFld (PySem.Str.ofString "Lease") (PySem.Str.ofString "shut") (xVar 0)) xNil)) [some (.loc p.l), some (.loc lr), none] w = .ok (.d (.int (worthOf x R d))) w := by
      rw [meth_of (v0 none) h.o rfl (cons_of (v1 none) (cons_of fs2 (xNil_ap _ w)))]
      exact wo
    have e2 : pledgeTo x R = worthOf x R d := by unfold pledgeTo; rw [q]
    have fp := fun o => fld_of (v0 o) h.o (lf_pledge p x)
    rw [seq_of (e1 := [some (.loc p.l), some (.loc lr), none]) (w1 := w) (by rw [if_of t]; rfl)]
    rw [seq_of (e1 := [some (.loc p.l), some (.loc lr), some (.d (.int (worthOf x R d - x.pledge)))]) (w1 := w) (set_of (bin_of mt (fp none) (oI_ap _ _ _ _ _)))]
    have s1 : sFld (PySem.Str.ofString "Lease") (PySem.Str.ofString "pledge_out") (xVar 0) (xBin oAdd (xFld (PySem.Str.ofString "Lease") (PySem.Str.ofString "pledge_out") (xVar 0)) (xVar 2)) [some (.loc p.l), some (.loc lr), some (.d (.int (worthOf x R d - x.pledge)))] w = .ok (.nx [some (.loc p.l), some (.loc lr), some (.d (.int (worthOf x R d - x.pledge)))]) (w.set p.l (.ins (PySem.Str.ofString "Lease") (leaseF p (x.wp (pledgeTo x R))))) := by
      rw [setF_of (bin_of (fp _) (show (xVar 2) _ w = .ok (.d (.int (worthOf x R d - x.pledge))) w from rfl) (oI_ap _ _ _ _ _)) (v0 _) h.o (lf_len p x)]
      rw [show x.pledge + (worthOf x R d - x.pledge) = pledgeTo x R by rw [e2]; omega, put_pledge]
    rw [seq_of s1, ret_of (show (xVar 2) _ _ = .ok (.d (.int (worthOf x R d - x.pledge))) _ from rfl), e2]
    rfl
def toDay (x : LM) (d : Int) : Int := match x.last with
  | none => d
  | some l => if l < d then l else d
def gOf (x : LM) (G : List (Int × Int)) : List (Int × Int) := if x.indexed = true then G else [(0, 100)]
def dueOf (x : LM) (G : List (Int × Int)) (d : Int) : Int := sumD x.steps (gOf x G) x.first.toNat (toDay x d + 1 - x.first).toNat
theorem gok_plain : GOk [(0, 100)] := gok_zero 100 [] fun p hp => by
  rw [List.mem_singleton] at hp
  subst hp
  exact ⟨by decide, by decide⟩
theorem due_ok {w : Wd} {p : LP} {x : LM} (h : LeaseAt w p x) {lg : Nat} {G : List (Int × Int)} (hg : w[lg]? = some (.lst ((G.map tup2).map .d))) (s : SOk x.steps) (g : GOk G) (hf : 0 ≤ x.first) (d : Int) (hd : d ≤ 99999) :
    f_Lease_due [.loc p.l, .loc lg, .d (.int d)] w = .ok (.d (.int (dueOf x G d))) w := by
  have v0 : ∀ o, (xVar 0) [some (.loc p.l), some (.loc lg), o] w = .ok (.loc p.l) w := fun _ => rfl
  have v1 : ∀ o, (xVar 1) [some (.loc p.l), some (.loc lg), o] w = .ok (.loc lg) w := fun _ => rfl
  have v2 : ∀ o, (xVar 2) [some (.loc p.l), some (.loc lg), some (.d o)] w = .ok (.d o) w := fun _ => rfl
  have ht : toDay x d ≤ 99999 := by
    unfold toDay
    split
    · exact hd
    · split <;> omega
  have fi := fun o => fld_of (v0 o) h.o (lf_indexed p x)
  have ff := fun o => fld_of (v0 o) h.o (lf_first p x)
  have fs := fun o => fld_of (v0 o) h.o (lf_steps p x)
  have hn : ((x.first.toNat : Nat) : Int) = x.first := by omega
  have rest : finW (sSeq (sIf (xFld (PySem.Str.ofString "Lease") (PySem.Str.ofString "indexed") (xVar 0)) (sRet (xCallS f_owed (xCons (xFld (PySem.Str.ofString "Lease") (PySem.Str.ofString "steps") (xVar 0)) (xCons (xVar 1) (xCons (xFld (PySem.Str.ofString "Lease") (PySem.Str.ofString "first") (xVar 0)) (xCons (xVar 2) xNil)))))) sNil) (sRet (xCallS f_owed (xCons (xFld (PySem.Str.ofString "Lease") (PySem.Str.ofString "steps") (xVar 0)) (xCons (xCall oList (xCons (xLit (.tuple [(.tuple [(.int 0), (.int 100)])])) xNil)) (xCons (xFld (PySem.Str.ofString "Lease") (PySem.Str.ofString "first") (xVar 0)) (xCons (xVar 2) xNil)))))) [some (.loc p.l), some (.loc lg), some (.d (.int (toDay x d)))] w) = .ok (.d (.int (dueOf x G d))) w := by
    by_cases q : x.indexed = true
    · have a1 := cons_of (fs _) (cons_of (v1 _) (cons_of (ff _) (cons_of (v2 (.int (toDay x d))) (xNil_ap _ w))))
      have m1 : mapO (toD 6 w) [.loc p.ls, .loc lg, .d (.int x.first), .d (.int (toDay x d))] = some [.list (x.steps.map tup2), .list (G.map tup2), .int x.first, .int (toDay x d)] := by rw [mapO_cons, toD_at h.s, mapO_cons, toD_at hg]; rfl
      have o1 := owed_ok s g x.first.toNat (toDay x d) ht
      rw [hn] at o1
      have e : dueOf x G d = sumD x.steps G x.first.toNat (toDay x d + 1 - x.first).toNat := by unfold dueOf gOf; rw [if_pos q]
      have fi2 := fi (some (.d (.int (toDay x d))))
      rw [q] at fi2
      rw [seq_rt (d := .d (.int (dueOf x G d))) (w1 := w) (by rw [if_of fi2, if_pos rfl, ret_of (callS_of a1 m1 o1), e])]
      rfl
    · have q' : x.indexed = false := by simpa using q
      have pl : xCall oList (xCons (xLit (.tuple [(.tuple [(.int 0), (.int 100)])])) xNil) [some (.loc p.l), some (.loc lg), some (.d (.int (toDay x d)))] w = .ok (.d (.list ([((0 : Int), (100 : Int))].map tup2))) w := rfl
      have a1 := cons_of (fs _) (cons_of pl (cons_of (ff _) (cons_of (v2 (.int (toDay x d))) (xNil_ap _ w))))
      have m1 : mapO (toD 6 w) [.loc p.ls, .d (.list ([((0 : Int), (100 : Int))].map tup2)), .d (.int x.first), .d (.int (toDay x d))] = some [.list (x.steps.map tup2), .list ([((0 : Int), (100 : Int))].map tup2), .int x.first, .int (toDay x d)] := by rw [mapO_cons, toD_at h.s]; rfl
      have o1 := owed_ok s gok_plain x.first.toNat (toDay x d) ht
      rw [hn] at o1
      have e : dueOf x G d = sumD x.steps [(0, 100)] x.first.toNat (toDay x d + 1 - x.first).toNat := by unfold dueOf gOf; rw [if_neg q]
      have fi2 := fi (some (.d (.int (toDay x d))))
      rw [q'] at fi2
      rw [seq_of (e1 := [some (.loc p.l), some (.loc lg), some (.d (.int (toDay x d)))]) (w1 := w) (by rw [if_of fi2]; rfl), ret_of (callS_of a1 m1 o1), e]
      rfl
  have fl := fun o => fld_of (v0 o) h.o (lf_last p x)
  show finW (sm_Lease_due [some (.loc p.l), some (.loc lg), some (.d (.int d))] w) = _
  unfold sm_Lease_due
  cases q : x.last with
  | none =>
    have e : toDay x d = d := by unfold toDay; rw [q]
    have t : xBin oNotN (xFld (PySem.Str.ofString "Lease") (PySem.Str.ofString "last") (xVar 0)) (xLit .none) [some (.loc p.l), some (.loc lg), some (.d (.int d))] w = .ok (.d (.bool false)) w := by
      refine bin_of (fl _) (xLit_ap _ _ _) ?_
      rw [q]
      rfl
    rw [e] at rest
    rw [seq_of (e1 := [some (.loc p.l), some (.loc lg), some (.d (.int d))]) (w1 := w) (by rw [if_of t]; rfl)]
    exact rest
  | some l =>
    have e : toDay x d = if l < d then l else d := by unfold toDay; rw [q]
    have t : xBin oNotN (xFld (PySem.Str.ofString "Lease") (PySem.Str.ofString "last") (xVar 0)) (xLit .none) [some (.loc p.l), some (.loc lg), some (.d (.int d))] w = .ok (.d (.bool true)) w := by
      refine bin_of (fl _) (xLit_ap _ _ _) ?_
      rw [q]
      rfl
    have fl2 := fl (some (.d (.int d)))
    rw [q] at fl2
    have mn : xCall oMin2 (xCons (xVar 2) (xCons (xFld (PySem.Str.ofString "Lease") (PySem.Str.ofString "last") (xVar 0)) xNil)) [some (.loc p.l), some (.loc lg), some (.d (.int d))] w = .ok (.d (.int (toDay x d))) w := by
      rw [xCall_ap, cons_of (v2 (.int d)) (cons_of fl2 (xNil_ap _ w)), bind_ok, e]
      rfl
    rw [seq_of (e1 := [some (.loc p.l), some (.loc lg), some (.d (.int (toDay x d)))]) (w1 := w) (by rw [if_of t, if_pos rfl, set_of mn]; rfl)]
    exact rest
theorem rent_lacking_ok {w : Wd} {p : LP} {x : LM} (h : LeaseAt w p x) {lg : Nat} {G : List (Int × Int)} (hg : w[lg]? = some (.lst ((G.map tup2).map .d))) (s : SOk x.steps) (g : GOk G) (hf : 0 ≤ x.first) (d : Int) (hd : d ≤ 99999) :
    f_Lease_rent_lacking [.loc p.l, .loc lg, .d (.int d)] w = .ok (.d (.int (dueOf x G d - x.rent))) (w.set p.l (.ins (PySem.Str.ofString "Lease") (leaseF p (x.wr (dueOf x G d))))) := by
  have v0 : ∀ o, (xVar 0) [some (.loc p.l), some (.loc lg), some (.d (.int d)), o] w = .ok (.loc p.l) w := fun _ => rfl
  have v1 : ∀ o, (xVar 1) [some (.loc p.l), some (.loc lg), some (.d (.int d)), o] w = .ok (.loc lg) w := fun _ => rfl
  have v2 : ∀ o, (xVar 2) [some (.loc p.l), some (.loc lg), some (.d (.int d)), o] w = .ok (.d (.int d)) w := fun _ => rfl
  have fr := fun o => fld_of (v0 o) h.o (lf_rent p x)
  have mt : xMeth (PySem.Str.ofString "Lease") (PySem.Str.ofString "due") f_Lease_due (xVar 0) (xCons (xVar 1) (xCons (xVar 2) xNil)) [some (.loc p.l), some (.loc lg), some (.d (.int d)), none] w = .ok (.d (.int (dueOf x G d))) w := by
    rw [meth_of (v0 none) h.o rfl (cons_of (v1 none) (cons_of (v2 none) (xNil_ap _ w)))]
    exact due_ok h hg s g hf d hd
  show finW (sm_Lease_rent_lacking [some (.loc p.l), some (.loc lg), some (.d (.int d)), none] w) = _
  unfold sm_Lease_rent_lacking
  rw [seq_of (e1 := [some (.loc p.l), some (.loc lg), some (.d (.int d)), some (.d (.int (dueOf x G d - x.rent)))]) (w1 := w) (set_of (bin_of mt (fr none) (oI_ap _ _ _ _ _)))]
  have s1 : sFld (PySem.Str.ofString "Lease") (PySem.Str.ofString "rent_out") (xVar 0) (xBin oAdd (xFld (PySem.Str.ofString "Lease") (PySem.Str.ofString "rent_out") (xVar 0)) (xVar 3)) [some (.loc p.l), some (.loc lg), some (.d (.int d)), some (.d (.int (dueOf x G d - x.rent)))] w = .ok (.nx [some (.loc p.l), some (.loc lg), some (.d (.int d)), some (.d (.int (dueOf x G d - x.rent)))]) (w.set p.l (.ins (PySem.Str.ofString "Lease") (leaseF p (x.wr (dueOf x G d))))) := by
    rw [setF_of (bin_of (fr _) (show (xVar 3) _ w = .ok (.d (.int (dueOf x G d - x.rent))) w from rfl) (oI_ap _ _ _ _ _)) (v0 _) h.o (lf_len p x)]
    rw [show x.rent + (dueOf x G d - x.rent) = dueOf x G d by omega, put_rent]
  rw [seq_of s1, ret_of (show (xVar 3) _ _ = .ok (.d (.int (dueOf x G d - x.rent))) _ from rfl)]
  rfl
end LW

set_option Elab.async false
set_option linter.all false
set_option maxRecDepth 100000
set_option maxHeartbeats 4000000
namespace LW
open PySem PySem.Spec PyProof.Rows L2 RK
/-! Roll.done: what it leaves and tells -/
abbrev abc : Str := (PySem.Str.ofString "abcdefghijklmnopqrstuvwxyz")
def signOk (c : Nat) : Bool := decide (c ∈ abc.cps.toList)
def flatS (z : Str) : Bool := (decide (1 ≤ z.length) && decide (z.length ≤ 8)) && z.cps.toList.all signOk
def newLs (R : RM) (x : LM) : LM := (x.wr (dueOf x R.gauges R.through)).wp (pledgeTo x R.rates)
/-- a lease's own part of the answer -/
def answers (R : RM) (k : Int) (x : LM) : List PyData :=
  (if dueOf x R.gauges R.through - x.rent = 0 then [] else [.tuple [.str (PySem.Str.ofString "rent"), .int k, .int (dueOf x R.gauges R.through - x.rent)]]) ++
  (if pledgeTo x R.rates - x.pledge = 0 then [] else [.tuple [.str (PySem.Str.ofString "pledge"), .int k, .int (pledgeTo x R.rates - x.pledge)]])
/-- what a roll must keep for its reckoning -/
structure Sane (R : RM) : Prop where
  g : GOk R.gauges
  r : ROk R.rates
  th : R.through ≤ 99999
  s : ∀ x ∈ R.leases, SOk x.steps
  f : ∀ x ∈ R.leases, 0 ≤ x.first
  sh : ∀ x ∈ R.leases, ∀ d, x.shut = some d → d ≤ 99999
  fl : ∀ x ∈ R.leases, flatS x.flat = true
theorem LeaseAt.set {w : Wd} {p : LP} {x y : LM} (h : LeaseAt w p x) (e4 : y.steps = x.steps) (e5 : y.moves = x.moves) (n1 : p.l ≠ p.ls) (n2 : p.l ≠ p.lm) : LeaseAt (w.set p.l (leaseO p y)) p y := by
  refine ⟨?_, ?_, ?_⟩
  · rw [List.getElem?_set_self (at_lt h.o)]
  · rw [e4, List.getElem?_set_ne n1]
    exact h.s
  · rw [e5, List.getElem?_set_ne n2]
    exact h.m
theorem LeaseAt.other {w : Wd} {p : LP} {x : LM} (h : LeaseAt w p x) {l : Nat} {o : AO} (n1 : l ≠ p.l) (n2 : l ≠ p.ls) (n3 : l ≠ p.lm) : LeaseAt (w.set l o) p x := 
  ⟨by rw [List.getElem?_set_ne n1]; exact h.o, by rw [List.getElem?_set_ne n2]; exact h.s, by rw [List.getElem?_set_ne n3]; exact h.m⟩
theorem if_app (tag : Str) {w : Wd} {F : Nat} {acc : List PyData} (hF : w[F]? = some (.lst (acc.map .d))) (hl : acc.length < 100000) (a b : Option DV) (k c : Int) (x : Option DV) :
    sIf (xBin oNe (xVar 5) (xLit (.int 0))) (sExp (xApp (xVar 2) (xTup (xCons (xLit (.str tag)) (xCons (xVar 3) (xCons (xVar 5) xNil)))))) sNil [a, b, some (.loc F), some (.d (.int k)), x, some (.d (.int c))] w =
      .ok (.nx [a, b, some (.loc F), some (.d (.int k)), x, some (.d (.int c))]) (w.set F (.lst ((acc ++ (if c = 0 then [] else [PyData.tuple [.str tag, .int k, .int c]])).map .d))) := by
  have t := bin_of (op := oNe) (show (xVar 5) [a, b, some (.loc F), some (.d (.int k)), x, some (.d (.int c))] w = .ok (.d (.int c)) w from rfl) (xLit_ap (.int 0) _ w) (oNe_int c 0 w)
  rw [if_of t]
  by_cases h : c = 0
  · rw [if_neg (by simp [h]), if_pos h, List.append_nil, set_same hF]
    rfl
  · rw [if_pos (by simp [h]), if_neg h]
    have tp : xTup (xCons (xLit (.str tag)) (xCons (xVar 3) (xCons (xVar 5) xNil))) [a, b, some (.loc F), some (.d (.int k)), x, some (.d (.int c))] w = .ok (.d (.tuple [.str tag, .int k, .int c])) w := rfl
    rw [exp_of (app_of (show (xVar 2) [a, b, some (.loc F), some (.d (.int k)), x, some (.d (.int c))] w = .ok (.loc F) w from rfl) hF tp hF (by rw [List.length_map]; exact hl)), List.map_append]
    rfl
theorem done_body {w : Wd} {P : RP} {R : RM} (hr : w[P.r]? = some (.ins (PySem.Str.ofString "Roll") (rollF P R))) (hg : w[P.lg]? = some (.lst ((R.gauges.map tup2).map .d))) (hrt : w[P.lr]? = some (.lst ((R.rates.map tup2).map .d))) (S : Sane R) {p : LP} {x : LM} (hm : x ∈ R.leases) (hx : LeaseAt w p x) (hmv : x.moves.length ≤ 100000)
    {F : Nat} {acc : List PyData} (hF : w[F]? = some (.lst (acc.map .d))) (hl : acc.length < 90000) (n1 : p.l ≠ p.ls) (n2 : p.l ≠ p.lm) (n3 : p.l ≠ P.r) (n4 : p.l ≠ P.lr) (n5 : p.l ≠ F) (n6 : F ≠ P.r) (n7 : F ≠ P.lr) (n8 : F ≠ p.ls) (n9 : F ≠ p.lm) (a c : Option DV) (k : Int) :
    sm_Roll_done_l1 [some (.loc P.r), a, some (.loc F), some (.d (.int k)), some (.loc p.l), c] w =
      .ok (.nx [some (.loc P.r), a, some (.loc F), some (.d (.int k)), some (.loc p.l), some (.d (.int (pledgeTo x R.rates - x.pledge)))]) ((w.set p.l (.ins (PySem.Str.ofString "Lease") (leaseF p (newLs R x)))).set F (.lst ((acc ++ answers R k x).map .d))) := by
  have rl := rent_lacking_ok hx hg (S.s x hm) S.g (S.f x hm) R.through S.th
  have v0 : ∀ c w, (xVar 0) [some (.loc P.r), a, some (.loc F), some (.d (.int k)), some (.loc p.l), c] w = .ok (.loc P.r) w := fun _ _ => rfl
  have v4 : ∀ c w, (xVar 4) [some (.loc P.r), a, some (.loc F), some (.d (.int k)), some (.loc p.l), c] w = .ok (.loc p.l) w := fun _ _ => rfl
  have m1 : xMeth (PySem.Str.ofString "Lease") (PySem.Str.ofString "rent_lacking") f_Lease_rent_lacking (xVar 4) (xCons (xFld (PySem.Str.ofString "Roll") (PySem.Str.ofString "gauges") (xVar 0)) (xCons (xFld (PySem.Str.ofString "Roll") (PySem.Str.ofString "through") (xVar 0)) xNil)) [some (.loc P.r), a, some (.loc F), some (.d (.int k)), some (.loc p.l), c] w =
      .ok (.d (.int (dueOf x R.gauges R.through - x.rent))) (w.set p.l (.ins (PySem.Str.ofString "Lease") (leaseF p (x.wr (dueOf x R.gauges R.through))))) := by
    rw [meth_of (v4 c w) hx.o rfl (cons_of (fld_of (v0 c w) hr (rf_gauges P R)) (cons_of (fld_of (v0 c w) hr (rf_through P R)) (xNil_ap _ w)))]
    exact rl
  generalize hD : dueOf x R.gauges R.through = D at m1
  have hx1 : LeaseAt (w.set p.l (.ins (PySem.Str.ofString "Lease") (leaseF p (x.wr D)))) p (x.wr D) := hx.set rfl rfl n1 n2
  have hF1 : (w.set p.l (.ins (PySem.Str.ofString "Lease") (leaseF p (x.wr D))))[F]? = some (.lst (acc.map .d)) := by rw [List.getElem?_set_ne n5]; exact hF
  have i1 := fun c => if_app (PySem.Str.ofString "rent") hF1 (by omega) (some (.loc P.r)) a k c (some (.loc p.l))
  generalize hA : acc ++ (if D - x.rent = 0 then [] else [PyData.tuple [.str (PySem.Str.ofString "rent"), .int k, .int (D - x.rent)]]) = A
  have i1 := i1 (D - x.rent)
  rw [hA] at i1
  have hAl : A.length < 100000 := by rw [← hA]; split <;> simp <;> omega
  generalize hw2 : (w.set p.l (.ins (PySem.Str.ofString "Lease") (leaseF p (x.wr D)))).set F (.lst (A.map .d)) = w2 at i1
  have hx2 : LeaseAt w2 p (x.wr D) := by
    rw [← hw2]
    exact hx1.other n5.symm n8 n9
  have hr2 : w2[P.r]? = some (.ins (PySem.Str.ofString "Roll") (rollF P R)) := by rw [← hw2, List.getElem?_set_ne n6, List.getElem?_set_ne n3]; exact hr
  have hrt2 : w2[P.lr]? = some (.lst ((R.rates.map tup2).map .d)) := by rw [← hw2, List.getElem?_set_ne n7, List.getElem?_set_ne n4]; exact hrt
  have pl := pledge_lacking_ok hx2 hrt2 S.r hmv (S.sh x hm)
  have m2 : ∀ c, xMeth (PySem.Str.ofString "Lease") (PySem.Str.ofString "pledge_lacking") f_Lease_pledge_lacking (xVar 4) (xCons (xFld (PySem.Str.ofString "Roll") (PySem.Str.ofString "rates") (xVar 0)) xNil) [some (.loc P.r), a, some (.loc F), some (.d (.int k)), some (.loc p.l), c] w2 =
      .ok (.d (.int (pledgeTo x R.rates - x.pledge))) (w2.set p.l (.ins (PySem.Str.ofString "Lease") (leaseF p ((x.wr D).wp (pledgeTo x R.rates))))) := by
    intro c
    rw [meth_of (v4 c w2) hx2.o rfl (cons_of (fld_of (v0 c w2) hr2 (rf_rates P R)) (xNil_ap _ w2))]
    exact pl
  have hF3 : (w2.set p.l (.ins (PySem.Str.ofString "Lease") (leaseF p ((x.wr D).wp (pledgeTo x R.rates)))))[F]? = some (.lst (A.map .d)) := by
    rw [List.getElem?_set_ne n5, ← hw2, List.getElem?_set_self (by rw [List.length_set]; exact at_lt hF)]
  have i2 := if_app (PySem.Str.ofString "pledge") hF3 hAl (some (.loc P.r)) a k (pledgeTo x R.rates - x.pledge) (some (.loc p.l))
  unfold sm_Roll_done_l1
  rw [seq_of (e1 := [some (.loc P.r), a, some (.loc F), some (.d (.int k)), some (.loc p.l), some (.d (.int (D - x.rent)))]) (set_of m1), seq_of i1,
    seq_of (e1 := [some (.loc P.r), a, some (.loc F), some (.d (.int k)), some (.loc p.l), some (.d (.int (pledgeTo x R.rates - x.pledge)))]) (set_of (m2 _)), i2]
  have e1 : acc ++ answers R k x = A ++ (if pledgeTo x R.rates - x.pledge = 0 then [] else [PyData.tuple [.str (PySem.Str.ofString "pledge"), .int k, .int (pledgeTo x R.rates - x.pledge)]]) := by
    unfold answers
    rw [hD, ← hA, List.append_assoc]
  have e2 : newLs R x = (x.wr D).wp (pledgeTo x R.rates) := by unfold newLs; rw [hD]
  rw [e1, e2, ← hw2]
  congr 1
  rw [List.set_comm _ _ n5.symm, List.set_set, List.set_set]
theorem forE_nil {i j : Nat} {s : SM} {C : Wd → Prop} {k : Nat} {e : En} {w : Wd} (h : C w) : forE i j s C [] k e w = .ok (.nx e) w := by
  unfold forE
  rw [if_pos h]
theorem forE_cons {i j : Nat} {s : SM} {C : Wd → Prop} {d : DV} {ds : List DV} {k : Nat} {e e2 : En} {w w2 : Wd} (h : C w) (hs : s ((e.set i (some (.d (.int (k : Int))))).set j (some d)) w = .ok (.nx e2) w2) : forE i j s C (d :: ds) k e w = forE i j s C ds (k + 1) e2 w2 := by
  rw [forE, if_pos h, hs]
/-- the answers of all leases, from a number on -/
def answersF (R : RM) : Nat → List LM → List PyData
  | _, [] => []
  | k, x :: xs => answers R (k : Int) x ++ answersF R (k + 1) xs
def RM.dn (R : RM) : RM := { R with leases := R.leases.map (newLs R) }
theorem answers_len (R : RM) (k : Int) (x : LM) : (answers R k x).length ≤ 2 := by
  unfold answers
  split <;> split <;> simp
theorem At.neo {w : Wd} {C : List Cell} (h : At w C) {a b : Nat} {o o' : AO} (ha : (a, o) ∈ C) (hb : (b, o') ∈ C) (ne : o ≠ o') : a ≠ b := fun e => by
  subst e
  have := (h.at_ ha).symm.trans (h.at_ hb)
  exact ne (Option.some.inj this)
theorem RAt.apart {w : Wd} {P : RP} {R : RM} {D : List Cell} (h : RAt w P R D) {c d : Cell} (hc : c ∈ rollC P R) (hd : d ∈ D) : c.1 ≠ d.1 := by
  have := h.at_.nd
  rw [List.map_append, List.nodup_append] at this
  exact this.2.2 _ (List.mem_map_of_mem hc) _ (List.mem_map_of_mem hd)
theorem ins_ne_lst (c : Str) (fs : List (Str × DV)) (xs : List DV) : AO.ins c fs ≠ AO.lst xs := fun e => by cases e
theorem lease_ne_roll (p x P R) : leaseO p x ≠ rollO P R := fun e => by
  injection e with e1
  exact absurd e1 (by decide +kernel)
theorem done_loop {P : RP} {R : RM} {F : Nat} {D : List Cell} (S : Sane R) (hmv : ∀ x ∈ R.leases, x.moves.length ≤ 100000) (a : Option DV) : ∀ (td pre : List LM) (acc : List PyData) (w : Wd) (c3 c4 c5 : Option DV), R.leases = pre ++ td →
    RAt w P { R with leases := pre.map (newLs R) ++ td } ((F, .lst (acc.map .d)) :: D) → acc.length + 2 * td.length < 90000 →
    ∃ w' e3 e4 e5, forE 3 4 sm_Roll_done_l1 (fun w => w[P.la]? = some (locsO P.ls)) ((P.ls.drop pre.length).map fun p => .loc p.l) pre.length [some (.loc P.r), a, some (.loc F), c3, c4, c5] w = .ok (.nx [some (.loc P.r), a, some (.loc F), e3, e4, e5]) w' ∧
      RAt w' P R.dn ((F, .lst ((acc ++ answersF R pre.length td).map .d)) :: D) := by
  intro td
  induction td with
  | nil =>
    intro pre acc w c3 c4 c5 e h hl
    have len := h.len
    simp only [List.append_nil, List.length_map] at len
    rw [show P.ls.drop pre.length = [] from List.drop_eq_nil_of_le (by omega), List.map_nil]
    refine ⟨w, c3, c4, c5, forE_nil h.a, ?_⟩
    have e2 : R.dn = { R with leases := pre.map (newLs R) ++ [] } := by
      unfold RM.dn
      rw [e, List.append_nil, List.append_nil]
    rw [e2]
    simpa [answersF] using h
  | cons x td ih =>
    intro pre acc w c3 c4 c5 e h hl
    have len := h.len
    simp only [List.length_append, List.length_map, List.length_cons] at len
    have hp : P.ls[pre.length]? = some (P.ls[pre.length]'(by omega)) := List.getElem?_eq_getElem (by omega)
    generalize P.ls[pre.length]'(by omega) = p at hp
    have hd : P.ls.drop pre.length = p :: P.ls.drop (pre.length + 1) := by
      obtain ⟨hlt, he⟩ := List.getElem?_eq_some_iff.mp hp
      rw [← he]
      exact List.drop_eq_getElem_cons hlt
    have hxe : ({ R with leases := pre.map (newLs R) ++ x :: td } : RM).leases[pre.length]? = some x := by
      show (pre.map (newLs R) ++ x :: td)[pre.length]? = _
      rw [List.getElem?_append_right (by rw [List.length_map]; exact Nat.le_refl _), List.length_map]
      simp
    have hm : x ∈ R.leases := by rw [e]; simp
    have hx := h.lease hp hxe
    have hF := h.get (c := (F, AO.lst (acc.map .d))) (by simp)
    have mF : ((F, AO.lst (acc.map .d)) : Cell) ∈ (F, AO.lst (acc.map .d)) :: D := List.mem_cons_self ..
    have ml : ∀ c ∈ leaseC p x, c ∈ rollC P { R with leases := pre.map (newLs R) ++ x :: td } := fun c hc => List.mem_append_right _ (leasesC_mem hp hxe c hc)
    have l0 : (p.l, leaseO p x) ∈ leaseC p x := by simp [leaseC]
    have l1 : (p.ls, AO.lst (ivs x.steps)) ∈ leaseC p x := by simp [leaseC]
    have l2 : (p.lm, AO.lst (ivs x.moves)) ∈ leaseC p x := by simp [leaseC]
    have r0 : (P.r, rollO P { R with leases := pre.map (newLs R) ++ x :: td }) ∈ rollC P { R with leases := pre.map (newLs R) ++ x :: td } := by simp [rollC]
    have r3 : (P.lr, AO.lst (ivs R.rates)) ∈ rollC P { R with leases := pre.map (newLs R) ++ x :: td } := by simp [rollC]
    have up : ∀ {c}, c ∈ rollC P { R with leases := pre.map (newLs R) ++ x :: td } → c ∈ rollC P { R with leases := pre.map (newLs R) ++ x :: td } ++ ((F, AO.lst (acc.map .d)) :: D) := fun h => List.mem_append_left _ h
    have b := done_body (R := R) (k := (pre.length : Int)) h.o h.g h.rt S hm hx (hmv x hm) hF (by omega)
      (h.at_.neo (up (ml _ l0)) (up (ml _ l1)) (ins_ne_lst _ _ _)) (h.at_.neo (up (ml _ l0)) (up (ml _ l2)) (ins_ne_lst _ _ _))
      (h.at_.neo (up (ml _ l0)) (up r0) (lease_ne_roll _ _ _ _)) (h.at_.neo (up (ml _ l0)) (up r3) (ins_ne_lst _ _ _))
      (h.apart (ml _ l0) mF) (h.apart r0 mF).symm (h.apart r3 mF).symm (h.apart (ml _ l1) mF).symm (h.apart (ml _ l2) mF).symm a c5
    have h1 := h.setL (newLs R x) hp hxe rfl rfl
    have e3 : (pre.map (newLs R) ++ x :: td).set pre.length (newLs R x) = (pre ++ [x]).map (newLs R) ++ td := by
      rw [List.set_append_right _ _ (by rw [List.length_map]; exact Nat.le_refl _), List.length_map, Nat.sub_self]
      simp
    have h2 : RAt (w.set p.l (leaseO p (newLs R x))) P { R with leases := (pre ++ [x]).map (newLs R) ++ td } ((F, .lst (acc.map .d)) :: D) := by
      rw [← e3]
      exact h1
    have h3 := h2.put0 (o' := .lst ((acc ++ answers R (pre.length : Int) x).map .d))
    obtain ⟨w', f3, f4, f5, q1, q2⟩ := ih (pre ++ [x]) _ _ (some (.d (.int (pre.length : Int)))) (some (.loc p.l)) (some (.d (.int (pledgeTo x R.rates - x.pledge)))) (by rw [e]; simp) h3 (by
      have := answers_len R (pre.length : Int) x
      rw [List.length_append]
      rw [List.length_cons] at hl
      omega)
    refine ⟨w', f3, f4, f5, ?_, ?_⟩
    · rw [hd, List.map_cons, forE_cons h.a b]
      have e4 : (pre ++ [x]).length = pre.length + 1 := by simp
      rw [e4] at q1
      exact q1
    · have e4 : (pre ++ [x]).length = pre.length + 1 := by simp
      rw [e4, List.append_assoc] at q2
      exact q2
/-- a letter is kept, and what must be is sent -/
def RM.done (R : RM) (t : PyData) : RM := { R.dn with told := R.told ++ [t] }
def RM.alls (R : RM) : List PyData := answersF R 0 R.leases
theorem answersF_told (R : RM) (t : List PyData) : ∀ (xs : List LM) (k : Nat), answersF { R with told := t } k xs = answersF R k xs
  | [], _ => rfl
  | x :: xs, k => by
    unfold answersF
    rw [answersF_told R t xs (k + 1)]
    rfl
theorem done_ok {w : Wd} {P : RP} {R : RM} {D : List Cell} (h : RAt w P R D) (S : Sane R) (hmv : ∀ x ∈ R.leases, x.moves.length ≤ 100000) (t : PyData) (ht : R.told.length < 100000) (hn : R.leases.length ≤ 40000) :
    ∃ w' l, f_Roll_done [.loc P.r, .d t] w = .ok (.loc l) w' ∧ RAt w' P (R.done t) ((l, .lst (R.alls.map .d)) :: D) := by
  have v0 : ∀ a b c d w, (xVar 0) [some (.loc P.r), some (.d t), a, b, c, d] w = .ok (.loc P.r) w := fun _ _ _ _ _ => rfl
  have s1 : sExp (xApp (xFld (PySem.Str.ofString "Roll") (PySem.Str.ofString "told") (xVar 0)) (xVar 1)) [some (.loc P.r), some (.d t), none, none, none, none] w = .ok (.nx [some (.loc P.r), some (.d t), none, none, none, none]) (w.set P.lt (.lst ((R.told ++ [t]).map .d))) := by
    rw [exp_of (app_of (fld_of (v0 _ _ _ _ w) h.o (rf_told P R)) h.t (show (xVar 1) [some (.loc P.r), some (.d t), none, none, none, none] w = .ok (.d t) w from rfl) h.t (by rw [List.length_map]; exact ht)), List.map_append]
    rfl
  have h1 := h.setT (R.told ++ [t])
  generalize w.set P.lt (.lst ((R.told ++ [t]).map .d)) = w1 at s1 h1
  have h2 := h1.new (.lst [])
  have s2 : sSet 2 (xLstS xNil) [some (.loc P.r), some (.d t), none, none, none, none] w1 = .ok (.nx [some (.loc P.r), some (.d t), some (.loc w1.length), none, none, none]) (w1 ++ [.lst []]) := rfl
  have S' : Sane { R with told := R.told ++ [t] } := ⟨S.g, S.r, S.th, S.s, S.f, S.sh, S.fl⟩
  obtain ⟨w', e3, e4, e5, q1, q2⟩ := done_loop (R := { R with told := R.told ++ [t] }) S' hmv (some (.d t)) R.leases [] [] _ none none none rfl h2 (by simp; omega)
  have s3 : sForE 3 4 (xFld (PySem.Str.ofString "Roll") (PySem.Str.ofString "leases") (xVar 0)) sm_Roll_done_l1 [some (.loc P.r), some (.d t), some (.loc w1.length), none, none, none] (w1 ++ [.lst []]) = .ok (.nx [some (.loc P.r), some (.d t), some (.loc w1.length), e3, e4, e5]) w' := by
    show ((xFld (PySem.Str.ofString "Roll") (PySem.Str.ofString "leases") (xVar 0)) [some (.loc P.r), some (.d t), some (.loc w1.length), none, none, none] (w1 ++ [.lst []])).st _ _ = _
    rw [fld_of (v0 _ _ _ _ _) h2.o (rf_leases P _), st_ok]
    show (match (w1 ++ [AO.lst []])[P.la]? with
      | some (.lst xs) => forE 3 4 sm_Roll_done_l1 (fun w => w[P.la]? = some (AO.lst xs)) xs 0 [some (.loc P.r), some (.d t), some (.loc w1.length), none, none, none] (w1 ++ [AO.lst []])
      | _ => .bad) = _
    rw [h2.a]
    exact q1
  rw [List.nil_append, List.length_nil, answersF_told] at q2
  refine ⟨w', w1.length, ?_, q2⟩
  show finW (sm_Roll_done [some (.loc P.r), some (.d t), none, none, none, none] w) = _
  unfold sm_Roll_done
  rw [seq_of s1, seq_of s2, seq_of s3]
  rfl
end LW

set_option Elab.async false
set_option linter.all false
set_option maxRecDepth 100000
set_option maxHeartbeats 4000000
namespace LW
open PySem PySem.Spec PyProof.Rows L2 RK
/-! letters: what they change, and what is refused -/
inductive Lt where
  | letF (flat : Str) (first rent : Int) (ix : Bool)
  | endL (n : Nat) (last : Int)
  | step (n : Nat) (first rent : Int)
  | gauge (first num : Int)
  | rate (first num : Int)
  | paid (n : Nat) (day cents : Int)
  | kept (n : Nat) (day cents : Int)
  | close (n : Nat) (day : Int)
  | bill (day : Int)
def Lt.args : Lt → List PyData
  | .letF f d r ix => [.str f, .int d, .int r, .bool ix]
  | .endL n d => [.int n, .int d]
  | .step n d r => [.int n, .int d, .int r]
  | .gauge d v => [.int d, .int v]
  | .rate d v => [.int d, .int v]
  | .paid n d c => [.int n, .int d, .int c]
  | .kept n d c => [.int n, .int d, .int c]
  | .close n d => [.int n, .int d]
  | .bill d => [.int d]
def Lt.word : Lt → Str
  | .letF .. => (PySem.Str.ofString "let")
  | .endL .. => (PySem.Str.ofString "end")
  | .step .. => (PySem.Str.ofString "step")
  | .gauge .. => (PySem.Str.ofString "gauge")
  | .rate .. => (PySem.Str.ofString "rate")
  | .paid .. => (PySem.Str.ofString "paid")
  | .kept .. => (PySem.Str.ofString "kept")
  | .close .. => (PySem.Str.ofString "close")
  | .bill .. => (PySem.Str.ofString "bill")
def Lt.data (L : Lt) : PyData := .tuple (.str L.word :: L.args)
def Lt.num : Lt → Option Nat
  | .endL n _ | .step n _ _ | .paid n _ _ | .kept n _ _ | .close n _ => some n
  | _ => none
def Lt.day : Lt → Int
  | .letF _ d _ _ | .endL _ d | .step _ d _ | .gauge d _ | .rate d _ | .paid _ d _ | .kept _ d _ | .close _ d | .bill d => d
def Lt.flatIn : Lt → List Str → Prop
  | .letF f _ _ _, fs => f ∈ fs
  | _, _ => True
def newLM (f : Str) (d r : Int) (ix : Bool) : LM := ⟨f, d, none, ix, [(d, r)], [], none, 0, 0⟩
def RM.mod (R : RM) (n : Nat) (f : LM → LM) : RM := match R.leases[n]? with
  | some x => { R with leases := R.leases.set n (f x) }
  | none => R
def LM.addS (x : LM) (p : Int × Int) : LM := { x with steps := x.steps ++ [p] }
def LM.addM (x : LM) (p : Int × Int) : LM := { x with moves := x.moves ++ [p] }
/-- the change that a letter is -/
def RM.put (R : RM) : Lt → RM
  | .letF f d r ix => { R with leases := R.leases ++ [newLM f d r ix] }
  | .endL n d => R.mod n fun x => x.wla d
  | .step n d r => R.mod n fun x => x.addS (d, r)
  | .gauge d v => { R with gauges := R.gauges ++ [(d, v)] }
  | .rate d v => { R with rates := R.rates ++ [(d, v)] }
  | .paid n d c => R.mod n fun x => x.addM (d, c)
  | .kept n d c => R.mod n fun x => x.addM (d, 0 - c)
  | .close n d => R.mod n fun x => x.wsh d
  | .bill d => { R with through := d }
def RM.tell (R : RM) (L : Lt) : RM := (R.put L).done L.data
def RM.ans (R : RM) (L : Lt) : List PyData := (R.put L).alls
abbrev isDay (d : Int) : Prop := 0 ≤ d ∧ d ≤ 99999
/-- its things are as told -/
def Lt.Ok : Lt → Prop
  | .letF f d r _ => flatS f = true ∧ isDay d ∧ 0 ≤ r ∧ r ≤ 1000000000
  | .endL _ d => isDay d
  | .step _ d r => isDay d ∧ 0 ≤ r ∧ r ≤ 1000000000
  | .gauge d v => isDay d ∧ 1 ≤ v ∧ v ≤ 1000000
  | .rate d v => isDay d ∧ 0 ≤ v ∧ v ≤ 10000
  | .paid _ d c => isDay d ∧ 1 ≤ c ∧ c ≤ 1000000000
  | .kept _ d c => isDay d ∧ 1 ≤ c ∧ c ≤ 1000000000
  | .close _ d => isDay d
  | .bill d => isDay d
/-- how much there is at most -/
structure Room (R : RM) (n : Nat) : Prop where
  t : R.told.length ≤ n
  l : R.leases.length ≤ n
  g : R.gauges.length ≤ n + 1
  r : R.rates.length ≤ n + 1
  m : ∀ x ∈ R.leases, x.moves.length ≤ n
  s : ∀ x ∈ R.leases, x.steps.length ≤ n + 1
theorem mem_mod {R : RM} {n : Nat} {f : LM → LM} {y : LM} (h : y ∈ (R.mod n f).leases) : y ∈ R.leases ∨ ∃ x ∈ R.leases, y = f x := by
  unfold RM.mod at h
  cases q : R.leases[n]? with
  | none => rw [q] at h; exact .inl h
  | some x =>
    rw [q] at h
    rcases List.mem_or_eq_of_mem_set h with h | h
    · exact .inl h
    · exact .inr ⟨x, List.mem_of_getElem? q, h⟩
theorem mod_same {R : RM} {n : Nat} {f : LM → LM} : (R.mod n f).gauges = R.gauges ∧ (R.mod n f).rates = R.rates ∧ (R.mod n f).through = R.through ∧ (R.mod n f).told = R.told ∧ (R.mod n f).leases.length = R.leases.length := by
  unfold RM.mod
  cases q : R.leases[n]? <;> simp
theorem gok_app {G : List (Int × Int)} (g : GOk G) (p : Int × Int) (h : 1 ≤ p.2 ∧ p.2 ≤ 1000000) : GOk (G ++ [p]) := by
  refine ⟨fun d hd => ?_, fun q hq => ?_⟩
  · obtain ⟨q, e⟩ := g.h d hd
    unfold hld at *
    rw [List.foldl_append, e]
    exact hfold_some d [p] q
  · rcases List.mem_append.mp hq with hq | hq
    · exact g.b q hq
    · rw [List.mem_singleton] at hq
      subst hq
      exact h
theorem rok_app {G : List (Int × Int)} (g : ROk G) (p : Int × Int) (h : 0 ≤ p.2 ∧ p.2 ≤ 10000) : ROk (G ++ [p]) := by
  refine ⟨fun d hd => ?_, fun q hq => ?_⟩
  · obtain ⟨q, e⟩ := g.h d hd
    unfold hld at *
    rw [List.foldl_append, e]
    exact hfold_some d [p] q
  · rcases List.mem_append.mp hq with hq | hq
    · exact g.b q hq
    · rw [List.mem_singleton] at hq
      subst hq
      exact h
theorem sane_mod {R : RM} (S : Sane R) {n : Nat} {f : LM → LM} (h : ∀ x ∈ R.leases, SOk (f x).steps ∧ 0 ≤ (f x).first ∧ (∀ d, (f x).shut = some d → d ≤ 99999) ∧ flatS (f x).flat = true) : Sane (R.mod n f) := by
  obtain ⟨e1, e2, e3, e4, e5⟩ := mod_same (R := R) (n := n) (f := f)
  refine ⟨e1 ▸ S.g, e2 ▸ S.r, e3 ▸ S.th, fun y hy => ?_, fun y hy => ?_, fun y hy => ?_, fun y hy => ?_⟩ <;> rcases mem_mod hy with hy | ⟨x, hx, rfl⟩
  · exact S.s y hy
  · exact (h x hx).1
  · exact S.f y hy
  · exact (h x hx).2.1
  · exact S.sh y hy
  · exact (h x hx).2.2.1
  · exact S.fl y hy
  · exact (h x hx).2.2.2
theorem sane_put {R : RM} (S : Sane R) {L : Lt} (o : L.Ok) : Sane (R.put L) := by
  cases L with
  | letF f d r ix =>
    refine ⟨S.g, S.r, S.th, fun y hy => ?_, fun y hy => ?_, fun y hy => ?_, fun y hy => ?_⟩ <;> rcases List.mem_append.mp hy with hy | hy
    · exact S.s y hy
    · rw [List.mem_singleton] at hy
      subst hy
      refine ⟨fun p hp => ?_⟩
      have : p = (d, r) := by simpa [newLM] using hp
      subst this
      exact ⟨o.2.1.1, o.2.2⟩
    · exact S.f y hy
    · rw [List.mem_singleton] at hy
      subst hy
      exact o.2.1.1
    · exact S.sh y hy
    · rw [List.mem_singleton] at hy
      subst hy
      intro d h
      cases h
    · exact S.fl y hy
    · rw [List.mem_singleton] at hy
      subst hy
      exact o.1
  | endL n d => exact sane_mod S fun x hx => ⟨S.s x hx, S.f x hx, S.sh x hx, S.fl x hx⟩
  | step n d r =>
    refine sane_mod S fun x hx => ⟨⟨fun p hp => ?_⟩, S.f x hx, S.sh x hx, S.fl x hx⟩
    rcases List.mem_append.mp hp with hp | hp
    · exact (S.s x hx).b p hp
    · rw [List.mem_singleton] at hp
      subst hp
      exact ⟨o.1.1, o.2⟩
  | gauge d v => exact ⟨gok_app S.g _ o.2, S.r, S.th, S.s, S.f, S.sh, S.fl⟩
  | rate d v => exact ⟨S.g, rok_app S.r _ o.2, S.th, S.s, S.f, S.sh, S.fl⟩
  | paid n d c => exact sane_mod S fun x hx => ⟨S.s x hx, S.f x hx, S.sh x hx, S.fl x hx⟩
  | kept n d c => exact sane_mod S fun x hx => ⟨S.s x hx, S.f x hx, S.sh x hx, S.fl x hx⟩
  | close n d => exact sane_mod S fun x hx => ⟨S.s x hx, S.f x hx, fun e he => by cases he; exact o.2, S.fl x hx⟩
  | bill d => exact ⟨S.g, S.r, o.2, S.s, S.f, S.sh, S.fl⟩
theorem sane_done {R : RM} (S : Sane R) (t : PyData) : Sane (R.done t) := by
  refine ⟨S.g, S.r, S.th, fun y hy => ?_, fun y hy => ?_, fun y hy => ?_, fun y hy => ?_⟩ <;> obtain ⟨x, hx, rfl⟩ := List.mem_map.mp hy
  · exact S.s x hx
  · exact S.f x hx
  · exact S.sh x hx
  · exact S.fl x hx
theorem sane_tell {R : RM} (S : Sane R) {L : Lt} (o : L.Ok) : Sane (R.tell L) := sane_done (sane_put S o) _
theorem room_mod {R : RM} {k : Nat} (h : Room R k) {n : Nat} {f : LM → LM} (hf : ∀ x ∈ R.leases, (f x).moves.length ≤ k + 1 ∧ (f x).steps.length ≤ k + 2) : Room (R.mod n f) (k + 1) := by
  obtain ⟨e1, e2, e3, e4, e5⟩ := mod_same (R := R) (n := n) (f := f)
  refine ⟨by rw [e4]; exact Nat.le_succ_of_le h.t, by rw [e5]; exact Nat.le_succ_of_le h.l, by rw [e1]; exact Nat.le_succ_of_le h.g, by rw [e2]; exact Nat.le_succ_of_le h.r, fun y hy => ?_, fun y hy => ?_⟩ <;> rcases mem_mod hy with hy | ⟨x, hx, rfl⟩
  · exact Nat.le_succ_of_le (h.m y hy)
  · exact (hf x hx).1
  · exact Nat.le_succ_of_le (h.s y hy)
  · exact (hf x hx).2
theorem room_put {R : RM} {k : Nat} (h : Room R k) (L : Lt) : Room (R.put L) (k + 1) := by
  have up : Room R (k + 1) := ⟨Nat.le_succ_of_le h.t, Nat.le_succ_of_le h.l, Nat.le_succ_of_le h.g, Nat.le_succ_of_le h.r, fun x hx => Nat.le_succ_of_le (h.m x hx), fun x hx => Nat.le_succ_of_le (h.s x hx)⟩
  have idm : ∀ x ∈ R.leases, x.moves.length ≤ k + 1 ∧ x.steps.length ≤ k + 2 := fun x hx => ⟨up.m x hx, up.s x hx⟩
  cases L with
  | letF f d r ix =>
    refine ⟨up.t, ?_, up.g, up.r, fun y hy => ?_, fun y hy => ?_⟩
    · show (R.leases ++ [_]).length ≤ _
      have := h.l
      rw [List.length_append, List.length_singleton]
      omega
    · rcases List.mem_append.mp hy with hy | hy
      · exact up.m y hy
      · rw [List.mem_singleton] at hy
        subst hy
        exact Nat.zero_le _
    · rcases List.mem_append.mp hy with hy | hy
      · exact up.s y hy
      · rw [List.mem_singleton] at hy
        subst hy
        show 1 ≤ _
        omega
  | endL n d => exact room_mod h idm
  | step n d r =>
    refine room_mod h fun x hx => ⟨(idm x hx).1, ?_⟩
    have := h.s x hx
    show (x.steps ++ [_]).length ≤ _
    rw [List.length_append, List.length_singleton]
    omega
  | gauge d v =>
    refine ⟨up.t, up.l, ?_, up.r, up.m, up.s⟩
    have := h.g
    show (R.gauges ++ [_]).length ≤ _
    rw [List.length_append, List.length_singleton]
    omega
  | rate d v =>
    refine ⟨up.t, up.l, up.g, ?_, up.m, up.s⟩
    have := h.r
    show (R.rates ++ [_]).length ≤ _
    rw [List.length_append, List.length_singleton]
    omega
  | paid n d c =>
    refine room_mod h fun x hx => ⟨?_, (idm x hx).2⟩
    have := h.m x hx
    show (x.moves ++ [_]).length ≤ _
    rw [List.length_append, List.length_singleton]
    omega
  | kept n d c =>
    refine room_mod h fun x hx => ⟨?_, (idm x hx).2⟩
    have := h.m x hx
    show (x.moves ++ [_]).length ≤ _
    rw [List.length_append, List.length_singleton]
    omega
  | close n d => exact room_mod h idm
  | bill d => exact ⟨up.t, up.l, up.g, up.r, up.m, up.s⟩
theorem put_told (R : RM) (L : Lt) : (R.put L).told = R.told := by
  cases L <;> first | rfl | exact (mod_same).2.2.2.1
theorem room_tell {R : RM} {k : Nat} (h : Room R k) (L : Lt) : Room (R.tell L) (k + 1) := by
  have q := room_put h L
  refine ⟨?_, ?_, q.g, q.r, fun y hy => ?_, fun y hy => ?_⟩
  · show ((R.put L).told ++ [_]).length ≤ _
    rw [put_told, List.length_append, List.length_singleton]
    have := h.t
    omega
  · show ((R.put L).leases.map _).length ≤ _
    rw [List.length_map]
    exact q.l
  · obtain ⟨x, hx, rfl⟩ := List.mem_map.mp hy
    exact q.m x hx
  · obtain ⟨x, hx, rfl⟩ := List.mem_map.mp hy
    exact q.s x hx
/-- what is refused, by the roll's state -/
def LM.free (x : LM) (d : Int) : Bool := match x.last with
  | none => false
  | some l => decide (l < d)
def RM.no (R : RM) : Lt → Option Str
  | .letF f d _ _ => if R.leases.any (fun x => decide (x.flat = f) && !x.free d) = true then some (PySem.Str.ofString "Taken") else if 20 ≤ R.leases.length then some (PySem.Str.ofString "Full") else none
  | .endL n d => match R.leases[n]? with
    | none => some (PySem.Str.ofString "NoLease")
    | some x => if d < x.first then some (PySem.Str.ofString "BadDay") else if R.leases.any (fun y => decide (y.flat = x.flat) && (decide (x.first < y.first) && decide (y.first ≤ d))) = true then some (PySem.Str.ofString "Taken") else none
  | .step n _ _ | .paid n _ _ | .kept n _ _ => match R.leases[n]? with
    | none => some (PySem.Str.ofString "NoLease")
    | some _ => none
  | .close n _ => match R.leases[n]? with
    | none => some (PySem.Str.ofString "NoLease")
    | some x => if x.shut.isSome = true then some (PySem.Str.ofString "Done") else none
  | .gauge _ _ | .rate _ _ => none
  | .bill d => if d < R.through then some (PySem.Str.ofString "Done") else none
/-- a letter's call is answered as it should be -/
def Told (w : Wd) (P : RP) (R : RM) (D : List Cell) (L : Lt) (r : Rs DV) : Prop := match R.no L with
  | some c => r = .ex c w
  | none => ∃ w' l P', r = .ok (.loc l) w' ∧ P'.r = P.r ∧ RAt w' P' (R.tell L) ((l, .lst ((R.ans L).map .d)) :: D)
theorem mod_eq {R : RM} {n : Nat} {x : LM} (h : R.leases[n]? = some x) (f : LM → LM) : R.mod n f = { R with leases := R.leases.set n (f x) } := by
  unfold RM.mod
  rw [h]
/-- the last step of each letter -/
theorem done_tell {w : Wd} {P : RP} {R : RM} {D : List Cell} {k : Nat} {L : Lt} (S : Sane R) (r : Room R k) (hk : k < 20000) (o : L.Ok) {P' : RP} (h : RAt w P' (R.put L) D) (hP : P'.r = P.r) :
    ∃ w' l P', f_Roll_done [.loc P.r, .d L.data] w = .ok (.loc l) w' ∧ P'.r = P.r ∧ RAt w' P' (R.tell L) ((l, .lst ((R.ans L).map .d)) :: D) := by
  have q := room_put r L
  obtain ⟨w', l, e, a⟩ := done_ok h (sane_put S o) (fun x hx => by have := q.m x hx; omega) L.data (by have := q.t; omega) (by have := q.l; omega)
  rw [hP] at e
  exact ⟨w', l, P', e, hP, a⟩
theorem no_str_roll (P : RP) (R : RM) (m : Str) (h : m ≠ (PySem.Str.ofString "leases") ∧ m ≠ (PySem.Str.ofString "gauges") ∧ m ≠ (PySem.Str.ofString "rates") ∧ m ≠ (PySem.Str.ofString "through") ∧ m ≠ (PySem.Str.ofString "told")) : (rollF P R).lookup m = none := by
  unfold rollF
  obtain ⟨a, b, c, d, e⟩ := h
  simp [List.lookup, beq_eq_false_iff_ne.mpr a, beq_eq_false_iff_ne.mpr b, beq_eq_false_iff_ne.mpr c, beq_eq_false_iff_ne.mpr d, beq_eq_false_iff_ne.mpr e]
end LW

set_option Elab.async false
set_option linter.all false
set_option maxRecDepth 100000
set_option maxHeartbeats 4000000
namespace LW
open PySem PySem.Spec PyProof.Rows L2 RK
/-! what is looked at first: numbers, days, amounts -/
def wthn (d : PyData) (lo hi : Int) : Bool := match d with
  | .int i => decide (lo ≤ i) && decide (i ≤ hi)
  | _ => false
/-- any thing but a dict, or a very long text -/
def Arg : PyData → Prop
  | .dict _ => False
  | .str z => z.length ≤ 100000
  | _ => True
theorem is_whole_ok (d : PyData) (h : Arg d) : f_is_whole [d] = .ok (.bool (match d with | .int _ => true | _ => false)) := by
  cases d <;> first | rfl | exact h.elim
theorem is_within_ok (d : PyData) (h : Arg d) (lo hi : Int) : f_is_within [d, .int lo, .int hi] = .ok (.bool (wthn d lo hi)) := by
  have q := is_whole_ok d h
  unfold f_is_within sm_is_within
  cases d with
  | dict => exact h.elim
  | int i => simp [q, wthn]
  | _ => simp [q, wthn]
theorem sure_day_ok (d : PyData) (h : Arg d) : f_sure_day [d] = if wthn d 0 99999 = true then .ok .none else .ex (PySem.Str.ofString "BadDay") := by
  have q := is_within_ok d h 0 99999
  unfold f_sure_day sm_sure_day
  cases e : wthn d 0 99999 <;> simp [q, e]
theorem sure_amount_ok (d : PyData) (h : Arg d) (lo hi : Int) : f_sure_amount [d, .int lo, .int hi] = if wthn d lo hi = true then .ok .none else .ex (PySem.Str.ofString "BadAmount") := by
  have q := is_within_ok d h lo hi
  unfold f_sure_amount sm_sure_amount
  cases e : wthn d lo hi <;> simp [q, e]
theorem day_go {d : Int} (h : isDay d) : f_sure_day [.int d] = .ok .none := by
  rw [sure_day_ok (.int d) trivial, if_pos]
  simp [wthn, h.1, h.2]
theorem amount_go {d lo hi : Int} (h : lo ≤ d ∧ d ≤ hi) : f_sure_amount [.int d, .int lo, .int hi] = .ok .none := by
  rw [sure_amount_ok (.int d) trivial, if_pos]
  simp [wthn, h.1, h.2]
/-! Roll.sure -/
section
variable {w : Wd} {P : RP} {R : RM} {D : List Cell}
theorem sure_t (h : RAt w P R D) (a : PyData) (ha : Arg a) : (xNot (xCallP f_is_within (xCons (xVar 1) (xCons (xLit (.int 0)) (xCons (xBin oSub (xCall oLen (xCons (xFld (PySem.Str.ofString "Roll") (PySem.Str.ofString "leases") (xVar 0)) xNil)) (xLit (.int 1))) xNil))))) [some (.loc P.r), some (.d a)] w = .ok (.d (.bool (!wthn a 0 ((R.leases.length : Int) - 1)))) w := by
  have f1 := fld_of (e := [some (.loc P.r), some (.d a)]) (show (xVar 0) _ w = .ok (.loc P.r) w from rfl) h.o (rf_leases P R)
  have f2 : xCall oLen (xCons (xFld (PySem.Str.ofString "Roll") (PySem.Str.ofString "leases") (xVar 0)) xNil) [some (.loc P.r), some (.d a)] w = .ok (.d (.int (R.leases.length : Int))) w := by
    rw [xCall_ap, cons_of f1 (xNil_ap _ _), bind_ok, oLen_loc, h.a]
    simp only [List.length_map]
    rw [h.len]
  refine not_of (callP_of (cons_of (show (xVar 1) _ w = .ok (.d a) w from rfl) (cons_of (xLit_ap _ _ _) (cons_of (bin_of f2 (xLit_ap _ _ _) (oI_ap _ _ _ _ _)) (xNil_ap _ _)))) rfl (is_within_ok a ha 0 _))
theorem rsure_no (h : RAt w P R D) (a : PyData) (ha : Arg a) (e : wthn a 0 ((R.leases.length : Int) - 1) = false) : f_Roll_sure [.loc P.r, .d a] w = .ex (PySem.Str.ofString "NoLease") w := by
  show finW (sm_Roll_sure [some (.loc P.r), some (.d a)] w) = _
  unfold sm_Roll_sure
  rw [seq_ex (by rw [if_of (sure_t h a ha), e]; rfl)]
  rfl
theorem rsure_ok (h : RAt w P R D) {i : Nat} {p : LP} (hp : P.ls[i]? = some p) : f_Roll_sure [.loc P.r, .d (.int (i : Int))] w = .ok (.loc p.l) w := by
  have hi : i < R.leases.length := by
    rw [← h.len]
    exact (List.getElem?_eq_some_iff.mp hp).1
  have e : wthn (.int (i : Int)) 0 ((R.leases.length : Int) - 1) = true := by
    unfold wthn
    simp
    omega
  have f1 := fld_of (e := [some (.loc P.r), some (.d (.int (i : Int)))]) (show (xVar 0) _ w = .ok (.loc P.r) w from rfl) h.o (rf_leases P R)
  have f2 : xBin oIxL (xFld (PySem.Str.ofString "Roll") (PySem.Str.ofString "leases") (xVar 0)) (xVar 1) [some (.loc P.r), some (.d (.int (i : Int)))] w = .ok (.loc p.l) w := by
    refine bin_of f1 (show (xVar 1) _ w = .ok (.d (.int (i : Int))) w from rfl) ?_
    rw [oIxL_l, h.a]
    simp only [at_lit, List.getElem?_map, hp, Option.map_some]
  show finW (sm_Roll_sure [some (.loc P.r), some (.d (.int (i : Int)))] w) = _
  unfold sm_Roll_sure
  rw [seq_of (e1 := [some (.loc P.r), some (.d (.int (i : Int)))]) (w1 := w) (by rw [if_of (sure_t h (.int (i : Int)) trivial), e]; rfl), ret_of f2]
  rfl
/-- lease = self.sure(number): slot k of the caller -/
theorem sureM (h : RAt w P R D) {i : Nat} {p : LP} (hp : P.ls[i]? = some p) {e : En} (h0 : (xVar 0) e w = .ok (.loc P.r) w) (h1 : (xVar 1) e w = .ok (.d (.int (i : Int))) w) :
    xMeth (PySem.Str.ofString "Roll") (PySem.Str.ofString "sure") f_Roll_sure (xVar 0) (xCons (xVar 1) xNil) e w = .ok (.loc p.l) w :=
  methR_of h0 h.o rfl (cons_of h1 (xNil_ap _ _)) (rsure_ok h hp)
theorem sureMx (h : RAt w P R D) {a : PyData} (ha : Arg a) (q : wthn a 0 ((R.leases.length : Int) - 1) = false) {e : En} (h0 : (xVar 0) e w = .ok (.loc P.r) w) (h1 : (xVar 1) e w = .ok (.d a) w) :
    xMeth (PySem.Str.ofString "Roll") (PySem.Str.ofString "sure") f_Roll_sure (xVar 0) (xCons (xVar 1) xNil) e w = .ex (PySem.Str.ofString "NoLease") w :=
  methR_of h0 h.o rfl (cons_of h1 (xNil_ap _ _)) (rsure_no h a ha q)
theorem no_lease {n : Nat} (h : R.leases[n]? = none) : wthn (.int (n : Int)) 0 ((R.leases.length : Int) - 1) = false := by
  have := List.getElem?_eq_none_iff.mp h
  unfold wthn
  simp
  omega
theorem doneM {r : Rs DV} {e : En} {x : AM} {d : PyData} (h : RAt w P R D) (h0 : (xVar 0) e w = .ok (.loc P.r) w) (hx : x e w = .ok [.d d] w) (hr : f_Roll_done [.loc P.r, .d d] w = r) :
    xMeth (PySem.Str.ofString "Roll") (PySem.Str.ofString "done") f_Roll_done (xVar 0) x e w = r := methR_of h0 h.o rfl hx hr
end
end LW

set_option Elab.async false
set_option linter.all false
set_option maxRecDepth 100000
set_option maxHeartbeats 4000000
namespace LW
open PySem PySem.Spec PyProof.Rows L2 RK
def flatOk (d : PyData) : Bool := match d with
  | .str z => flatS z
  | _ => false
theorem sf_loop (a : Option DV) : ∀ (cs : List Nat) (b : Option DV), (cs.all signOk = true → ∃ e, forD (gNm 1) sm_sure_flat_l1 (cs.map fun c => .str ⟨#[c]⟩) [a, b] [] = .ok (.nx e) []) ∧
    (cs.all signOk = false → ∃ e, forD (gNm 1) sm_sure_flat_l1 (cs.map fun c => .str ⟨#[c]⟩) [a, b] [] = .ex (PySem.Str.ofString "BadFlat") e [])
  | [], b => ⟨fun _ => ⟨_, rfl⟩, fun h => by simp at h⟩
  | c :: cs, b => by
    have t : xBin oNotInS (xVar 1) (xLit (.str abc)) [a, some (.d (.str ⟨#[c]⟩))] [] = .ok (.d (.bool (!signOk c))) [] := by
      refine bin_of (show (xVar 1) _ [] = .ok (.d (.str ⟨#[c]⟩)) [] from rfl) (xLit_ap _ _ _) ?_
      show (match signIn ⟨#[c]⟩ abc with | some b => Rs.ok (DV.d (.bool (!b))) [] | none => .bad) = _
      rfl
    have st : forD (gNm 1) sm_sure_flat_l1 ((c :: cs).map fun c => .str ⟨#[c]⟩) [a, b] [] = (match sm_sure_flat_l1 [a, some (.d (.str ⟨#[c]⟩))] [] with
      | .ok (.nx e2) w2 => forD (gNm 1) sm_sure_flat_l1 (cs.map fun c => .str ⟨#[c]⟩) e2 w2
      | .ok (.ct e2) w2 => forD (gNm 1) sm_sure_flat_l1 (cs.map fun c => .str ⟨#[c]⟩) e2 w2
      | .ok (.bk e2) w2 => .ok (.nx e2) w2
      | .ok (.rt d) w2 => .ok (.rt d) w2
      | .ex c e2 w2 => .ex c e2 w2
      | .bad => .bad) := rfl
    have i1 : sm_sure_flat_l1 [a, some (.d (.str ⟨#[c]⟩))] [] = (if (!signOk c) = true then .ex (PySem.Str.ofString "BadFlat") [a, some (.d (.str ⟨#[c]⟩))] [] else .ok (.nx [a, some (.d (.str ⟨#[c]⟩))]) []) := by
      unfold sm_sure_flat_l1
      rw [if_of t]
      rfl
    rw [st, i1, List.all_cons]
    cases q : signOk c with
    | true => simpa using sf_loop a cs (some (.d (.str ⟨#[c]⟩)))
    | false => simp
theorem sure_flat_ok (d : PyData) (h : Arg d) : f_sure_flat [d] = if flatOk d = true then .ok .none else .ex (PySem.Str.ofString "BadFlat") := by
  show finP (sm_sure_flat [some (.d d), none] []) = _
  unfold sm_sure_flat
  cases d with
  | dict => exact h.elim
  | str z =>
    have hz : z.length ≤ 100000 := h
    have t1 : xNot (xIsi "str" (xVar 0)) [some (.d (.str z)), none] [] = .ok (.d (.bool false)) [] := rfl
    have t2 : xNot (xChain oLe oLe (xLit (.int 1)) (xCall oLen (xCons (xVar 0) xNil)) (xLit (.int 8))) [some (.d (.str z)), none] [] = .ok (.d (.bool (!(decide (1 ≤ z.length) && decide (z.length ≤ 8))))) [] := by
      have e : xCall oLen (xCons (xVar 0) xNil) [some (.d (.str z)), none] [] = .ok (.d (.int z.length)) [] := by
        show (if z.length ≤ 100000 then Rs.ok (DV.d (.int z.length)) [] else .bad) = _
        rw [if_pos hz]
      refine not_of ?_
      rw [xChain_ap, xLit_ap, bind_ok, e, bind_ok]
      by_cases c1 : 1 ≤ z.length
      · have : (1 : Int) ≤ (z.length : Int) := by omega
        by_cases c2 : z.length ≤ 8
        · have c3 : (z.length : Int) ≤ 8 := by omega
          simp [c1, this, c2, c3]
        · have c3 : ¬ (z.length : Int) ≤ 8 := by omega
          simp [c1, this, c2, c3]
      · have : ¬ (1 : Int) ≤ (z.length : Int) := by omega
        simp [c1, this]
    have t := or_of t1 (fun _ => t2) rfl
    rw [Bool.false_or] at t
    show _ = if flatS z = true then _ else _
    unfold flatS
    cases q : (decide (1 ≤ z.length) && decide (z.length ≤ 8)) with
    | false =>
      rw [q] at t
      rw [seq_ex (by rw [if_of t]; rfl)]
      rfl
    | true =>
      rw [q] at t
      rw [seq_of (e1 := [some (.d (.str z)), none]) (w1 := []) (by rw [if_of t]; rfl), Bool.true_and]
      obtain ⟨l1, l2⟩ := sf_loop (some (.d (.str z))) z.cps.toList none
      show finP (forD (gNm 1) sm_sure_flat_l1 (RK.signs z) [some (.d (.str z)), none] []) = _
      unfold RK.signs
      cases q2 : z.cps.toList.all signOk with
      | true =>
        obtain ⟨e, he⟩ := l1 q2
        rw [he]
        rfl
      | false =>
        obtain ⟨e, he⟩ := l2 q2
        rw [he]
        rfl
  | int => rfl
  | bool => rfl
  | none => rfl
  | list => rfl
  | tuple => rfl
/-! Lease: made, asked -/
theorem free_ok {w : Wd} {p : LP} {x : LM} (h : LeaseAt w p x) (d : Int) : f_Lease_is_free_from [.loc p.l, .d (.int d)] w = .ok (.d (.bool (x.free d))) w := by
  have f := fld_of (e := [some (.loc p.l), some (.d (.int d))]) (show (xVar 0) _ w = .ok (.loc p.l) w from rfl) h.o (lf_last p x)
  show finW (sm_Lease_is_free_from [some (.loc p.l), some (.d (.int d))] w) = _
  unfold sm_Lease_is_free_from LM.free
  cases q : x.last with
  | none =>
    rw [q] at f
    rw [ret_of (d := .d (.bool false)) (w1 := w) (by rw [xAnd_ap, bin_of f (xLit_ap .none _ _) rfl]; rfl)]
    rfl
  | some l =>
    rw [q] at f
    have a := and_of (bin_of (op := oNotN) f (xLit_ap .none _ _) rfl) (fun _ => bin_of (op := oLt) f (show (xVar 1) _ w = .ok (.d (.int d)) w from rfl) (oI_ap _ _ _ _ _)) rfl
    rw [ret_of a]
    simp [optI, RK.isNon]
theorem lease_init {w : Wd} {C : List Cell} {l : Nat} (h : At w ((l, .ins (PySem.Str.ofString "Lease") []) :: C)) (f : Str) (d r : Int) (ix : Bool) :
    ∃ w' ls lm, f_Lease__init [.loc l, .d (.str f), .d (.int d), .d (.int r), .d (.bool ix)] w = .ok (.d .none) w' ∧ At w' (leaseC ⟨l, ls, lm⟩ (newLM f d r ix) ++ C) := by
  have v0 : ∀ w, (xVar 0) [some (.loc l), some (.d (.str f)), some (.d (.int d)), some (.d (.int r)), some (.d (.bool ix))] w = .ok (.loc l) w := fun _ => rfl
  show ∃ w' ls lm, finW (sm_Lease__init [some (.loc l), some (.d (.str f)), some (.d (.int d)), some (.d (.int r)), some (.d (.bool ix))] w) = _ ∧ _
  unfold sm_Lease__init sm_Lease__init_t1 sm_Lease__init_t2 sm_Lease__init_t3 sm_Lease__init_t4 sm_Lease__init_t5 sm_Lease__init_t6 sm_Lease__init_t7 sm_Lease__init_t8
  have s1 := setF_of (c := (PySem.Str.ofString "Lease")) (f := (PySem.Str.ofString "flat")) (show (xVar 1) [some (.loc l), some (.d (.str f)), some (.d (.int d)), some (.d (.int r)), some (.d (.bool ix))] w = .ok (.d (.str f)) w from rfl) (v0 w) (h.at_ (List.mem_cons_self ..)) (by show 0 < 1000; decide)
  have h1 := h.put0 (o' := .ins (PySem.Str.ofString "Lease") (putD (PySem.Str.ofString "flat") (.d (.str f)) []))
  generalize w.set l _ = w1 at s1 h1
  have s2 := setF_of (c := (PySem.Str.ofString "Lease")) (f := (PySem.Str.ofString "first")) (show (xVar 2) [some (.loc l), some (.d (.str f)), some (.d (.int d)), some (.d (.int r)), some (.d (.bool ix))] w1 = .ok (.d (.int d)) w1 from rfl) (v0 w1) (h1.at_ (List.mem_cons_self ..)) (by show 1 < 1000; decide)
  have h2 := h1.put0 (o' := .ins (PySem.Str.ofString "Lease") (putD (PySem.Str.ofString "first") (.d (.int d)) (putD (PySem.Str.ofString "flat") (.d (.str f)) [])))
  generalize w1.set l _ = w2 at s2 h2
  have s3 := setF_of (c := (PySem.Str.ofString "Lease")) (f := (PySem.Str.ofString "last")) (xLit_ap .none [some (.loc l), some (.d (.str f)), some (.d (.int d)), some (.d (.int r)), some (.d (.bool ix))] w2) (v0 w2) (h2.at_ (List.mem_cons_self ..)) (by show 2 < 1000; decide)
  have h3 := h2.put0 (o' := .ins (PySem.Str.ofString "Lease") (putD (PySem.Str.ofString "last") (.d .none) (putD (PySem.Str.ofString "first") (.d (.int d)) (putD (PySem.Str.ofString "flat") (.d (.str f)) []))))
  generalize w2.set l _ = w3 at s3 h3
  have s4 := setF_of (c := (PySem.Str.ofString "Lease")) (f := (PySem.Str.ofString "indexed")) (show (xVar 4) [some (.loc l), some (.d (.str f)), some (.d (.int d)), some (.d (.int r)), some (.d (.bool ix))] w3 = .ok (.d (.bool ix)) w3 from rfl) (v0 w3) (h3.at_ (List.mem_cons_self ..)) (by show 3 < 1000; decide)
  have h4 := h3.put0 (o' := .ins (PySem.Str.ofString "Lease") (putD (PySem.Str.ofString "indexed") (.d (.bool ix)) (putD (PySem.Str.ofString "last") (.d .none) (putD (PySem.Str.ofString "first") (.d (.int d)) (putD (PySem.Str.ofString "flat") (.d (.str f)) [])))))
  generalize w3.set l _ = w4 at s4 h4
  have n5 := (h4.new (.lst (ivs [(d, r)]))).perm (List.Perm.swap _ _ _)
  have s5 := setF_of (c := (PySem.Str.ofString "Lease")) (f := (PySem.Str.ofString "steps")) (show xLstS (xCons (xTup (xCons (xVar 2) (xCons (xVar 3) xNil))) xNil) [some (.loc l), some (.d (.str f)), some (.d (.int d)), some (.d (.int r)), some (.d (.bool ix))] w4 = .ok (.loc w4.length) (w4 ++ [.lst (ivs [(d, r)])]) from rfl) (v0 _) (n5.at_ (List.mem_cons_self ..)) (by show 4 < 1000; decide)
  have h5 := n5.put0 (o' := .ins (PySem.Str.ofString "Lease") (putD (PySem.Str.ofString "steps") (.loc w4.length) (putD (PySem.Str.ofString "indexed") (.d (.bool ix)) (putD (PySem.Str.ofString "last") (.d .none) (putD (PySem.Str.ofString "first") (.d (.int d)) (putD (PySem.Str.ofString "flat") (.d (.str f)) []))))))
  generalize w4.length = ls at s5 h5
  generalize (w4 ++ _).set l _ = w5 at s5 h5
  have n6 := (h5.new (.lst (ivs []))).perm (List.Perm.swap _ _ _)
  have s6 := setF_of (c := (PySem.Str.ofString "Lease")) (f := (PySem.Str.ofString "moves")) (show xLstS xNil [some (.loc l), some (.d (.str f)), some (.d (.int d)), some (.d (.int r)), some (.d (.bool ix))] w5 = .ok (.loc w5.length) (w5 ++ [.lst (ivs [])]) from rfl) (v0 _) (n6.at_ (List.mem_cons_self ..)) (by show 5 < 1000; decide)
  have h6 := n6.put0 (o' := .ins (PySem.Str.ofString "Lease") (putD (PySem.Str.ofString "moves") (.loc w5.length) (putD (PySem.Str.ofString "steps") (.loc ls) (putD (PySem.Str.ofString "indexed") (.d (.bool ix)) (putD (PySem.Str.ofString "last") (.d .none) (putD (PySem.Str.ofString "first") (.d (.int d)) (putD (PySem.Str.ofString "flat") (.d (.str f)) [])))))))
  generalize w5.length = lm at s6 h6
  generalize (w5 ++ _).set l _ = w6 at s6 h6
  have s7 := setF_of (c := (PySem.Str.ofString "Lease")) (f := (PySem.Str.ofString "shut")) (xLit_ap .none [some (.loc l), some (.d (.str f)), some (.d (.int d)), some (.d (.int r)), some (.d (.bool ix))] w6) (v0 w6) (h6.at_ (List.mem_cons_self ..)) (by show 6 < 1000; decide)
  have h7 := h6.put0 (o' := .ins (PySem.Str.ofString "Lease") (putD (PySem.Str.ofString "shut") (.d .none) (putD (PySem.Str.ofString "moves") (.loc lm) (putD (PySem.Str.ofString "steps") (.loc ls) (putD (PySem.Str.ofString "indexed") (.d (.bool ix)) (putD (PySem.Str.ofString "last") (.d .none) (putD (PySem.Str.ofString "first") (.d (.int d)) (putD (PySem.Str.ofString "flat") (.d (.str f)) []))))))))
  generalize w6.set l _ = w7 at s7 h7
  have s8 := setF_of (c := (PySem.Str.ofString "Lease")) (f := (PySem.Str.ofString "rent_out")) (xLit_ap (.int 0) [some (.loc l), some (.d (.str f)), some (.d (.int d)), some (.d (.int r)), some (.d (.bool ix))] w7) (v0 w7) (h7.at_ (List.mem_cons_self ..)) (by show 7 < 1000; decide)
  have h8 := h7.put0 (o' := .ins (PySem.Str.ofString "Lease") (putD (PySem.Str.ofString "rent_out") (.d (.int 0)) (putD (PySem.Str.ofString "shut") (.d .none) (putD (PySem.Str.ofString "moves") (.loc lm) (putD (PySem.Str.ofString "steps") (.loc ls) (putD (PySem.Str.ofString "indexed") (.d (.bool ix)) (putD (PySem.Str.ofString "last") (.d .none) (putD (PySem.Str.ofString "first") (.d (.int d)) (putD (PySem.Str.ofString "flat") (.d (.str f)) [])))))))))
  generalize w7.set l _ = w8 at s8 h8
  have s9 := setF_of (c := (PySem.Str.ofString "Lease")) (f := (PySem.Str.ofString "pledge_out")) (xLit_ap (.int 0) [some (.loc l), some (.d (.str f)), some (.d (.int d)), some (.d (.int r)), some (.d (.bool ix))] w8) (v0 w8) (h8.at_ (List.mem_cons_self ..)) (by show 8 < 1000; decide)
  have h9 := h8.put0 (o' := leaseO ⟨l, ls, lm⟩ (newLM f d r ix))
  rw [seq_of s1, seq_of s2, seq_of s3, seq_of s4, seq_of s5, seq_of s6, seq_of s7, seq_of s8, s9]
  refine ⟨_, ls, lm, rfl, ?_⟩
  refine h9.perm (List.Perm.cons _ (List.Perm.swap _ _ _))
theorem flat_shaped {z : Str} (h : flatS z = true) : SeqAt.shaped (.str z) = true := by
  unfold flatS at h
  rw [Bool.and_eq_true] at h
  have h2 : z.cps.all (· < 0x110000) = true := by
    rw [← Array.all_toList, List.all_eq_true]
    intro c hc
    have := List.all_eq_true.mp h.2 c hc
    have m : c ∈ abc.cps.toList := of_decide_eq_true this
    have all : abc.cps.toList.all (fun c => decide (c < 0x110000)) = true := by decide +kernel
    exact List.all_eq_true.mp all c m
  show (PyData.canLay0 (.str z) && decide (PyData.depth (.str z) ≤ 64)) = true
  rw [show PyData.canLay0 (.str z) = true from h2]
  rfl
theorem eqv_str (a b : Str) : PyData.eqv (.str a) (.str b) = decide (a = b) := by
  show (a == b) = decide (a = b)
  rw [Bool.eq_iff_iff]; simp
theorem oEq_str {a b : Str} (ha : flatS a = true) (hb : flatS b = true) (w) : oEq (.d (.str a)) (.d (.str b)) w = .ok (.d (.bool (decide (a = b)))) w := by
  rw [oEq_dd _ _ _ (flat_shaped ha) (flat_shaped hb), eqv_str]
theorem flat_arg {z : Str} (h : flatS z = true) : Arg (.str z) := by
  unfold flatS at h
  simp only [Bool.and_eq_true, decide_eq_true_eq] at h
  show z.length ≤ 100000
  omega
/-- whether a lease stands in the way of a let -/
def inWay (f : Str) (d : Int) (x : LM) : Bool := decide (x.flat = f) && !x.free d
theorem let_body {w : Wd} {p : LP} {x : LM} (h : LeaseAt w p x) (hx : flatS x.flat = true) {f : Str} (hf : flatS f = true) (d : Int) (a c e : Option DV) :
    sm_Roll_let_l1 [a, some (.d (.str f)), some (.d (.int d)), c, e, some (.loc p.l)] w = if inWay f d x = true then .ex (PySem.Str.ofString "Taken") [a, some (.d (.str f)), some (.d (.int d)), c, e, some (.loc p.l)] w else .ok (.nx [a, some (.d (.str f)), some (.d (.int d)), c, e, some (.loc p.l)]) w := by
  have v5 : (xVar 5) [a, some (.d (.str f)), some (.d (.int d)), c, e, some (.loc p.l)] w = .ok (.loc p.l) w := rfl
  have t1 := bin_of (op := oEq) (fld_of v5 h.o (lf_flat p x)) (show (xVar 1) _ w = .ok (.d (.str f)) w from rfl) (oEq_str hx hf w)
  have t2 := not_of (methR_of (c := (PySem.Str.ofString "Lease")) (m := (PySem.Str.ofString "is_free_from")) (f := f_Lease_is_free_from) v5 h.o rfl (cons_of (show (xVar 2) _ w = .ok (.d (.int d)) w from rfl) (xNil_ap _ _)) (free_ok h d))
  unfold sm_Roll_let_l1
  rw [if_of (and_of t1 (fun _ => t2) rfl)]
  rfl
theorem let_loop {P : RP} {R : RM} {D : List Cell} {w : Wd} (h : RAt w P R D) (S : Sane R) {f : Str} (hf : flatS f = true) (d : Int) (a b e : Option DV) : ∀ (td pre : List LM) (c : Option DV), R.leases = pre ++ td →
    (td.any (inWay f d) = true → ∃ n, forL (gNm 5) sm_Roll_let_l1 P.la (P.ls.map fun p => .loc p.l) ((P.ls.drop pre.length).map fun p => .loc p.l) [a, some (.d (.str f)), some (.d (.int d)), b, e, c] w = .ex (PySem.Str.ofString "Taken") n w) ∧
    (td.any (inWay f d) = false → ∃ c', forL (gNm 5) sm_Roll_let_l1 P.la (P.ls.map fun p => .loc p.l) ((P.ls.drop pre.length).map fun p => .loc p.l) [a, some (.d (.str f)), some (.d (.int d)), b, e, c] w = .ok (.nx [a, some (.d (.str f)), some (.d (.int d)), b, e, c']) w) := by
  intro td
  induction td with
  | nil =>
    intro pre c q
    have len := h.len
    rw [q, List.append_nil] at len
    refine ⟨fun z => by simp at z, fun _ => ⟨c, ?_⟩⟩
    rw [show P.ls.drop pre.length = [] from List.drop_eq_nil_of_le (by omega), List.map_nil]
    unfold forL
    rw [if_pos h.a]
  | cons x td ih =>
    intro pre c q
    have len := h.len
    rw [q, List.length_append, List.length_cons] at len
    have hp : P.ls[pre.length]? = some (P.ls[pre.length]'(by omega)) := List.getElem?_eq_getElem (by omega)
    generalize P.ls[pre.length]'(by omega) = p at hp
    have hd : P.ls.drop pre.length = p :: P.ls.drop (pre.length + 1) := by
      obtain ⟨hlt, he⟩ := List.getElem?_eq_some_iff.mp hp
      rw [← he]
      exact List.drop_eq_getElem_cons hlt
    have hxe : R.leases[pre.length]? = some x := by rw [q]; simp
    have hx := h.lease hp hxe
    have b1 := let_body hx (S.fl x (List.mem_of_getElem? hxe)) hf d a b e
    have st : forL (gNm 5) sm_Roll_let_l1 P.la (P.ls.map fun p => .loc p.l) ((P.ls.drop pre.length).map fun p => .loc p.l) [a, some (.d (.str f)), some (.d (.int d)), b, e, c] w = (match sm_Roll_let_l1 [a, some (.d (.str f)), some (.d (.int d)), b, e, some (.loc p.l)] w with
      | .ok (.nx e2) w2 => forL (gNm 5) sm_Roll_let_l1 P.la (P.ls.map fun p => .loc p.l) ((P.ls.drop (pre.length + 1)).map fun p => .loc p.l) e2 w2
      | .ok (.ct e2) w2 => forL (gNm 5) sm_Roll_let_l1 P.la (P.ls.map fun p => .loc p.l) ((P.ls.drop (pre.length + 1)).map fun p => .loc p.l) e2 w2
      | .ok (.bk e2) w2 => .ok (.nx e2) w2
      | .ok (.rt d) w2 => .ok (.rt d) w2
      | .ex c e2 w2 => .ex c e2 w2
      | .bad => .bad) := by
      rw [hd, List.map_cons, forL, if_pos h.a]
      rfl
    rw [b1] at st
    have e4 : (pre ++ [x]).length = pre.length + 1 := by simp
    have i2 := ih (pre ++ [x]) (some (.loc p.l)) (by rw [q]; simp)
    rw [e4] at i2
    rw [st, List.any_cons]
    cases z : inWay f d x with
    | true => simp
    | false => simpa using i2
theorem let_ok {w : Wd} {P : RP} {R : RM} {D : List Cell} (h : RAt w P R D) (S : Sane R) {k : Nat} (rm : Room R k) (hk : k < 20000) (f : Str) (d r : Int) (ix : Bool) (o : (Lt.letF f d r ix).Ok) :
    Told w P R D (.letF f d r ix) (f_Roll_let [.loc P.r, .d (.str f), .d (.int d), .d (.int r), .d (.bool ix)] w) := by
  obtain ⟨o0, o1, o2⟩ := o
  unfold Told
  show (match (if R.leases.any (fun x => inWay f d x) = true then some (PySem.Str.ofString "Taken") else if 20 ≤ R.leases.length then some (PySem.Str.ofString "Full") else none) with
    | some c' => f_Roll_let [.loc P.r, .d (.str f), .d (.int d), .d (.int r), .d (.bool ix)] w = .ex c' w
    | none => _)
  have v0 : ∀ c w, (xVar 0) [some (.loc P.r), some (.d (.str f)), some (.d (.int d)), some (.d (.int r)), some (.d (.bool ix)), c] w = .ok (.loc P.r) w := fun _ _ => rfl
  have pre : f_Roll_let [.loc P.r, .d (.str f), .d (.int d), .d (.int r), .d (.bool ix)] w = finW (sm_Roll_let_t3 [some (.loc P.r), some (.d (.str f)), some (.d (.int d)), some (.d (.int r)), some (.d (.bool ix)), none] w) := by
    show finW (sm_Roll_let [some (.loc P.r), some (.d (.str f)), some (.d (.int d)), some (.d (.int r)), some (.d (.bool ix)), none] w) = _
    unfold sm_Roll_let sm_Roll_let_t1 sm_Roll_let_t2
    rw [seq_of (exp_of (callP_of (cons_of (show (xVar 1) _ w = .ok (.d (.str f)) w from rfl) (xNil_ap _ _)) rfl ((sure_flat_ok (.str f) (flat_arg o0)).trans (if_pos o0)))),
      seq_of (exp_of (callP_of (cons_of (show (xVar 2) _ w = .ok (.d (.int d)) w from rfl) (xNil_ap _ _)) rfl (day_go o1))),
      seq_of (exp_of (callP_of (cons_of (show (xVar 3) _ w = .ok (.d (.int r)) w from rfl) (cons_of (xLit_ap _ _ _) (cons_of (xLit_ap _ _ _) (xNil_ap _ _)))) rfl (amount_go o2)))]
  have lp : sFor (gNm 5) (xFld (PySem.Str.ofString "Roll") (PySem.Str.ofString "leases") (xVar 0)) sm_Roll_let_l1 [some (.loc P.r), some (.d (.str f)), some (.d (.int d)), some (.d (.int r)), some (.d (.bool ix)), none] w =
      forL (gNm 5) sm_Roll_let_l1 P.la (P.ls.map fun p => .loc p.l) (P.ls.map fun p => .loc p.l) [some (.loc P.r), some (.d (.str f)), some (.d (.int d)), some (.d (.int r)), some (.d (.bool ix)), none] w := by
    rw [sFor_ap, fld_of (v0 _ _) h.o (rf_leases P R), st_ok]
    simp only [h.a]
  obtain ⟨l1, l2⟩ := let_loop h S o0 d (some (.loc P.r)) (some (.d (.int r))) (some (.d (.bool ix))) R.leases [] none rfl
  rw [List.length_nil, List.drop_zero, ← lp] at l1 l2
  rw [pre]
  unfold sm_Roll_let_t3
  cases q : R.leases.any (inWay f d) with
  | true =>
    obtain ⟨n, l1⟩ := l1 q
    simp only [if_true]
    rw [seq_ex l1]
    rfl
  | false =>
    obtain ⟨c, l2⟩ := l2 q
    have t : xBin oGe (xCall oLen (xCons (xFld (PySem.Str.ofString "Roll") (PySem.Str.ofString "leases") (xVar 0)) xNil)) (xLit (.int 20)) [some (.loc P.r), some (.d (.str f)), some (.d (.int d)), some (.d (.int r)), some (.d (.bool ix)), c] w = .ok (.d (.bool (decide (20 ≤ R.leases.length)))) w := by
      have f2 : xCall oLen (xCons (xFld (PySem.Str.ofString "Roll") (PySem.Str.ofString "leases") (xVar 0)) xNil) [some (.loc P.r), some (.d (.str f)), some (.d (.int d)), some (.d (.int r)), some (.d (.bool ix)), c] w = .ok (.d (.int (R.leases.length : Int))) w := by
        rw [xCall_ap, cons_of (fld_of (v0 _ _) h.o (rf_leases P R)) (xNil_ap _ _), bind_ok, oLen_loc, h.a]
        simp only [List.length_map]
        rw [h.len]
      refine bin_of f2 (xLit_ap _ _ _) ?_
      have e : decide ((20 : Int) ≤ (R.leases.length : Int)) = decide (20 ≤ R.leases.length) := decide_eq_decide.mpr (by omega)
      rw [← e]
      rfl
    simp only [Bool.false_eq_true, if_false]
    rw [seq_of l2]
    unfold sm_Roll_let_t4
    by_cases z : 20 ≤ R.leases.length
    · rw [if_pos z]
      rw [decide_eq_true z] at t
      show finW _ = _
      rw [seq_ex (by rw [if_of t]; rfl)]
      rfl
    · rw [if_neg z]
      rw [decide_eq_false z] at t
      rw [seq_of (e1 := [some (.loc P.r), some (.d (.str f)), some (.d (.int d)), some (.d (.int r)), some (.d (.bool ix)), c]) (w1 := w) (by rw [if_of t]; rfl)]
      unfold sm_Roll_let_t5 sm_Roll_let_t6
      have n1 := h.at_.new (.ins (PySem.Str.ofString "Lease") [])
      obtain ⟨w1, ls, lm, i1, i2⟩ := lease_init n1 f d r ix
      have mk : xMake (PySem.Str.ofString "Lease") f_Lease__init (xCons (xVar 1) (xCons (xVar 2) (xCons (xVar 3) (xCons (xVar 4) xNil)))) [some (.loc P.r), some (.d (.str f)), some (.d (.int d)), some (.d (.int r)), some (.d (.bool ix)), c] w = .ok (.loc w.length) w1 :=
        make_of (show _ = Rs.ok [.d (.str f), .d (.int d), .d (.int r), .d (.bool ix)] w from rfl) i1
      have h1 : RAt w1 P R (leaseC ⟨w.length, ls, lm⟩ (newLM f d r ix) ++ D) := ⟨i2.perm (by
        rw [← List.append_assoc, ← List.append_assoc]
        exact List.perm_append_comm.append_right _), h.len⟩
      have a1 : sExp (xApp (xFld (PySem.Str.ofString "Roll") (PySem.Str.ofString "leases") (xVar 0)) (xMake (PySem.Str.ofString "Lease") f_Lease__init (xCons (xVar 1) (xCons (xVar 2) (xCons (xVar 3) (xCons (xVar 4) xNil)))))) [some (.loc P.r), some (.d (.str f)), some (.d (.int d)), some (.d (.int r)), some (.d (.bool ix)), c] w =
          .ok (.nx [some (.loc P.r), some (.d (.str f)), some (.d (.int d)), some (.d (.int r)), some (.d (.bool ix)), c]) (w1.set P.la (locsO (P.ls ++ [⟨w.length, ls, lm⟩]))) := by
        rw [exp_of (app_of (fld_of (v0 _ _) h.o (rf_leases P R)) h.a mk h1.a (by rw [List.length_map, h.len]; omega))]
        simp only [locsO, List.map_append]
        rfl
      have h2 := h1.addL
      generalize w1.set P.la (locsO (P.ls ++ [⟨w.length, ls, lm⟩])) = w2 at a1 h2
      obtain ⟨w', l, P', e1, e2, e3⟩ := done_tell S rm hk (L := .letF f d r ix) ⟨o0, o1, o2⟩ h2 rfl
      refine ⟨w', l, P', ?_, e2, e3⟩
      rw [seq_of a1, ret_of (doneM h2 (v0 _ _) (cons_of (show _ = Rs.ok (DV.d (Lt.letF f d r ix).data) w2 from rfl) (xNil_ap _ _)) e1)]
      rfl
end LW

set_option Elab.async false
set_option linter.all false
set_option maxRecDepth 100000
set_option maxHeartbeats 4000000
namespace LW
open PySem PySem.Spec PyProof.Rows L2 RK
/-- whether a lease stands in the way of an end -/
def inEnd (x : LM) (d : Int) (y : LM) : Bool := decide (y.flat = x.flat) && (decide (x.first < y.first) && decide (y.first ≤ d))
theorem end_body {w : Wd} {p o : LP} {x y : LM} (hx : LeaseAt w p x) (hy : LeaseAt w o y) (fx : flatS x.flat = true) (fy : flatS y.flat = true) (d : Int) (a b : Option DV) :
    sm_Roll_end_l1 [a, b, some (.d (.int d)), some (.loc p.l), some (.loc o.l)] w = if inEnd x d y = true then .ex (PySem.Str.ofString "Taken") [a, b, some (.d (.int d)), some (.loc p.l), some (.loc o.l)] w else .ok (.nx [a, b, some (.d (.int d)), some (.loc p.l), some (.loc o.l)]) w := by
  have v4 : (xVar 4) [a, b, some (.d (.int d)), some (.loc p.l), some (.loc o.l)] w = .ok (.loc o.l) w := rfl
  have v3 : (xVar 3) [a, b, some (.d (.int d)), some (.loc p.l), some (.loc o.l)] w = .ok (.loc p.l) w := rfl
  have t1 := bin_of (op := oEq) (fld_of v4 hy.o (lf_flat o y)) (fld_of v3 hx.o (lf_flat p x)) (oEq_str fy fx w)
  have t2 : xChain oLt oLe (xFld (PySem.Str.ofString "Lease") (PySem.Str.ofString "first") (xVar 3)) (xFld (PySem.Str.ofString "Lease") (PySem.Str.ofString "first") (xVar 4)) (xVar 2) [a, b, some (.d (.int d)), some (.loc p.l), some (.loc o.l)] w = .ok (.d (.bool (decide (x.first < y.first) && decide (y.first ≤ d)))) w := by
    rw [xChain_ap, fld_of v3 hx.o (lf_first p x), bind_ok, fld_of v4 hy.o (lf_first o y), bind_ok]
    simp
  unfold sm_Roll_end_l1
  rw [if_of (and_of t1 (fun _ => t2) rfl)]
  rfl
theorem end_loop {P : RP} {R : RM} {D : List Cell} {w : Wd} (h : RAt w P R D) (S : Sane R) {p : LP} {x : LM} (hx : LeaseAt w p x) (fx : flatS x.flat = true) (d : Int) (a b : Option DV) : ∀ (td pre : List LM) (c : Option DV), R.leases = pre ++ td →
    (td.any (inEnd x d) = true → ∃ n, forL (gNm 4) sm_Roll_end_l1 P.la (P.ls.map fun p => .loc p.l) ((P.ls.drop pre.length).map fun p => .loc p.l) [a, b, some (.d (.int d)), some (.loc p.l), c] w = .ex (PySem.Str.ofString "Taken") n w) ∧
    (td.any (inEnd x d) = false → ∃ c', forL (gNm 4) sm_Roll_end_l1 P.la (P.ls.map fun p => .loc p.l) ((P.ls.drop pre.length).map fun p => .loc p.l) [a, b, some (.d (.int d)), some (.loc p.l), c] w = .ok (.nx [a, b, some (.d (.int d)), some (.loc p.l), c']) w) := by
  intro td
  induction td with
  | nil =>
    intro pre c q
    have len := h.len
    rw [q, List.append_nil] at len
    refine ⟨fun z => by simp at z, fun _ => ⟨c, ?_⟩⟩
    rw [show P.ls.drop pre.length = [] from List.drop_eq_nil_of_le (by omega), List.map_nil]
    unfold forL
    rw [if_pos h.a]
  | cons y td ih =>
    intro pre c q
    have len := h.len
    rw [q, List.length_append, List.length_cons] at len
    have hp : P.ls[pre.length]? = some (P.ls[pre.length]'(by omega)) := List.getElem?_eq_getElem (by omega)
    generalize P.ls[pre.length]'(by omega) = o at hp
    have hd : P.ls.drop pre.length = o :: P.ls.drop (pre.length + 1) := by
      obtain ⟨hlt, he⟩ := List.getElem?_eq_some_iff.mp hp
      rw [← he]
      exact List.drop_eq_getElem_cons hlt
    have hye : R.leases[pre.length]? = some y := by rw [q]; simp
    have hy := h.lease hp hye
    have b1 := end_body hx hy fx (S.fl y (List.mem_of_getElem? hye)) d a b
    have st : forL (gNm 4) sm_Roll_end_l1 P.la (P.ls.map fun p => .loc p.l) ((P.ls.drop pre.length).map fun p => .loc p.l) [a, b, some (.d (.int d)), some (.loc p.l), c] w = (match sm_Roll_end_l1 [a, b, some (.d (.int d)), some (.loc p.l), some (.loc o.l)] w with
      | .ok (.nx e2) w2 => forL (gNm 4) sm_Roll_end_l1 P.la (P.ls.map fun p => .loc p.l) ((P.ls.drop (pre.length + 1)).map fun p => .loc p.l) e2 w2
      | .ok (.ct e2) w2 => forL (gNm 4) sm_Roll_end_l1 P.la (P.ls.map fun p => .loc p.l) ((P.ls.drop (pre.length + 1)).map fun p => .loc p.l) e2 w2
      | .ok (.bk e2) w2 => .ok (.nx e2) w2
      | .ok (.rt d) w2 => .ok (.rt d) w2
      | .ex c e2 w2 => .ex c e2 w2
      | .bad => .bad) := by
      rw [hd, List.map_cons, forL, if_pos h.a]
      rfl
    rw [b1] at st
    have e4 : (pre ++ [y]).length = pre.length + 1 := by simp
    have i2 := ih (pre ++ [y]) (some (.loc o.l)) (by rw [q]; simp)
    rw [e4] at i2
    rw [st, List.any_cons]
    cases z : inEnd x d y with
    | true => simp
    | false => simpa using i2
theorem end_ok {w : Wd} {P : RP} {R : RM} {D : List Cell} (h : RAt w P R D) (S : Sane R) {k : Nat} (rm : Room R k) (hk : k < 20000) (n : Nat) (d : Int) (o : (Lt.endL n d).Ok) :
    Told w P R D (.endL n d) (f_Roll_end [.loc P.r, .d (.int n), .d (.int d)] w) := by
  unfold Told
  show (match (match R.leases[n]? with | none => some (PySem.Str.ofString "NoLease") | some x => if d < x.first then some (PySem.Str.ofString "BadDay") else if R.leases.any (fun y => inEnd x d y) = true then some (PySem.Str.ofString "Taken") else none) with
    | some c' => f_Roll_end [.loc P.r, .d (.int n), .d (.int d)] w = .ex c' w
    | none => _)
  have hs : f_Roll_end [.loc P.r, .d (.int n), .d (.int d)] w = finW (sm_Roll_end [some (.loc P.r), some (.d (.int n)), some (.d (.int d)), none, none] w) := rfl
  cases q : R.leases[n]? with
  | none =>
    rw [hs]
    unfold sm_Roll_end
    rw [seq_ex (set_ex (sureMx h (a := .int n) trivial (no_lease q) rfl rfl))]
    rfl
  | some x =>
    obtain ⟨p, hp⟩ := h.place q
    have hx := h.lease hp q
    have fx := S.fl x (List.mem_of_getElem? q)
    have pre : f_Roll_end [.loc P.r, .d (.int n), .d (.int d)] w = finW (sm_Roll_end_t2 [some (.loc P.r), some (.d (.int n)), some (.d (.int d)), some (.loc p.l), none] w) := by
      rw [hs]
      unfold sm_Roll_end sm_Roll_end_t1
      rw [seq_of (e1 := [some (.loc P.r), some (.d (.int n)), some (.d (.int d)), some (.loc p.l), none]) (set_of (sureM h hp rfl rfl)),
        seq_of (exp_of (callP_of (cons_of (show (xVar 2) _ w = .ok (.d (.int d)) w from rfl) (xNil_ap _ _)) rfl (day_go o)))]
    have t := bin_of (op := oLt) (show (xVar 2) [some (.loc P.r), some (.d (.int n)), some (.d (.int d)), some (.loc p.l), none] w = .ok (.d (.int d)) w from rfl) (fld_of (show (xVar 3) _ w = .ok (.loc p.l) w from rfl) hx.o (lf_first p x)) (oI_ap _ _ _ _ _)
    unfold sm_Roll_end_t2 at pre
    by_cases z : d < x.first
    · simp only [if_pos z]
      rw [pre, seq_ex (by rw [if_of t, decide_eq_true z]; rfl)]
      rfl
    · simp only [if_neg z]
      obtain ⟨l1, l2⟩ := end_loop h S hx fx d (some (.loc P.r)) (some (.d (.int n))) R.leases [] none rfl
      rw [List.length_nil, List.drop_zero] at l1 l2
      have lp : sFor (gNm 4) (xFld (PySem.Str.ofString "Roll") (PySem.Str.ofString "leases") (xVar 0)) sm_Roll_end_l1 [some (.loc P.r), some (.d (.int n)), some (.d (.int d)), some (.loc p.l), none] w =
          forL (gNm 4) sm_Roll_end_l1 P.la (P.ls.map fun p => .loc p.l) (P.ls.map fun p => .loc p.l) [some (.loc P.r), some (.d (.int n)), some (.d (.int d)), some (.loc p.l), none] w := by
        rw [sFor_ap, fld_of (show (xVar 0) _ w = .ok (.loc P.r) w from rfl) h.o (rf_leases P R), st_ok]
        simp only [h.a]
      rw [← lp] at l1 l2
      rw [pre, seq_of (e1 := [some (.loc P.r), some (.d (.int n)), some (.d (.int d)), some (.loc p.l), none]) (w1 := w) (by rw [if_of t, decide_eq_false z]; rfl)]
      unfold sm_Roll_end_t3
      cases za : R.leases.any (inEnd x d) with
      | true =>
        obtain ⟨e, l1⟩ := l1 za
        simp only [if_true]
        rw [seq_ex l1]
        rfl
      | false =>
        obtain ⟨c, l2⟩ := l2 za
        simp only [Bool.false_eq_true, if_false]
        have a1 : sFld (PySem.Str.ofString "Lease") (PySem.Str.ofString "last") (xVar 3) (xVar 2) [some (.loc P.r), some (.d (.int n)), some (.d (.int d)), some (.loc p.l), c] w = .ok (.nx [some (.loc P.r), some (.d (.int n)), some (.d (.int d)), some (.loc p.l), c]) (w.set p.l (leaseO p (x.wla d))) := by
          rw [setF_of (show (xVar 2) _ w = .ok (.d (.int d)) w from rfl) (show (xVar 3) _ w = .ok (.loc p.l) w from rfl) hx.o (lf_len p x), put_last]
        have h1 := h.setL (x.wla d) hp q rfl rfl
        have ep : ({ R with leases := R.leases.set n (x.wla d) } : RM) = R.put (.endL n d) := (mod_eq q fun x => x.wla d).symm
        rw [ep] at h1
        generalize w.set p.l (leaseO p (x.wla d)) = w1 at a1 h1
        obtain ⟨w', l, P', e1, e2, e3⟩ := done_tell S rm hk o h1 rfl
        refine ⟨w', l, P', ?_, e2, e3⟩
        rw [seq_of l2]
        unfold sm_Roll_end_t4 sm_Roll_end_t5
        rw [seq_of a1, ret_of (doneM h1 rfl (cons_of (show _ = Rs.ok (DV.d (Lt.endL n d).data) w1 from rfl) (xNil_ap _ _)) e1)]
        rfl
end LW

set_option Elab.async false
set_option linter.all false
set_option maxRecDepth 100000
set_option maxHeartbeats 4000000
namespace LW
open PySem PySem.Spec PyProof.Rows L2 RK
theorem step_ok {w : Wd} {P : RP} {R : RM} {D : List Cell} (h : RAt w P R D) (S : Sane R) {k : Nat} (rm : Room R k) (hk : k < 20000) (n : Nat) (d c : Int) (o : (Lt.step n d c).Ok) :
    Told w P R D (.step n d c) (f_Roll_step [.loc P.r, .d (.int n), .d (.int d), .d (.int c)] w) := by
  unfold Told
  show (match (match R.leases[n]? with | none => some (PySem.Str.ofString "NoLease") | some _ => none) with
    | some c' => f_Roll_step [.loc P.r, .d (.int n), .d (.int d), .d (.int c)] w = .ex c' w
    | none => _)
  have hs : f_Roll_step [.loc P.r, .d (.int n), .d (.int d), .d (.int c)] w = finW (sm_Roll_step [some (.loc P.r), some (.d (.int n)), some (.d (.int d)), some (.d (.int c)), none] w) := rfl
  cases q : R.leases[n]? with
  | none =>
    rw [hs]
    unfold sm_Roll_step
    rw [seq_ex (set_ex (sureMx h (a := .int n) trivial (no_lease q) rfl rfl))]
    rfl
  | some x =>
    obtain ⟨p, hp⟩ := h.place q
    have hx := h.lease hp q
    have a1 : sExp (xApp (xFld (PySem.Str.ofString "Lease") (PySem.Str.ofString "steps") (xVar 4)) (xTup (xCons (xVar 2) (xCons (xVar 3) xNil)))) [some (.loc P.r), some (.d (.int n)), some (.d (.int d)), some (.d (.int c)), some (.loc p.l)] w = .ok (.nx [some (.loc P.r), some (.d (.int n)), some (.d (.int d)), some (.d (.int c)), some (.loc p.l)]) (w.set p.ls (.lst (ivs (x.steps ++ [(d, c)])))) := by
      rw [exp_of (app_of (fld_of (show (xVar 4) _ w = .ok (.loc p.l) w from rfl) hx.o (lf_steps p x)) hx.s (show _ = Rs.ok (DV.d (tup2 (d, c))) w from rfl) hx.s (by rw [List.length_map, List.length_map]; have := rm.s x (List.mem_of_getElem? q); omega))]
      simp only [ivs, List.map_append]
      rfl
    have h1 := h.setS (x.steps ++ [(d, c)]) hp q
    have ep : ({ R with leases := R.leases.set n { x with steps := x.steps ++ [(d, c)] } } : RM) = R.put (.step n d c) := (mod_eq q fun x => x.addS (d, c)).symm
    rw [ep] at h1
    generalize w.set p.ls (.lst (ivs (x.steps ++ [(d, c)]))) = w1 at a1 h1
    obtain ⟨w', l, P', e1, e2, e3⟩ := done_tell S rm hk o h1 rfl
    refine ⟨w', l, P', ?_, e2, e3⟩
    rw [hs]
    unfold sm_Roll_step sm_Roll_step_t1 sm_Roll_step_t2 sm_Roll_step_t3 sm_Roll_step_t4
    rw [seq_of (e1 := [some (.loc P.r), some (.d (.int n)), some (.d (.int d)), some (.d (.int c)), some (.loc p.l)]) (set_of (sureM h hp rfl rfl)),
      seq_of (exp_of (callP_of (cons_of (show (xVar 2) _ w = .ok (.d (.int d)) w from rfl) (xNil_ap _ _)) rfl (day_go o.1))),
      seq_of (exp_of (callP_of (cons_of (show (xVar 3) _ w = .ok (.d (.int c)) w from rfl) (cons_of (xLit_ap _ _ _) (cons_of (xLit_ap _ _ _) (xNil_ap _ _)))) rfl (amount_go o.2)))]
    rw [seq_of a1, ret_of (doneM h1 rfl (cons_of (show _ = Rs.ok (DV.d (Lt.step n d c).data) w1 from rfl) (xNil_ap _ _)) e1)]
    rfl
end LW

set_option Elab.async false
set_option linter.all false
set_option maxRecDepth 100000
set_option maxHeartbeats 4000000
namespace LW
open PySem PySem.Spec PyProof.Rows L2 RK
theorem gauge_ok {w : Wd} {P : RP} {R : RM} {D : List Cell} (h : RAt w P R D) (S : Sane R) {k : Nat} (rm : Room R k) (hk : k < 20000) (d c : Int) (o : (Lt.gauge d c).Ok) :
    Told w P R D (.gauge d c) (f_Roll_gauge [.loc P.r, .d (.int d), .d (.int c)] w) := by
  show ∃ w' l P', _
  have hs : f_Roll_gauge [.loc P.r, .d (.int d), .d (.int c)] w = finW (sm_Roll_gauge [some (.loc P.r), some (.d (.int d)), some (.d (.int c))] w) := rfl
  have a1 : sExp (xApp (xFld (PySem.Str.ofString "Roll") (PySem.Str.ofString "gauges") (xVar 0)) (xTup (xCons (xVar 1) (xCons (xVar 2) xNil)))) [some (.loc P.r), some (.d (.int d)), some (.d (.int c))] w = .ok (.nx [some (.loc P.r), some (.d (.int d)), some (.d (.int c))]) (w.set P.lg (.lst (ivs (R.gauges ++ [(d, c)])))) := by
    rw [exp_of (app_of (fld_of (show (xVar 0) _ w = .ok (.loc P.r) w from rfl) h.o (rf_gauges P R)) h.g (show _ = Rs.ok (DV.d (tup2 (d, c))) w from rfl) h.g (by rw [List.length_map, List.length_map]; have := rm.g; omega))]
    simp only [ivs, List.map_append]
    rfl
  have h1 : RAt (w.set P.lg (.lst (ivs (R.gauges ++ [(d, c)])))) P (R.put (.gauge d c)) D := h.setG (R.gauges ++ [(d, c)])
  generalize w.set P.lg (.lst (ivs (R.gauges ++ [(d, c)]))) = w1 at a1 h1
  obtain ⟨w', l, P', e1, e2, e3⟩ := done_tell S rm hk o h1 rfl
  refine ⟨w', l, P', ?_, e2, e3⟩
  rw [hs]
  unfold sm_Roll_gauge
  rw [seq_of (exp_of (callP_of (cons_of (show (xVar 1) _ w = .ok (.d (.int d)) w from rfl) (xNil_ap _ _)) rfl (day_go o.1))),
    seq_of (exp_of (callP_of (cons_of (show (xVar 2) _ w = .ok (.d (.int c)) w from rfl) (cons_of (xLit_ap _ _ _) (cons_of (xLit_ap _ _ _) (xNil_ap _ _)))) rfl (amount_go o.2)))]
  rw [seq_of a1, ret_of (doneM h1 rfl (cons_of (show _ = Rs.ok (DV.d (Lt.gauge d c).data) w1 from rfl) (xNil_ap _ _)) e1)]
  rfl
end LW

set_option Elab.async false
set_option linter.all false
set_option maxRecDepth 100000
set_option maxHeartbeats 4000000
namespace LW
open PySem PySem.Spec PyProof.Rows L2 RK
theorem rate_ok {w : Wd} {P : RP} {R : RM} {D : List Cell} (h : RAt w P R D) (S : Sane R) {k : Nat} (rm : Room R k) (hk : k < 20000) (d c : Int) (o : (Lt.rate d c).Ok) :
    Told w P R D (.rate d c) (f_Roll_rate [.loc P.r, .d (.int d), .d (.int c)] w) := by
  show ∃ w' l P', _
  have hs : f_Roll_rate [.loc P.r, .d (.int d), .d (.int c)] w = finW (sm_Roll_rate [some (.loc P.r), some (.d (.int d)), some (.d (.int c))] w) := rfl
  have a1 : sExp (xApp (xFld (PySem.Str.ofString "Roll") (PySem.Str.ofString "rates") (xVar 0)) (xTup (xCons (xVar 1) (xCons (xVar 2) xNil)))) [some (.loc P.r), some (.d (.int d)), some (.d (.int c))] w = .ok (.nx [some (.loc P.r), some (.d (.int d)), some (.d (.int c))]) (w.set P.lr (.lst (ivs (R.rates ++ [(d, c)])))) := by
    rw [exp_of (app_of (fld_of (show (xVar 0) _ w = .ok (.loc P.r) w from rfl) h.o (rf_rates P R)) h.rt (show _ = Rs.ok (DV.d (tup2 (d, c))) w from rfl) h.rt (by rw [List.length_map, List.length_map]; have := rm.r; omega))]
    simp only [ivs, List.map_append]
    rfl
  have h1 : RAt (w.set P.lr (.lst (ivs (R.rates ++ [(d, c)])))) P (R.put (.rate d c)) D := h.setR (R.rates ++ [(d, c)])
  generalize w.set P.lr (.lst (ivs (R.rates ++ [(d, c)]))) = w1 at a1 h1
  obtain ⟨w', l, P', e1, e2, e3⟩ := done_tell S rm hk o h1 rfl
  refine ⟨w', l, P', ?_, e2, e3⟩
  rw [hs]
  unfold sm_Roll_rate
  rw [seq_of (exp_of (callP_of (cons_of (show (xVar 1) _ w = .ok (.d (.int d)) w from rfl) (xNil_ap _ _)) rfl (day_go o.1))),
    seq_of (exp_of (callP_of (cons_of (show (xVar 2) _ w = .ok (.d (.int c)) w from rfl) (cons_of (xLit_ap _ _ _) (cons_of (xLit_ap _ _ _) (xNil_ap _ _)))) rfl (amount_go o.2)))]
  rw [seq_of a1, ret_of (doneM h1 rfl (cons_of (show _ = Rs.ok (DV.d (Lt.rate d c).data) w1 from rfl) (xNil_ap _ _)) e1)]
  rfl
end LW

set_option Elab.async false
set_option linter.all false
set_option maxRecDepth 100000
set_option maxHeartbeats 4000000
namespace LW
open PySem PySem.Spec PyProof.Rows L2 RK
theorem paid_ok {w : Wd} {P : RP} {R : RM} {D : List Cell} (h : RAt w P R D) (S : Sane R) {k : Nat} (rm : Room R k) (hk : k < 20000) (n : Nat) (d c : Int) (o : (Lt.paid n d c).Ok) :
    Told w P R D (.paid n d c) (f_Roll_paid [.loc P.r, .d (.int n), .d (.int d), .d (.int c)] w) := by
  unfold Told
  show (match (match R.leases[n]? with | none => some (PySem.Str.ofString "NoLease") | some _ => none) with
    | some c' => f_Roll_paid [.loc P.r, .d (.int n), .d (.int d), .d (.int c)] w = .ex c' w
    | none => _)
  have hs : f_Roll_paid [.loc P.r, .d (.int n), .d (.int d), .d (.int c)] w = finW (sm_Roll_paid [some (.loc P.r), some (.d (.int n)), some (.d (.int d)), some (.d (.int c)), none] w) := rfl
  cases q : R.leases[n]? with
  | none =>
    rw [hs]
    unfold sm_Roll_paid
    rw [seq_ex (set_ex (sureMx h (a := .int n) trivial (no_lease q) rfl rfl))]
    rfl
  | some x =>
    obtain ⟨p, hp⟩ := h.place q
    have hx := h.lease hp q
    have a1 : sExp (xApp (xFld (PySem.Str.ofString "Lease") (PySem.Str.ofString "moves") (xVar 4)) (xTup (xCons (xVar 2) (xCons (xVar 3) xNil)))) [some (.loc P.r), some (.d (.int n)), some (.d (.int d)), some (.d (.int c)), some (.loc p.l)] w = .ok (.nx [some (.loc P.r), some (.d (.int n)), some (.d (.int d)), some (.d (.int c)), some (.loc p.l)]) (w.set p.lm (.lst (ivs (x.moves ++ [(d, c)])))) := by
      rw [exp_of (app_of (fld_of (show (xVar 4) _ w = .ok (.loc p.l) w from rfl) hx.o (lf_moves p x)) hx.m (show _ = Rs.ok (DV.d (tup2 (d, c))) w from rfl) hx.m (by rw [List.length_map, List.length_map]; have := rm.m x (List.mem_of_getElem? q); omega))]
      simp only [ivs, List.map_append]
      rfl
    have h1 := h.setM (x.moves ++ [(d, c)]) hp q
    have ep : ({ R with leases := R.leases.set n { x with moves := x.moves ++ [(d, c)] } } : RM) = R.put (.paid n d c) := (mod_eq q fun x => x.addM (d, c)).symm
    rw [ep] at h1
    generalize w.set p.lm (.lst (ivs (x.moves ++ [(d, c)]))) = w1 at a1 h1
    obtain ⟨w', l, P', e1, e2, e3⟩ := done_tell S rm hk o h1 rfl
    refine ⟨w', l, P', ?_, e2, e3⟩
    rw [hs]
    unfold sm_Roll_paid sm_Roll_paid_t1 sm_Roll_paid_t2 sm_Roll_paid_t3 sm_Roll_paid_t4
    rw [seq_of (e1 := [some (.loc P.r), some (.d (.int n)), some (.d (.int d)), some (.d (.int c)), some (.loc p.l)]) (set_of (sureM h hp rfl rfl)),
      seq_of (exp_of (callP_of (cons_of (show (xVar 2) _ w = .ok (.d (.int d)) w from rfl) (xNil_ap _ _)) rfl (day_go o.1))),
      seq_of (exp_of (callP_of (cons_of (show (xVar 3) _ w = .ok (.d (.int c)) w from rfl) (cons_of (xLit_ap _ _ _) (cons_of (xLit_ap _ _ _) (xNil_ap _ _)))) rfl (amount_go o.2)))]
    rw [seq_of a1, ret_of (doneM h1 rfl (cons_of (show _ = Rs.ok (DV.d (Lt.paid n d c).data) w1 from rfl) (xNil_ap _ _)) e1)]
    rfl
end LW

set_option Elab.async false
set_option linter.all false
set_option maxRecDepth 100000
set_option maxHeartbeats 4000000
namespace LW
open PySem PySem.Spec PyProof.Rows L2 RK
theorem kept_ok {w : Wd} {P : RP} {R : RM} {D : List Cell} (h : RAt w P R D) (S : Sane R) {k : Nat} (rm : Room R k) (hk : k < 20000) (n : Nat) (d c : Int) (o : (Lt.kept n d c).Ok) :
    Told w P R D (.kept n d c) (f_Roll_kept [.loc P.r, .d (.int n), .d (.int d), .d (.int c)] w) := by
  unfold Told
  show (match (match R.leases[n]? with | none => some (PySem.Str.ofString "NoLease") | some _ => none) with
    | some c' => f_Roll_kept [.loc P.r, .d (.int n), .d (.int d), .d (.int c)] w = .ex c' w
    | none => _)
  have hs : f_Roll_kept [.loc P.r, .d (.int n), .d (.int d), .d (.int c)] w = finW (sm_Roll_kept [some (.loc P.r), some (.d (.int n)), some (.d (.int d)), some (.d (.int c)), none] w) := rfl
  cases q : R.leases[n]? with
  | none =>
    rw [hs]
    unfold sm_Roll_kept
    rw [seq_ex (set_ex (sureMx h (a := .int n) trivial (no_lease q) rfl rfl))]
    rfl
  | some x =>
    obtain ⟨p, hp⟩ := h.place q
    have hx := h.lease hp q
    have a1 : sExp (xApp (xFld (PySem.Str.ofString "Lease") (PySem.Str.ofString "moves") (xVar 4)) (xTup (xCons (xVar 2) (xCons (xBin oSub (xLit (.int 0)) (xVar 3)) xNil)))) [some (.loc P.r), some (.d (.int n)), some (.d (.int d)), some (.d (.int c)), some (.loc p.l)] w = .ok (.nx [some (.loc P.r), some (.d (.int n)), some (.d (.int d)), some (.d (.int c)), some (.loc p.l)]) (w.set p.lm (.lst (ivs (x.moves ++ [(d, 0 - c)])))) := by
      rw [exp_of (app_of (fld_of (show (xVar 4) _ w = .ok (.loc p.l) w from rfl) hx.o (lf_moves p x)) hx.m (show _ = Rs.ok (DV.d (tup2 (d, 0 - c))) w from rfl) hx.m (by rw [List.length_map, List.length_map]; have := rm.m x (List.mem_of_getElem? q); omega))]
      simp only [ivs, List.map_append]
      rfl
    have h1 := h.setM (x.moves ++ [(d, 0 - c)]) hp q
    have ep : ({ R with leases := R.leases.set n { x with moves := x.moves ++ [(d, 0 - c)] } } : RM) = R.put (.kept n d c) := (mod_eq q fun x => x.addM (d, 0 - c)).symm
    rw [ep] at h1
    generalize w.set p.lm (.lst (ivs (x.moves ++ [(d, 0 - c)]))) = w1 at a1 h1
    obtain ⟨w', l, P', e1, e2, e3⟩ := done_tell S rm hk o h1 rfl
    refine ⟨w', l, P', ?_, e2, e3⟩
    rw [hs]
    unfold sm_Roll_kept sm_Roll_kept_t1 sm_Roll_kept_t2 sm_Roll_kept_t3 sm_Roll_kept_t4
    rw [seq_of (e1 := [some (.loc P.r), some (.d (.int n)), some (.d (.int d)), some (.d (.int c)), some (.loc p.l)]) (set_of (sureM h hp rfl rfl)),
      seq_of (exp_of (callP_of (cons_of (show (xVar 2) _ w = .ok (.d (.int d)) w from rfl) (xNil_ap _ _)) rfl (day_go o.1))),
      seq_of (exp_of (callP_of (cons_of (show (xVar 3) _ w = .ok (.d (.int c)) w from rfl) (cons_of (xLit_ap _ _ _) (cons_of (xLit_ap _ _ _) (xNil_ap _ _)))) rfl (amount_go o.2)))]
    rw [seq_of a1, ret_of (doneM h1 rfl (cons_of (show _ = Rs.ok (DV.d (Lt.kept n d c).data) w1 from rfl) (xNil_ap _ _)) e1)]
    rfl
end LW

set_option Elab.async false
set_option linter.all false
set_option maxRecDepth 100000
set_option maxHeartbeats 4000000
namespace LW
open PySem PySem.Spec PyProof.Rows L2 RK
theorem close_ok {w : Wd} {P : RP} {R : RM} {D : List Cell} (h : RAt w P R D) (S : Sane R) {k : Nat} (rm : Room R k) (hk : k < 20000) (n : Nat) (d : Int) (o : (Lt.close n d).Ok) :
    Told w P R D (.close n d) (f_Roll_close [.loc P.r, .d (.int n), .d (.int d)] w) := by
  unfold Told
  show (match (match R.leases[n]? with | none => some (PySem.Str.ofString "NoLease") | some x => if x.shut.isSome = true then some (PySem.Str.ofString "Done") else none) with
    | some c' => f_Roll_close [.loc P.r, .d (.int n), .d (.int d)] w = .ex c' w
    | none => _)
  have hs : f_Roll_close [.loc P.r, .d (.int n), .d (.int d)] w = finW (sm_Roll_close [some (.loc P.r), some (.d (.int n)), some (.d (.int d)), none] w) := rfl
  cases q : R.leases[n]? with
  | none =>
    rw [hs]
    unfold sm_Roll_close
    rw [seq_ex (set_ex (sureMx h (a := .int n) trivial (no_lease q) rfl rfl))]
    rfl
  | some x =>
    obtain ⟨p, hp⟩ := h.place q
    have hx := h.lease hp q
    have pre : f_Roll_close [.loc P.r, .d (.int n), .d (.int d)] w = finW (sm_Roll_close_t2 [some (.loc P.r), some (.d (.int n)), some (.d (.int d)), some (.loc p.l)] w) := by
      rw [hs]
      unfold sm_Roll_close sm_Roll_close_t1
      rw [seq_of (e1 := [some (.loc P.r), some (.d (.int n)), some (.d (.int d)), some (.loc p.l)]) (set_of (sureM h hp rfl rfl)),
        seq_of (exp_of (callP_of (cons_of (show (xVar 2) _ w = .ok (.d (.int d)) w from rfl) (xNil_ap _ _)) rfl (day_go o)))]
    have t := bin_of (op := oNotN) (fld_of (e := [some (.loc P.r), some (.d (.int n)), some (.d (.int d)), some (.loc p.l)]) (show (xVar 3) _ w = .ok (.loc p.l) w from rfl) hx.o (lf_shut p x)) (xLit_ap .none _ w) rfl
    unfold sm_Roll_close_t2 at pre
    cases q2 : x.shut with
    | some e =>
      rw [q2] at t
      simp only [q2, Option.isSome_some, if_true]
      rw [pre, seq_ex (by rw [if_of t]; rfl)]
      rfl
    | none =>
      rw [q2] at t
      simp only [q2, Option.isSome_none]
      have a1 : sFld (PySem.Str.ofString "Lease") (PySem.Str.ofString "shut") (xVar 3) (xVar 2) [some (.loc P.r), some (.d (.int n)), some (.d (.int d)), some (.loc p.l)] w = .ok (.nx [some (.loc P.r), some (.d (.int n)), some (.d (.int d)), some (.loc p.l)]) (w.set p.l (leaseO p (x.wsh d))) := by
        rw [setF_of (show (xVar 2) _ w = .ok (.d (.int d)) w from rfl) (show (xVar 3) _ w = .ok (.loc p.l) w from rfl) hx.o (lf_len p x), put_shut]
      have h1 := h.setL (x.wsh d) hp q rfl rfl
      have ep : ({ R with leases := R.leases.set n (x.wsh d) } : RM) = R.put (.close n d) := (mod_eq q fun x => x.wsh d).symm
      rw [ep] at h1
      generalize w.set p.l (leaseO p (x.wsh d)) = w1 at a1 h1
      obtain ⟨w', l, P', e1, e2, e3⟩ := done_tell S rm hk o h1 rfl
      refine ⟨w', l, P', ?_, e2, e3⟩
      rw [pre, seq_of (e1 := [some (.loc P.r), some (.d (.int n)), some (.d (.int d)), some (.loc p.l)]) (w1 := w) (by rw [if_of t]; rfl)]
      unfold sm_Roll_close_t3 sm_Roll_close_t4
      rw [seq_of a1, ret_of (doneM h1 rfl (cons_of (show _ = Rs.ok (DV.d (Lt.close n d).data) w1 from rfl) (xNil_ap _ _)) e1)]
      rfl
end LW

set_option Elab.async false
set_option linter.all false
set_option maxRecDepth 100000
set_option maxHeartbeats 4000000
namespace LW
open PySem PySem.Spec PyProof.Rows L2 RK
theorem bill_ok {w : Wd} {P : RP} {R : RM} {D : List Cell} (h : RAt w P R D) (S : Sane R) {k : Nat} (rm : Room R k) (hk : k < 20000) (d : Int) (o : (Lt.bill d).Ok) :
    Told w P R D (.bill d) (f_Roll_bill [.loc P.r, .d (.int d)] w) := by
  unfold Told
  show (match (if d < R.through then some (PySem.Str.ofString "Done") else none) with
    | some c' => f_Roll_bill [.loc P.r, .d (.int d)] w = .ex c' w
    | none => _)
  have hs : f_Roll_bill [.loc P.r, .d (.int d)] w = finW (sm_Roll_bill [some (.loc P.r), some (.d (.int d))] w) := rfl
  have v0 : ∀ w, (xVar 0) [some (.loc P.r), some (.d (.int d))] w = .ok (.loc P.r) w := fun _ => rfl
  have v1 : ∀ w, (xVar 1) [some (.loc P.r), some (.d (.int d))] w = .ok (.d (.int d)) w := fun _ => rfl
  have t := bin_of (op := oLt) (v1 w) (fld_of (v0 w) h.o (rf_through P R)) (oI_ap _ _ _ _ _)
  rw [hs]
  unfold sm_Roll_bill
  rw [seq_of (exp_of (callP_of (cons_of (v1 w) (xNil_ap _ _)) rfl (day_go o)))]
  by_cases z : d < R.through
  · simp only [if_pos z]
    rw [seq_ex (by rw [if_of t, decide_eq_true z]; rfl)]
    rfl
  · simp only [if_neg z]
    have a1 : sFld (PySem.Str.ofString "Roll") (PySem.Str.ofString "through") (xVar 0) (xVar 1) [some (.loc P.r), some (.d (.int d))] w = .ok (.nx [some (.loc P.r), some (.d (.int d))]) (w.set P.r (rollO P { R with through := d })) := by
      rw [setF_of (v1 w) (v0 w) h.o (rf_len P R), put_through]
    have h1 : RAt (w.set P.r (rollO P { R with through := d })) P (R.put (.bill d)) D := h.setB d
    generalize w.set P.r (rollO P { R with through := d }) = w1 at a1 h1
    obtain ⟨w', l, P', e1, e2, e3⟩ := done_tell S rm hk o h1 rfl
    refine ⟨w', l, P', ?_, e2, e3⟩
    rw [seq_of (e1 := [some (.loc P.r), some (.d (.int d))]) (w1 := w) (by rw [if_of t, decide_eq_false z]; rfl), seq_of a1, ret_of (doneM h1 (v0 w1) (cons_of (show _ = Rs.ok (DV.d (Lt.bill d).data) w1 from rfl) (xNil_ap _ _)) e1)]
    rfl
end LW

set_option Elab.async false
set_option linter.all false
set_option maxRecDepth 100000
set_option maxHeartbeats 4000000
namespace LW
open PySem PySem.Spec PyProof.Rows L2 RK
def RM.new : RM := ⟨[], [(0, 100)], [(0, 0)], -1, []⟩
theorem sane_new : Sane RM.new := by
  refine ⟨gok_plain, rok_zero 0 [] fun p hp => ?_, by decide, fun x hx => (List.not_mem_nil hx).elim, fun x hx => (List.not_mem_nil hx).elim, fun x hx => (List.not_mem_nil hx).elim, fun x hx => (List.not_mem_nil hx).elim⟩
  rw [List.mem_singleton] at hp
  subst hp
  exact ⟨by decide, by decide⟩
theorem room_new : Room RM.new 0 := ⟨Nat.le_refl _, Nat.le_refl _, Nat.le_refl _, Nat.le_refl _, fun x hx => (List.not_mem_nil hx).elim, fun x hx => (List.not_mem_nil hx).elim⟩
/-- Roll() -/
theorem new_ok {w : Wd} {D : List Cell} (h : At w D) (e : En) : ∃ w' P, xMake0 (PySem.Str.ofString "Roll") f_Roll__init e w = .ok (.loc P.r) w' ∧ RAt w' P RM.new D := by
  have n0 := h.new (.ins (PySem.Str.ofString "Roll") [])
  generalize hl : w.length = l at n0
  generalize hw : w ++ [AO.ins (PySem.Str.ofString "Roll") []] = w0 at n0
  have v0 : ∀ w, (xVar 0) [some (.loc l)] w = .ok (.loc l) w := fun _ => rfl
  have n1 := (n0.new (.lst [])).perm (List.Perm.swap _ _ _)
  have s1 := setF_of (c := (PySem.Str.ofString "Roll")) (f := (PySem.Str.ofString "leases")) (show xLstS xNil [some (.loc l)] w0 = .ok (.loc w0.length) (w0 ++ [.lst []]) from rfl) (v0 _) (n1.at_ (List.mem_cons_self ..)) (by show 0 < 1000; decide)
  have h1 := n1.put0 (o' := .ins (PySem.Str.ofString "Roll") (putD (PySem.Str.ofString "leases") (.loc w0.length) []))
  generalize w0.length = a1 at s1 h1
  generalize (w0 ++ _).set l _ = w1 at s1 h1
  have n2 := (h1.new (.lst (ivs [(0, 100)]))).perm (List.Perm.swap _ _ _)
  have s2 := setF_of (c := (PySem.Str.ofString "Roll")) (f := (PySem.Str.ofString "gauges")) (show xLstS (xCons (xTup (xCons (xLit (.int 0)) (xCons (xLit (.int 100)) xNil))) xNil) [some (.loc l)] w1 = .ok (.loc w1.length) (w1 ++ [.lst (ivs [(0, 100)])]) from rfl) (v0 _) (n2.at_ (List.mem_cons_self ..)) (by show 1 < 1000; decide)
  have h2 := n2.put0 (o' := .ins (PySem.Str.ofString "Roll") (putD (PySem.Str.ofString "gauges") (.loc w1.length) (putD (PySem.Str.ofString "leases") (.loc a1) [])))
  generalize w1.length = a2 at s2 h2
  generalize (w1 ++ _).set l _ = w2 at s2 h2
  have n3 := (h2.new (.lst (ivs [(0, 0)]))).perm (List.Perm.swap _ _ _)
  have s3 := setF_of (c := (PySem.Str.ofString "Roll")) (f := (PySem.Str.ofString "rates")) (show xLstS (xCons (xTup (xCons (xLit (.int 0)) (xCons (xLit (.int 0)) xNil))) xNil) [some (.loc l)] w2 = .ok (.loc w2.length) (w2 ++ [.lst (ivs [(0, 0)])]) from rfl) (v0 _) (n3.at_ (List.mem_cons_self ..)) (by show 2 < 1000; decide)
  have h3 := n3.put0 (o' := .ins (PySem.Str.ofString "Roll") (putD (PySem.Str.ofString "rates") (.loc w2.length) (putD (PySem.Str.ofString "gauges") (.loc a2) (putD (PySem.Str.ofString "leases") (.loc a1) []))))
  generalize w2.length = a3 at s3 h3
  generalize (w2 ++ _).set l _ = w3 at s3 h3
  have s4 := setF_of (c := (PySem.Str.ofString "Roll")) (f := (PySem.Str.ofString "through")) (e := [some (.loc l)]) (w := w3) (w1 := w3) (v := .d (.int (-1))) (xv := xNeg (xLit (.int 1))) (by rfl) (v0 _) (h3.at_ (List.mem_cons_self ..)) (by show 3 < 1000; decide)
  have h4 := h3.put0 (o' := .ins (PySem.Str.ofString "Roll") (putD (PySem.Str.ofString "through") (.d (.int (-1))) (putD (PySem.Str.ofString "rates") (.loc a3) (putD (PySem.Str.ofString "gauges") (.loc a2) (putD (PySem.Str.ofString "leases") (.loc a1) [])))))
  generalize w3.set l _ = w4 at s4 h4
  have n5 := (h4.new (.lst [])).perm (List.Perm.swap _ _ _)
  have s5 := setF_of (c := (PySem.Str.ofString "Roll")) (f := (PySem.Str.ofString "told")) (show xLstS xNil [some (.loc l)] w4 = .ok (.loc w4.length) (w4 ++ [.lst []]) from rfl) (v0 _) (n5.at_ (List.mem_cons_self ..)) (by show 4 < 1000; decide)
  have h5 := n5.put0 (o' := .ins (PySem.Str.ofString "Roll") (putD (PySem.Str.ofString "told") (.loc w4.length) (putD (PySem.Str.ofString "through") (.d (.int (-1))) (putD (PySem.Str.ofString "rates") (.loc a3) (putD (PySem.Str.ofString "gauges") (.loc a2) (putD (PySem.Str.ofString "leases") (.loc a1) []))))))
  generalize w4.length = a5 at s5 h5
  generalize (w4 ++ _).set l _ = w5 at s5 h5
  have hf : f_Roll__init [.loc l] w0 = .ok (.d .none) w5 := by
    show finW (sm_Roll__init [some (.loc l)] w0) = _
    unfold sm_Roll__init sm_Roll__init_t1 sm_Roll__init_t2 sm_Roll__init_t3 sm_Roll__init_t4
    rw [seq_of s1, seq_of s2, seq_of s3, seq_of s4, s5]
    rfl
  refine ⟨w5, ⟨l, a1, a2, a3, a5, []⟩, ?_, ⟨h5.perm ?_, rfl⟩⟩
  · have q := make_of (c := (PySem.Str.ofString "Roll")) (f := f_Roll__init) (xs := xNil) (e := e) (w := w) (w2 := w5) (xNil_ap e w) (by rw [hl, hw]; exact hf)
    rw [hl] at q
    exact q
  · refine List.Perm.cons _ ?_
    show List.Perm ((a5, AO.lst []) :: (a3, AO.lst (ivs [(0, 0)])) :: (a2, AO.lst (ivs [(0, 100)])) :: (a1, AO.lst []) :: D) ((a1, AO.lst []) :: (a2, AO.lst (ivs [(0, 100)])) :: (a3, AO.lst (ivs [(0, 0)])) :: (a5, AO.lst []) :: D)
    refine (List.reverse_perm [(a1, AO.lst []), (a2, AO.lst (ivs [(0, 100)])), (a3, AO.lst (ivs [(0, 0)])), (a5, AO.lst [])]).append_right D
end LW

set_option Elab.async false
set_option linter.all false
set_option maxRecDepth 100000
set_option maxHeartbeats 4000000
namespace LW
open PySem PySem.Spec PyProof.Rows L2 RK
theorem given_ok {w : Wd} {P : RP} {R : RM} {D : List Cell} (h : RAt w P R D) {n : Nat} {x : LM} (q : R.leases[n]? = some x) : f_Roll_given [.loc P.r, .d (.int n)] w = .ok (.d (.int x.pledge)) w := by
  obtain ⟨p, hp⟩ := h.place q
  have hx := h.lease hp q
  show finW (sm_Roll_given [some (.loc P.r), some (.d (.int n))] w) = _
  unfold sm_Roll_given
  rw [ret_of (fld_of (sureM h hp rfl rfl) hx.o (lf_pledge p x))]
  rfl
end LW

set_option Elab.async false
set_option linter.all false
set_option maxRecDepth 100000
set_option maxHeartbeats 4000000
namespace LW
open PySem PySem.Spec PyProof.Rows L2 RK
theorem sent_ok {w : Wd} {P : RP} {R : RM} {D : List Cell} (h : RAt w P R D) {n : Nat} {x : LM} (q : R.leases[n]? = some x) : f_Roll_sent [.loc P.r, .d (.int n)] w = .ok (.d (.int x.rent)) w := by
  obtain ⟨p, hp⟩ := h.place q
  have hx := h.lease hp q
  show finW (sm_Roll_sent [some (.loc P.r), some (.d (.int n))] w) = _
  unfold sm_Roll_sent
  rw [ret_of (fld_of (sureM h hp rfl rfl) hx.o (lf_rent p x))]
  rfl
end LW

set_option Elab.async false
set_option linter.all false
set_option maxRecDepth 100000
set_option maxHeartbeats 4000000
namespace LW
open PySem PySem.Spec PyProof.Rows L2 RK
theorem rpledge_ok {w : Wd} {P : RP} {R : RM} {D : List Cell} (h : RAt w P R D) (S : Sane R) {k : Nat} (rm : Room R k) (hk : k < 20000) {n : Nat} {x : LM} (q : R.leases[n]? = some x) (d : Int) (o : isDay d) : f_Roll_pledge [.loc P.r, .d (.int n), .d (.int d)] w = .ok (.d (.int (worthOf x R.rates d))) w := by
  obtain ⟨p, hp⟩ := h.place q
  have hx := h.lease hp q
  show finW (sm_Roll_pledge [some (.loc P.r), some (.d (.int n)), some (.d (.int d)), none] w) = _
  unfold sm_Roll_pledge
  rw [seq_of (e1 := [some (.loc P.r), some (.d (.int n)), some (.d (.int d)), some (.loc p.l)]) (set_of (sureM h hp rfl rfl)),
    seq_of (exp_of (callP_of (cons_of (show (xVar 2) _ w = .ok (.d (.int d)) w from rfl) (xNil_ap _ _)) rfl (day_go o))),
    ret_of (methR_of (show (xVar 3) _ w = .ok (.loc p.l) w from rfl) hx.o rfl (cons_of (fld_of (show (xVar 0) _ w = .ok (.loc P.r) w from rfl) h.o (rf_rates P R)) (cons_of (show (xVar 2) _ w = .ok (.d (.int d)) w from rfl) (xNil_ap _ _))) (worth_ok hx h.rt S.r (by have := rm.m x (List.mem_of_getElem? q); omega) d o.2))]
  rfl
end LW

set_option Elab.async false
set_option linter.all false
set_option maxRecDepth 100000
set_option maxHeartbeats 4000000
namespace LW
open PySem PySem.Spec PyProof.Rows L2 RK
theorem rowed_ok {w : Wd} {P : RP} {R : RM} {D : List Cell} (h : RAt w P R D) (S : Sane R) {n : Nat} {x : LM} (q : R.leases[n]? = some x) (d : Int) (o : isDay d) : f_Roll_owed [.loc P.r, .d (.int n), .d (.int d)] w = .ok (.d (.int (dueOf x R.gauges d))) w := by
  obtain ⟨p, hp⟩ := h.place q
  have hx := h.lease hp q
  show finW (sm_Roll_owed [some (.loc P.r), some (.d (.int n)), some (.d (.int d)), none] w) = _
  unfold sm_Roll_owed
  rw [seq_of (e1 := [some (.loc P.r), some (.d (.int n)), some (.d (.int d)), some (.loc p.l)]) (set_of (sureM h hp rfl rfl)),
    seq_of (exp_of (callP_of (cons_of (show (xVar 2) _ w = .ok (.d (.int d)) w from rfl) (xNil_ap _ _)) rfl (day_go o))),
    ret_of (methR_of (show (xVar 3) _ w = .ok (.loc p.l) w from rfl) hx.o rfl (cons_of (fld_of (show (xVar 0) _ w = .ok (.loc P.r) w from rfl) h.o (rf_gauges P R)) (cons_of (show (xVar 2) _ w = .ok (.d (.int d)) w from rfl) (xNil_ap _ _))) (due_ok hx h.g (S.s x (List.mem_of_getElem? q)) S.g (S.f x (List.mem_of_getElem? q)) d o.2))]
  rfl
end LW

set_option Elab.async false
set_option linter.all false
set_option maxRecDepth 100000
set_option maxHeartbeats 4000000
namespace LW
open PySem PySem.Spec PyProof.Rows L2 RK
theorem many_ok {w : Wd} {P : RP} {R : RM} {D : List Cell} (h : RAt w P R D) : f_Roll_many [.loc P.r] w = .ok (.d (.int R.leases.length)) w := by
  show finW (sm_Roll_many [some (.loc P.r)] w) = _
  unfold sm_Roll_many
  have f2 : xCall oLen (xCons (xFld (PySem.Str.ofString "Roll") (PySem.Str.ofString "leases") (xVar 0)) xNil) [some (.loc P.r)] w = .ok (.d (.int (R.leases.length : Int))) w := by
    rw [xCall_ap, cons_of (fld_of (show (xVar 0) _ w = .ok (.loc P.r) w from rfl) h.o (rf_leases P R)) (xNil_ap _ _), bind_ok, oLen_loc, h.a]
    simp only [List.length_map]
    rw [h.len]
  rw [ret_of f2]
  rfl
end LW

set_option Elab.async false
set_option linter.all false
set_option maxRecDepth 100000
set_option maxHeartbeats 4000000
namespace LW
open PySem PySem.Spec PyProof.Rows L2 RK
theorem law_base_ok (c : Int) : ∃ r : Nat, r ≤ 99600 ∧ f_law_base [.int c] = .ok (.int (r : Int)) := by
  have key : ∃ r : Int, 0 ≤ r ∧ r ≤ 99600 ∧ f_law_base [.int c] = .ok (.int r) := by
    unfold f_law_base sm_law_base
    by_cases h : c % 3 = 1
    · obtain ⟨y, hy, e⟩ := at_modI [0, 20, 50, 360, 1140, 36500, 36560, 73040, 99600] (c / 3) 9 rfl (by omega)
      simp only [List.map] at e
      refine ⟨y, ?_, ?_, ?_⟩
      · simp only [List.mem_cons, List.not_mem_nil, or_false] at hy
        omega
      · simp only [List.mem_cons, List.not_mem_nil, or_false] at hy
        omega
      · simp [h, e]
    · exact ⟨c / 3 % 99600, by omega, by omega, by simp [h]⟩
  obtain ⟨d, h1, h2, e⟩ := key
  exact ⟨d.toNat, by omega, by rw [Int.toNat_of_nonneg h1]; exact e⟩
/-- a for over plain data, by an invariant of slots and store -/
theorem forD_inv {g : TgM} {s : SM} (I : Nat → En → Wd → Prop) : ∀ (ds : List PyData) (k : Nat) (e : En) (w : Wd), I k e w →
    (∀ d ∈ ds, ∀ j e w, j < k + ds.length → I j e w → ∃ e1 e2 w2, g (.d d) e w = some e1 ∧ (s e1 w = .ok (.nx e2) w2 ∨ s e1 w = .ok (.ct e2) w2) ∧ I (j + 1) e2 w2) →
    ∃ e' w', forD g s ds e w = .ok (.nx e') w' ∧ I (k + ds.length) e' w' := by
  intro ds
  induction ds with
  | nil => intro k e w h _; exact ⟨e, w, rfl, h⟩
  | cons d ds ih =>
    intro k e w h hs
    obtain ⟨e1, e2, w2, h1, h2, h3⟩ := hs d (List.mem_cons_self ..) k e w (by rw [List.length_cons]; omega) h
    obtain ⟨e', w', a, b⟩ := ih (k + 1) e2 w2 h3 fun d' m j e w hj => hs d' (List.mem_cons_of_mem _ m) j e w (by rw [List.length_cons]; omega)
    refine ⟨e', w', ?_, by rw [List.length_cons, show k + (ds.length + 1) = k + 1 + ds.length by omega]; exact b⟩
    unfold forD
    rw [h1]
    rcases h2 with h2 | h2 <;> simp only [h2, a]
theorem ivs_app (xs : List (Int × Int)) (p : Int × Int) : ivs (xs ++ [p]) = ivs xs ++ [.d (tup2 p)] := by
  simp only [ivs, List.map_append]
  rfl
theorem cut_len {α : Type} (xs : List α) (a b : Int) (ha : 0 ≤ a) (hb : 0 ≤ b) : (cutL xs (some a) (some b)).length ≤ (b - a).toNat := by
  unfold cutL
  have e1 : HT.sIx xs.length 0 (some a) = min a.toNat xs.length := by
    show (if a < 0 then (a + ((xs.length : Nat) : Int)).toNat else min a.toNat xs.length) = _
    rw [if_neg (by omega)]
  have e2 : HT.sIx xs.length xs.length (some b) = min b.toNat xs.length := by
    show (if b < 0 then (b + ((xs.length : Nat) : Int)).toNat else min b.toNat xs.length) = _
    rw [if_neg (by omega)]
  rw [e1, e2, List.length_take]
  omega
end LW

set_option Elab.async false
set_option linter.all false
set_option maxRecDepth 100000
set_option maxHeartbeats 4000000
namespace LW
open PySem PySem.Spec PyProof.Rows L2 RK
theorem room_small (ns : List Int) (h : ns.length ≤ 63) (a b : Int) : f_law_room [.list (ns.map .int), .int a, .int b] = .ok (.int a) := by
  unfold f_law_room sm_law_room
  have : ¬ (63 : Int) < (ns.length : Int) := by omega
  simp [this]
end LW

set_option Elab.async false
set_option linter.all false
set_option maxRecDepth 100000
set_option maxHeartbeats 4000000
namespace LW
open PySem PySem.Spec PyProof.Rows L2 RK
/-! what a told letter leaves, in short -/
theorem told_go {w : Wd} {P : RP} {R : RM} {D : List Cell} {L : Lt} {r : Rs DV} (t : Told w P R D L r) (h : R.no L = none) : ∃ w' l P', r = .ok (.loc l) w' ∧ P'.r = P.r ∧ RAt w' P' (R.tell L) D := by
  unfold Told at t
  rw [h] at t
  obtain ⟨w', l, P', a, b, d⟩ := t
  exact ⟨w', l, P', a, b, d.sub (List.sublist_cons_self _ _)⟩
theorem told_no {w : Wd} {P : RP} {R : RM} {D : List Cell} {L : Lt} {r : Rs DV} (t : Told w P R D L r) {c : Str} (h : R.no L = some c) : r = .ex c w := by
  unfold Told at t
  rw [h] at t
  exact t
theorem due_0 (x : LM) (G : List (Int × Int)) (h : 0 ≤ x.first) : dueOf x G (-1) = 0 := by
  have t : toDay x (-1) ≤ -1 := by
    unfold toDay
    split
    · exact Int.le_refl _
    · split <;> omega
  unfold dueOf
  rw [show (toDay x (-1) + 1 - x.first).toNat = 0 by omega]
  rfl
theorem room_up {R : RM} {k : Nat} (h : Room R k) : Room R (k + 1) := ⟨Nat.le_succ_of_le h.t, Nat.le_succ_of_le h.l, Nat.le_succ_of_le h.g, Nat.le_succ_of_le h.r, fun x hx => Nat.le_succ_of_le (h.m x hx), fun x hx => Nat.le_succ_of_le (h.s x hx)⟩
/-- nothing is sent where nothing is owed -/
theorem answers_nil {R : RM} (h : R.through = -1) {x : LM} (hx : x.rent = 0 ∧ x.shut = none ∧ 0 ≤ x.first) (k : Int) : answers R k x = [] := by
  unfold answers
  rw [h, due_0 x _ hx.2.2, hx.1]
  have e : pledgeTo x R.rates = x.pledge := by unfold pledgeTo; rw [hx.2.1]
  rw [e]
  simp
theorem answersF_nil {R : RM} (h : R.through = -1) : ∀ (xs : List LM) (k : Nat), (∀ x ∈ xs, x.rent = 0 ∧ x.shut = none ∧ 0 ≤ x.first) → answersF R k xs = []
  | [], _, _ => rfl
  | x :: xs, k, hx => by
    unfold answersF
    rw [answers_nil h (hx x (List.mem_cons_self ..)), answersF_nil h xs (k + 1) fun y m => hx y (List.mem_cons_of_mem _ m)]
    rfl
theorem newLs_quiet {R : RM} (h : R.through = -1) {x : LM} (hx : x.rent = 0 ∧ x.shut = none ∧ 0 ≤ x.first) : newLs R x = x := by
  unfold newLs LM.wr LM.wp
  rw [h, due_0 x _ hx.2.2]
  have e : pledgeTo x R.rates = x.pledge := by unfold pledgeTo; rw [hx.2.1]
  rw [e, ← hx.1]
end LW

set_option Elab.async false
set_option linter.all false
set_option maxRecDepth 100000
set_option maxHeartbeats 4000000
namespace LW
open PySem PySem.Spec PyProof.Rows L2 RK
/-! texts of small letters -/
theorem abc_list : abc.cps.toList = (List.range 26).map (97 + ·) := by decide +kernel
theorem abc_at (i : Int) (h0 : 0 ≤ i) (h1 : i < 26) (w : Wd) : oIxS (.d (.str abc)) (.d (.int i)) w = .ok (.d (.str ⟨#[97 + i.toNat]⟩)) w := by
  have e : abc.cps[i.toNat]? = some (97 + i.toNat) := by
    rw [← Array.getElem?_toList, abc_list, List.getElem?_map, List.getElem?_range (by omega)]
    rfl
  have l : abc.length ≤ 100000 := by decide +kernel
  show (if abc.length ≤ 100000 then (match atI abc.cps.toList i with
    | some c => Rs.ok (DV.d (.str ⟨#[c]⟩)) w
    | none => .bad) else .bad) = _
  rw [if_pos l, at_pos _ _ h0, Array.getElem?_toList, e]
theorem sign_abc (k : Nat) (h : k < 26) : signOk (97 + k) = true := by
  unfold signOk
  rw [abc_list]
  simp
  omega
theorem str_app (a b : Str) : (a ++ b).cps = a.cps ++ b.cps := rfl
end LW

set_option Elab.async false
set_option linter.all false
set_option maxRecDepth 100000
set_option maxHeartbeats 4000000
namespace LW
open PySem PySem.Spec PyProof.Rows L2 RK
/-! the words of letters -/
def wordN : Nat → Str
  | 0 => (PySem.Str.ofString "let")
  | 1 => (PySem.Str.ofString "end")
  | 2 => (PySem.Str.ofString "step")
  | 3 => (PySem.Str.ofString "gauge")
  | 4 => (PySem.Str.ofString "rate")
  | 5 => (PySem.Str.ofString "paid")
  | 6 => (PySem.Str.ofString "kept")
  | 7 => (PySem.Str.ofString "close")
  | 8 => (PySem.Str.ofString "bill")
  | _ => (PySem.Str.ofString "")
def Lt.ix : Lt → Nat
  | .letF .. => 0
  | .endL .. => 1
  | .step .. => 2
  | .gauge .. => 3
  | .rate .. => 4
  | .paid .. => 5
  | .kept .. => 6
  | .close .. => 7
  | .bill .. => 8
theorem Lt.word_ix (L : Lt) : L.word = wordN L.ix := by cases L <;> rfl
theorem Lt.ix_lt (L : Lt) : L.ix < 9 := by cases L <;> simp [Lt.ix]
theorem word_inj : ∀ i < 9, ∀ j < 9, decide (wordN i = wordN j) = decide (i = j) := by decide +kernel
theorem word_sh : ∀ i < 9, SeqAt.shaped (.str (wordN i)) = true := by decide +kernel
theorem ix0 (L : Lt) (w : Wd) : oIxT (.d L.data) (.d (.int 0)) w = .ok (.d (.str L.word)) w := by
  show oIxT (.d (.tuple (.str L.word :: L.args))) (.d (.int 0)) w = _
  rw [oIxT_d, at_0]
  rfl
/-- letter[0] == a word -/
theorem word_t (W : Str) (L : Lt) (j : Nat) (hj : j < 9) (hw : W = wordN j) {e : En} {w : Wd} (h1 : (xVar 1) e w = .ok (.d L.data) w) : xBin oEq (xBin oIxT (xVar 1) (xLit (.int 0))) (xLit (.str W)) e w = .ok (.d (.bool (decide (L.ix = j)))) w := by
  subst hw
  refine bin_of (bin_of h1 (xLit_ap _ _ _) (ix0 L w)) (xLit_ap _ _ _) ?_
  rw [L.word_ix, oEq_dd _ _ _ (word_sh _ L.ix_lt) (word_sh _ hj), eqv_str, word_inj _ L.ix_lt _ hj]
theorem if_no {x : XM} {s : SM} {e : En} {w : Wd} {b : Bool} (h : x e w = .ok (.d (.bool b)) w) (hb : b = false) : sIf x s sNil e w = .ok (.nx e) w := by
  rw [if_of h, hb]
  rfl
theorem if_yes {x : XM} {s t : SM} {e : En} {w w1 : Wd} {b : Bool} {r : Rt} (h : x e w = .ok (.d (.bool b)) w1) (hb : b = true) (hr : s e w1 = r) : sIf x s t e w = r := by
  rw [if_of h, hb, if_pos rfl, hr]
end LW

set_option Elab.async false
set_option linter.all false
set_option maxRecDepth 100000
set_option maxHeartbeats 4000000
namespace LW
open PySem PySem.Spec PyProof.Rows L2 RK
/-! law_do: a letter told to the roll by its word -/
theorem told_bad {w : Wd} {P : RP} {R : RM} {D : List Cell} {L : Lt} (t : Told w P R D L .bad) : False := by
  unfold Told at t
  cases q : R.no L with
  | some c => rw [q] at t; cases t
  | none =>
    rw [q] at t
    obtain ⟨_, _, _, e, _⟩ := t
    cases e
theorem do_ok {w : Wd} {P : RP} {R : RM} {D : List Cell} (h : RAt w P R D) (S : Sane R) {k : Nat} (rm : Room R k) (hk : k < 20000) (L : Lt) (o : L.Ok) : Told w P R D L (f_law_do [.loc P.r, .d L.data] w) := by
  have v0 : (xVar 0) [some (.loc P.r), some (.d L.data)] w = .ok (.loc P.r) w := rfl
  have no : ∀ (W : Str) j, j < 9 → W = wordN j → L.ix ≠ j → ∀ s, sIf (xBin oEq (xBin oIxT (xVar 1) (xLit (.int 0))) (xLit (.str W))) s sNil [some (.loc P.r), some (.d L.data)] w = .ok (.nx [some (.loc P.r), some (.d L.data)]) w := fun W j hj hw hne s => if_no (word_t W L j hj hw rfl) (decide_eq_false hne)
  have e0 : f_law_do [.loc P.r, .d L.data] w = finW (sm_law_do [some (.loc P.r), some (.d L.data)] w) := rfl
  cases L with
  | letF f d r ix =>
    have m := let_ok h S rm hk f d r ix o
    have e : f_law_do [.loc P.r, .d (Lt.letF f d r ix).data] w = f_Roll_let [.loc P.r, .d (.str f), .d (.int d), .d (.int r), .d (.bool ix)] w := by
      rw [e0]
      unfold sm_law_do
      have y : xMeth (PySem.Str.ofString "Roll") (PySem.Str.ofString "let") f_Roll_let (xVar 0) (xCons (xBin oIxT (xVar 1) (xLit (.int 1))) (xCons (xBin oIxT (xVar 1) (xLit (.int 2))) (xCons (xBin oIxT (xVar 1) (xLit (.int 3))) (xCons (xBin oIxT (xVar 1) (xLit (.int 4))) (xNil))))) [some (.loc P.r), some (.d (Lt.letF f d r ix).data)] w = f_Roll_let [.loc P.r, .d (.str f), .d (.int d), .d (.int r), .d (.bool ix)] w := methR_of (show (xVar 0) _ w = .ok (.loc P.r) w from rfl) h.o rfl (show _ = Rs.ok [.d (.str f), .d (.int d), .d (.int r), .d (.bool ix)] w from rfl) rfl
      cases q : f_Roll_let [.loc P.r, .d (.str f), .d (.int d), .d (.int r), .d (.bool ix)] w with
      | ok v9 w1 => rw [q] at y; rw [seq_rt (if_yes (word_t (PySem.Str.ofString "let") (Lt.letF f d r ix) 0 (by decide) rfl rfl) rfl (ret_of y))]; rfl
      | ex c9 w1 => rw [q] at y; rw [seq_ex (if_yes (word_t (PySem.Str.ofString "let") (Lt.letF f d r ix) 0 (by decide) rfl rfl) rfl (ret_ex y))]; rfl
      | bad => rw [q] at m; exact (told_bad m).elim
    rw [e]
    exact m
  | endL n d =>
    have m := end_ok h S rm hk n d o
    have e : f_law_do [.loc P.r, .d (Lt.endL n d).data] w = f_Roll_end [.loc P.r, .d (.int n), .d (.int d)] w := by
      rw [e0]
      unfold sm_law_do sm_law_do_t1
      rw [seq_of (no (PySem.Str.ofString "let") 0 (by decide) rfl (by show 1 ≠ 0; decide) _)]
      have y : xMeth (PySem.Str.ofString "Roll") (PySem.Str.ofString "end") f_Roll_end (xVar 0) (xCons (xBin oIxT (xVar 1) (xLit (.int 1))) (xCons (xBin oIxT (xVar 1) (xLit (.int 2))) (xNil))) [some (.loc P.r), some (.d (Lt.endL n d).data)] w = f_Roll_end [.loc P.r, .d (.int n), .d (.int d)] w := methR_of (show (xVar 0) _ w = .ok (.loc P.r) w from rfl) h.o rfl (show _ = Rs.ok [.d (.int n), .d (.int d)] w from rfl) rfl
      cases q : f_Roll_end [.loc P.r, .d (.int n), .d (.int d)] w with
      | ok v9 w1 => rw [q] at y; rw [seq_rt (if_yes (word_t (PySem.Str.ofString "end") (Lt.endL n d) 1 (by decide) rfl rfl) rfl (ret_of y))]; rfl
      | ex c9 w1 => rw [q] at y; rw [seq_ex (if_yes (word_t (PySem.Str.ofString "end") (Lt.endL n d) 1 (by decide) rfl rfl) rfl (ret_ex y))]; rfl
      | bad => rw [q] at m; exact (told_bad m).elim
    rw [e]
    exact m
  | step n d c =>
    have m := step_ok h S rm hk n d c o
    have e : f_law_do [.loc P.r, .d (Lt.step n d c).data] w = f_Roll_step [.loc P.r, .d (.int n), .d (.int d), .d (.int c)] w := by
      rw [e0]
      unfold sm_law_do sm_law_do_t1 sm_law_do_t2
      rw [seq_of (no (PySem.Str.ofString "let") 0 (by decide) rfl (by show 2 ≠ 0; decide) _)]
      rw [seq_of (no (PySem.Str.ofString "end") 1 (by decide) rfl (by show 2 ≠ 1; decide) _)]
      have y : xMeth (PySem.Str.ofString "Roll") (PySem.Str.ofString "step") f_Roll_step (xVar 0) (xCons (xBin oIxT (xVar 1) (xLit (.int 1))) (xCons (xBin oIxT (xVar 1) (xLit (.int 2))) (xCons (xBin oIxT (xVar 1) (xLit (.int 3))) (xNil)))) [some (.loc P.r), some (.d (Lt.step n d c).data)] w = f_Roll_step [.loc P.r, .d (.int n), .d (.int d), .d (.int c)] w := methR_of (show (xVar 0) _ w = .ok (.loc P.r) w from rfl) h.o rfl (show _ = Rs.ok [.d (.int n), .d (.int d), .d (.int c)] w from rfl) rfl
      cases q : f_Roll_step [.loc P.r, .d (.int n), .d (.int d), .d (.int c)] w with
      | ok v9 w1 => rw [q] at y; rw [seq_rt (if_yes (word_t (PySem.Str.ofString "step") (Lt.step n d c) 2 (by decide) rfl rfl) rfl (ret_of y))]; rfl
      | ex c9 w1 => rw [q] at y; rw [seq_ex (if_yes (word_t (PySem.Str.ofString "step") (Lt.step n d c) 2 (by decide) rfl rfl) rfl (ret_ex y))]; rfl
      | bad => rw [q] at m; exact (told_bad m).elim
    rw [e]
    exact m
  | gauge d v =>
    have m := gauge_ok h S rm hk d v o
    have e : f_law_do [.loc P.r, .d (Lt.gauge d v).data] w = f_Roll_gauge [.loc P.r, .d (.int d), .d (.int v)] w := by
      rw [e0]
      unfold sm_law_do sm_law_do_t1 sm_law_do_t2 sm_law_do_t3
      rw [seq_of (no (PySem.Str.ofString "let") 0 (by decide) rfl (by show 3 ≠ 0; decide) _)]
      rw [seq_of (no (PySem.Str.ofString "end") 1 (by decide) rfl (by show 3 ≠ 1; decide) _)]
      rw [seq_of (no (PySem.Str.ofString "step") 2 (by decide) rfl (by show 3 ≠ 2; decide) _)]
      have y : xMeth (PySem.Str.ofString "Roll") (PySem.Str.ofString "gauge") f_Roll_gauge (xVar 0) (xCons (xBin oIxT (xVar 1) (xLit (.int 1))) (xCons (xBin oIxT (xVar 1) (xLit (.int 2))) (xNil))) [some (.loc P.r), some (.d (Lt.gauge d v).data)] w = f_Roll_gauge [.loc P.r, .d (.int d), .d (.int v)] w := methR_of (show (xVar 0) _ w = .ok (.loc P.r) w from rfl) h.o rfl (show _ = Rs.ok [.d (.int d), .d (.int v)] w from rfl) rfl
      cases q : f_Roll_gauge [.loc P.r, .d (.int d), .d (.int v)] w with
      | ok v9 w1 => rw [q] at y; rw [seq_rt (if_yes (word_t (PySem.Str.ofString "gauge") (Lt.gauge d v) 3 (by decide) rfl rfl) rfl (ret_of y))]; rfl
      | ex c9 w1 => rw [q] at y; rw [seq_ex (if_yes (word_t (PySem.Str.ofString "gauge") (Lt.gauge d v) 3 (by decide) rfl rfl) rfl (ret_ex y))]; rfl
      | bad => rw [q] at m; exact (told_bad m).elim
    rw [e]
    exact m
  | rate d v =>
    have m := rate_ok h S rm hk d v o
    have e : f_law_do [.loc P.r, .d (Lt.rate d v).data] w = f_Roll_rate [.loc P.r, .d (.int d), .d (.int v)] w := by
      rw [e0]
      unfold sm_law_do sm_law_do_t1 sm_law_do_t2 sm_law_do_t3 sm_law_do_t4
      rw [seq_of (no (PySem.Str.ofString "let") 0 (by decide) rfl (by show 4 ≠ 0; decide) _)]
      rw [seq_of (no (PySem.Str.ofString "end") 1 (by decide) rfl (by show 4 ≠ 1; decide) _)]
      rw [seq_of (no (PySem.Str.ofString "step") 2 (by decide) rfl (by show 4 ≠ 2; decide) _)]
      rw [seq_of (no (PySem.Str.ofString "gauge") 3 (by decide) rfl (by show 4 ≠ 3; decide) _)]
      have y : xMeth (PySem.Str.ofString "Roll") (PySem.Str.ofString "rate") f_Roll_rate (xVar 0) (xCons (xBin oIxT (xVar 1) (xLit (.int 1))) (xCons (xBin oIxT (xVar 1) (xLit (.int 2))) (xNil))) [some (.loc P.r), some (.d (Lt.rate d v).data)] w = f_Roll_rate [.loc P.r, .d (.int d), .d (.int v)] w := methR_of (show (xVar 0) _ w = .ok (.loc P.r) w from rfl) h.o rfl (show _ = Rs.ok [.d (.int d), .d (.int v)] w from rfl) rfl
      cases q : f_Roll_rate [.loc P.r, .d (.int d), .d (.int v)] w with
      | ok v9 w1 => rw [q] at y; rw [seq_rt (if_yes (word_t (PySem.Str.ofString "rate") (Lt.rate d v) 4 (by decide) rfl rfl) rfl (ret_of y))]; rfl
      | ex c9 w1 => rw [q] at y; rw [seq_ex (if_yes (word_t (PySem.Str.ofString "rate") (Lt.rate d v) 4 (by decide) rfl rfl) rfl (ret_ex y))]; rfl
      | bad => rw [q] at m; exact (told_bad m).elim
    rw [e]
    exact m
  | paid n d c =>
    have m := paid_ok h S rm hk n d c o
    have e : f_law_do [.loc P.r, .d (Lt.paid n d c).data] w = f_Roll_paid [.loc P.r, .d (.int n), .d (.int d), .d (.int c)] w := by
      rw [e0]
      unfold sm_law_do sm_law_do_t1 sm_law_do_t2 sm_law_do_t3 sm_law_do_t4 sm_law_do_t5
      rw [seq_of (no (PySem.Str.ofString "let") 0 (by decide) rfl (by show 5 ≠ 0; decide) _)]
      rw [seq_of (no (PySem.Str.ofString "end") 1 (by decide) rfl (by show 5 ≠ 1; decide) _)]
      rw [seq_of (no (PySem.Str.ofString "step") 2 (by decide) rfl (by show 5 ≠ 2; decide) _)]
      rw [seq_of (no (PySem.Str.ofString "gauge") 3 (by decide) rfl (by show 5 ≠ 3; decide) _)]
      rw [seq_of (no (PySem.Str.ofString "rate") 4 (by decide) rfl (by show 5 ≠ 4; decide) _)]
      have y : xMeth (PySem.Str.ofString "Roll") (PySem.Str.ofString "paid") f_Roll_paid (xVar 0) (xCons (xBin oIxT (xVar 1) (xLit (.int 1))) (xCons (xBin oIxT (xVar 1) (xLit (.int 2))) (xCons (xBin oIxT (xVar 1) (xLit (.int 3))) (xNil)))) [some (.loc P.r), some (.d (Lt.paid n d c).data)] w = f_Roll_paid [.loc P.r, .d (.int n), .d (.int d), .d (.int c)] w := methR_of (show (xVar 0) _ w = .ok (.loc P.r) w from rfl) h.o rfl (show _ = Rs.ok [.d (.int n), .d (.int d), .d (.int c)] w from rfl) rfl
      cases q : f_Roll_paid [.loc P.r, .d (.int n), .d (.int d), .d (.int c)] w with
      | ok v9 w1 => rw [q] at y; rw [seq_rt (if_yes (word_t (PySem.Str.ofString "paid") (Lt.paid n d c) 5 (by decide) rfl rfl) rfl (ret_of y))]; rfl
      | ex c9 w1 => rw [q] at y; rw [seq_ex (if_yes (word_t (PySem.Str.ofString "paid") (Lt.paid n d c) 5 (by decide) rfl rfl) rfl (ret_ex y))]; rfl
      | bad => rw [q] at m; exact (told_bad m).elim
    rw [e]
    exact m
  | kept n d c =>
    have m := kept_ok h S rm hk n d c o
    have e : f_law_do [.loc P.r, .d (Lt.kept n d c).data] w = f_Roll_kept [.loc P.r, .d (.int n), .d (.int d), .d (.int c)] w := by
      rw [e0]
      unfold sm_law_do sm_law_do_t1 sm_law_do_t2 sm_law_do_t3 sm_law_do_t4 sm_law_do_t5 sm_law_do_t6
      rw [seq_of (no (PySem.Str.ofString "let") 0 (by decide) rfl (by show 6 ≠ 0; decide) _)]
      rw [seq_of (no (PySem.Str.ofString "end") 1 (by decide) rfl (by show 6 ≠ 1; decide) _)]
      rw [seq_of (no (PySem.Str.ofString "step") 2 (by decide) rfl (by show 6 ≠ 2; decide) _)]
      rw [seq_of (no (PySem.Str.ofString "gauge") 3 (by decide) rfl (by show 6 ≠ 3; decide) _)]
      rw [seq_of (no (PySem.Str.ofString "rate") 4 (by decide) rfl (by show 6 ≠ 4; decide) _)]
      rw [seq_of (no (PySem.Str.ofString "paid") 5 (by decide) rfl (by show 6 ≠ 5; decide) _)]
      have y : xMeth (PySem.Str.ofString "Roll") (PySem.Str.ofString "kept") f_Roll_kept (xVar 0) (xCons (xBin oIxT (xVar 1) (xLit (.int 1))) (xCons (xBin oIxT (xVar 1) (xLit (.int 2))) (xCons (xBin oIxT (xVar 1) (xLit (.int 3))) (xNil)))) [some (.loc P.r), some (.d (Lt.kept n d c).data)] w = f_Roll_kept [.loc P.r, .d (.int n), .d (.int d), .d (.int c)] w := methR_of (show (xVar 0) _ w = .ok (.loc P.r) w from rfl) h.o rfl (show _ = Rs.ok [.d (.int n), .d (.int d), .d (.int c)] w from rfl) rfl
      cases q : f_Roll_kept [.loc P.r, .d (.int n), .d (.int d), .d (.int c)] w with
      | ok v9 w1 => rw [q] at y; rw [seq_rt (if_yes (word_t (PySem.Str.ofString "kept") (Lt.kept n d c) 6 (by decide) rfl rfl) rfl (ret_of y))]; rfl
      | ex c9 w1 => rw [q] at y; rw [seq_ex (if_yes (word_t (PySem.Str.ofString "kept") (Lt.kept n d c) 6 (by decide) rfl rfl) rfl (ret_ex y))]; rfl
      | bad => rw [q] at m; exact (told_bad m).elim
    rw [e]
    exact m
  | close n d =>
    have m := close_ok h S rm hk n d o
    have e : f_law_do [.loc P.r, .d (Lt.close n d).data] w = f_Roll_close [.loc P.r, .d (.int n), .d (.int d)] w := by
      rw [e0]
      unfold sm_law_do sm_law_do_t1 sm_law_do_t2 sm_law_do_t3 sm_law_do_t4 sm_law_do_t5 sm_law_do_t6 sm_law_do_t7
      rw [seq_of (no (PySem.Str.ofString "let") 0 (by decide) rfl (by show 7 ≠ 0; decide) _)]
      rw [seq_of (no (PySem.Str.ofString "end") 1 (by decide) rfl (by show 7 ≠ 1; decide) _)]
      rw [seq_of (no (PySem.Str.ofString "step") 2 (by decide) rfl (by show 7 ≠ 2; decide) _)]
      rw [seq_of (no (PySem.Str.ofString "gauge") 3 (by decide) rfl (by show 7 ≠ 3; decide) _)]
      rw [seq_of (no (PySem.Str.ofString "rate") 4 (by decide) rfl (by show 7 ≠ 4; decide) _)]
      rw [seq_of (no (PySem.Str.ofString "paid") 5 (by decide) rfl (by show 7 ≠ 5; decide) _)]
      rw [seq_of (no (PySem.Str.ofString "kept") 6 (by decide) rfl (by show 7 ≠ 6; decide) _)]
      have y : xMeth (PySem.Str.ofString "Roll") (PySem.Str.ofString "close") f_Roll_close (xVar 0) (xCons (xBin oIxT (xVar 1) (xLit (.int 1))) (xCons (xBin oIxT (xVar 1) (xLit (.int 2))) (xNil))) [some (.loc P.r), some (.d (Lt.close n d).data)] w = f_Roll_close [.loc P.r, .d (.int n), .d (.int d)] w := methR_of (show (xVar 0) _ w = .ok (.loc P.r) w from rfl) h.o rfl (show _ = Rs.ok [.d (.int n), .d (.int d)] w from rfl) rfl
      cases q : f_Roll_close [.loc P.r, .d (.int n), .d (.int d)] w with
      | ok v9 w1 => rw [q] at y; rw [seq_rt (if_yes (word_t (PySem.Str.ofString "close") (Lt.close n d) 7 (by decide) rfl rfl) rfl (ret_of y))]; rfl
      | ex c9 w1 => rw [q] at y; rw [seq_ex (if_yes (word_t (PySem.Str.ofString "close") (Lt.close n d) 7 (by decide) rfl rfl) rfl (ret_ex y))]; rfl
      | bad => rw [q] at m; exact (told_bad m).elim
    rw [e]
    exact m
  | bill d =>
    have m := bill_ok h S rm hk d o
    have e : f_law_do [.loc P.r, .d (Lt.bill d).data] w = f_Roll_bill [.loc P.r, .d (.int d)] w := by
      rw [e0]
      unfold sm_law_do sm_law_do_t1 sm_law_do_t2 sm_law_do_t3 sm_law_do_t4 sm_law_do_t5 sm_law_do_t6 sm_law_do_t7 sm_law_do_t8
      rw [seq_of (no (PySem.Str.ofString "let") 0 (by decide) rfl (by show 8 ≠ 0; decide) _)]
      rw [seq_of (no (PySem.Str.ofString "end") 1 (by decide) rfl (by show 8 ≠ 1; decide) _)]
      rw [seq_of (no (PySem.Str.ofString "step") 2 (by decide) rfl (by show 8 ≠ 2; decide) _)]
      rw [seq_of (no (PySem.Str.ofString "gauge") 3 (by decide) rfl (by show 8 ≠ 3; decide) _)]
      rw [seq_of (no (PySem.Str.ofString "rate") 4 (by decide) rfl (by show 8 ≠ 4; decide) _)]
      rw [seq_of (no (PySem.Str.ofString "paid") 5 (by decide) rfl (by show 8 ≠ 5; decide) _)]
      rw [seq_of (no (PySem.Str.ofString "kept") 6 (by decide) rfl (by show 8 ≠ 6; decide) _)]
      rw [seq_of (no (PySem.Str.ofString "close") 7 (by decide) rfl (by show 8 ≠ 7; decide) _)]
      have y : xMeth (PySem.Str.ofString "Roll") (PySem.Str.ofString "bill") f_Roll_bill (xVar 0) (xCons (xBin oIxT (xVar 1) (xLit (.int 1))) (xNil)) [some (.loc P.r), some (.d (Lt.bill d).data)] w = f_Roll_bill [.loc P.r, .d (.int d)] w := methR_of (show (xVar 0) _ w = .ok (.loc P.r) w from rfl) h.o rfl (show _ = Rs.ok [.d (.int d)] w from rfl) rfl
      cases q : f_Roll_bill [.loc P.r, .d (.int d)] w with
      | ok v9 w1 => rw [q] at y; rw [ret_of y]; rfl
      | ex c9 w1 => rw [q] at y; rw [ret_ex y]; rfl
      | bad => rw [q] at m; exact (told_bad m).elim
    rw [e]
    exact m
end LW

set_option Elab.async false
set_option linter.all false
set_option maxRecDepth 100000
set_option maxHeartbeats 4000000
namespace LW
open PySem PySem.Spec PyProof.Rows L2 RK
/-! the plain law: letters told in another order -/
theorem hstep_comm {d : Int} {p q : Int × Int} (h : p = q ∨ p.1 ≠ q.1) (b : Option (Int × Int)) : hstep d (hstep d b p) q = hstep d (hstep d b q) p := by
  rcases h with rfl | h
  · rfl
  cases b with
  | none =>
    by_cases h1 : p.1 ≤ d <;> by_cases h2 : q.1 ≤ d
    · simp only [hstep, if_pos h1, if_pos h2]
      by_cases h3 : p.1 ≤ q.1
      · rw [if_pos ⟨h2, h3⟩, if_neg (by omega)]
      · rw [if_neg (by omega), if_pos ⟨h1, by omega⟩]
    · simp only [hstep, if_pos h1, if_neg h2, h2, false_and, if_false]
    · simp only [hstep, if_pos h2, if_neg h1, h1, false_and, if_false]
    · simp only [hstep, if_neg h1, if_neg h2]
  | some c =>
    by_cases h1 : p.1 ≤ d ∧ c.1 ≤ p.1 <;> by_cases h2 : q.1 ≤ d ∧ c.1 ≤ q.1
    · simp only [hstep, if_pos h1, if_pos h2]
      by_cases h3 : p.1 ≤ q.1
      · rw [if_pos ⟨h2.1, h3⟩, if_neg (by omega)]
      · rw [if_neg (by omega), if_pos ⟨h1.1, by omega⟩]
    · simp only [hstep, if_pos h1, if_neg h2]
      rw [if_neg (by omega)]
    · simp only [hstep, if_pos h2, if_neg h1]
      rw [if_neg (by omega)]
    · simp only [hstep, if_neg h1, if_neg h2]
theorem hld_perm (p0 : Int × Int) {A B : List (Int × Int)} (h : A.Perm B) (u : ∀ p ∈ A, ∀ q ∈ A, p = q ∨ p.1 ≠ q.1) (d : Int) : hld (p0 :: A) d = hld (p0 :: B) d := by
  unfold hld
  rw [List.foldl_cons, List.foldl_cons]
  exact h.foldl_eq' (fun x hx y hy z => hstep_comm (u x hx y hy) z) _
theorem sum_perm {a b : List Int} (h : a.Perm b) : a.sum = b.sum := by
  induction h with
  | nil => rfl
  | cons x h ih => rw [List.sum_cons, List.sum_cons, ih]
  | swap x y l => simp only [List.sum_cons]; omega
  | trans _ _ h1 h2 => rw [h1, h2]
theorem bal_perm {A B : List (Int × Int)} (h : A.Perm B) (d : Int) : bal A d = bal B d := sum_perm ((h.filter _).map _)
theorem gv_same {G H : List (Int × Int)} (h : ∀ d, hld G d = hld H d) (d : Int) : gv G d = gv H d := by
  unfold gv
  rw [h]
theorem rnt_same2 {S T G H : List (Int × Int)} (hs : ∀ d, hld S d = hld T d) (hg : ∀ d, hld G d = hld H d) (d : Int) : rnt S G d = rnt T H d := by
  unfold rnt
  rw [hs]
  cases hld T d with
  | none => rfl
  | some p => simp only [gv_same hg]
theorem sumD_same {S T G H : List (Int × Int)} (hs : ∀ d, hld S d = hld T d) (hg : ∀ d, hld G d = hld H d) (k : Nat) : ∀ n, sumD S G k n = sumD T H k n
  | 0 => rfl
  | n + 1 => by
    rw [sumD, sumD, sumD_same hs hg k n]
    unfold dueD
    rw [rnt_same2 hs hg]
/-- two leases in all that is asked -/
structure LSim (x y : LM) : Prop where
  first : x.first = y.first
  last : x.last = y.last
  ix : x.indexed = y.indexed
  st : ∀ d, hld x.steps d = hld y.steps d
  mv : ∀ d, bal x.moves d = bal y.moves d
  sh : x.shut = y.shut
theorem due_same {x y : LM} (h : LSim x y) {G H : List (Int × Int)} (hg : ∀ d, hld G d = hld H d) (d : Int) : dueOf x G d = dueOf y H d := by
  unfold dueOf toDay gOf
  rw [h.first, h.last, h.ix]
  refine sumD_same h.st (fun e => ?_) _ _
  split
  · exact hg e
  · rfl
theorem worth_same {x y : LM} (h : LSim x y) {G H : List (Int × Int)} (hg : ∀ d, hld G d = hld H d) (d : Int) : worthOf x G d = worthOf y H d := by
  unfold worthOf
  have : growD x.moves G = growD y.moves H := by
    funext k
    unfold growD
    rw [h.mv, gv_same hg]
  rw [h.mv, this]
/-! what is told -/
def stepsIn (i : Nat) (Ls : List Lt) : List (Int × Int) := Ls.filterMap fun L => match L with
  | .step n d r => if n = i then some (d, r) else none
  | _ => none
def movesIn (i : Nat) (Ls : List Lt) : List (Int × Int) := Ls.filterMap fun L => match L with
  | .paid n d c => if n = i then some (d, c) else none
  | .kept n d c => if n = i then some (d, 0 - c) else none
  | _ => none
def gaugesIn (Ls : List Lt) : List (Int × Int) := Ls.filterMap fun L => match L with
  | .gauge d v => some (d, v)
  | _ => none
def ratesIn (Ls : List Lt) : List (Int × Int) := Ls.filterMap fun L => match L with
  | .rate d v => some (d, v)
  | _ => none
def Lt.key (L : Lt) : LKey := [.inr L.word, .inl ((L.num.getD 2 : Nat) : Int), .inl L.day]
def Uniq (Ls : List Lt) : Prop := ∀ L ∈ Ls, ∀ M ∈ Ls, L.key = M.key → L = M
theorem steps_uniq {Ls : List Lt} (u : Uniq Ls) (i : Nat) : ∀ p ∈ stepsIn i Ls, ∀ q ∈ stepsIn i Ls, p = q ∨ p.1 ≠ q.1 := by
  intro p hp q hq
  obtain ⟨L, hL, e1⟩ := List.mem_filterMap.mp hp
  obtain ⟨M, hM, e2⟩ := List.mem_filterMap.mp hq
  cases L with
  | step n d r =>
    simp only at e1
    split at e1
    · rename_i h1
      cases e1
      cases M with
      | step m e s =>
        simp only at e2
        split at e2
        · rename_i h2
          cases e2
          by_cases h : d = e
          · have := u _ hL _ hM (by unfold Lt.key; rw [show (Lt.step n d r).word = (Lt.step m e s).word from rfl]; simp [Lt.num, Lt.day, h, h1, h2])
            cases this
            exact .inl rfl
          · exact .inr h
        · cases e2
      | _ => cases e2
    · cases e1
  | _ => cases e1
theorem gauges_uniq {Ls : List Lt} (u : Uniq Ls) : ∀ p ∈ gaugesIn Ls, ∀ q ∈ gaugesIn Ls, p = q ∨ p.1 ≠ q.1 := by
  intro p hp q hq
  obtain ⟨L, hL, e1⟩ := List.mem_filterMap.mp hp
  obtain ⟨M, hM, e2⟩ := List.mem_filterMap.mp hq
  cases L with
  | gauge d r =>
    cases e1
    cases M with
    | gauge e s =>
      cases e2
      by_cases h : d = e
      · have := u _ hL _ hM (by unfold Lt.key; rw [show (Lt.gauge d r).word = (Lt.gauge e s).word from rfl]; simp [Lt.num, Lt.day, h])
        cases this
        exact .inl rfl
      · exact .inr h
    | _ => cases e2
  | _ => cases e1
theorem rates_uniq {Ls : List Lt} (u : Uniq Ls) : ∀ p ∈ ratesIn Ls, ∀ q ∈ ratesIn Ls, p = q ∨ p.1 ≠ q.1 := by
  intro p hp q hq
  obtain ⟨L, hL, e1⟩ := List.mem_filterMap.mp hp
  obtain ⟨M, hM, e2⟩ := List.mem_filterMap.mp hq
  cases L with
  | rate d r =>
    cases e1
    cases M with
    | rate e s =>
      cases e2
      by_cases h : d = e
      · have := u _ hL _ hM (by unfold Lt.key; rw [show (Lt.rate d r).word = (Lt.rate e s).word from rfl]; simp [Lt.num, Lt.day, h])
        cases this
        exact .inl rfl
      · exact .inr h
    | _ => cases e2
  | _ => cases e1
/-- a lease to which Ls were told -/
structure LIs (x : LM) (f r : Int) (ix : Bool) (i : Nat) (Ls : List Lt) (sh : Option Int) : Prop where
  first : x.first = f
  last : x.last = none
  ix : x.indexed = ix
  st : x.steps = (f, r) :: stepsIn i Ls
  mv : x.moves = movesIn i Ls
  sh : x.shut = sh
  z : x.shut = none → x.pledge = 0
theorem LIs.nl {x : LM} {f r : Int} {ix : Bool} {i : Nat} {Ls : List Lt} {sh : Option Int} (h : LIs x f r ix i Ls sh) (R : RM) : LIs (newLs R x) f r ix i Ls sh := ⟨h.first, h.last, h.ix, h.st, h.mv, h.sh, fun e => by
  have e : x.shut = none := e
  show pledgeTo x R.rates = 0
  unfold pledgeTo
  rw [e]
  exact h.z e⟩
theorem LIs.keep {x : LM} {f r : Int} {ix : Bool} {i : Nat} {Ls : List Lt} {sh : Option Int} (h : LIs x f r ix i Ls sh) {L : Lt} (h1 : stepsIn i [L] = []) (h2 : movesIn i [L] = []) : LIs x f r ix i (Ls ++ [L]) sh := ⟨h.first, h.last, h.ix, by
  rw [h.st]
  unfold stepsIn at *
  rw [List.filterMap_append, h1, List.append_nil], by
  rw [h.mv]
  unfold movesIn at *
  rw [List.filterMap_append, h2, List.append_nil], h.sh, h.z⟩
theorem LIs.addS {x : LM} {f r : Int} {ix : Bool} {i : Nat} {Ls : List Lt} {sh : Option Int} (h : LIs x f r ix i Ls sh) (d c : Int) : LIs (x.addS (d, c)) f r ix i (Ls ++ [.step i d c]) sh := ⟨h.first, h.last, h.ix, by
  show x.steps ++ [(d, c)] = _
  rw [h.st]
  simp [stepsIn], by
  show x.moves = _
  rw [h.mv]
  simp [movesIn], h.sh, h.z⟩
theorem LIs.addP {x : LM} {f r : Int} {ix : Bool} {i : Nat} {Ls : List Lt} {sh : Option Int} (h : LIs x f r ix i Ls sh) (d c : Int) : LIs (x.addM (d, c)) f r ix i (Ls ++ [.paid i d c]) sh := ⟨h.first, h.last, h.ix, by
  show x.steps = _
  rw [h.st]
  simp [stepsIn], by
  show x.moves ++ [(d, c)] = _
  rw [h.mv]
  simp [movesIn], h.sh, h.z⟩
theorem LIs.addK {x : LM} {f r : Int} {ix : Bool} {i : Nat} {Ls : List Lt} {sh : Option Int} (h : LIs x f r ix i Ls sh) (d c : Int) : LIs (x.addM (d, 0 - c)) f r ix i (Ls ++ [.kept i d c]) sh := ⟨h.first, h.last, h.ix, by
  show x.steps = _
  rw [h.st]
  simp [stepsIn], by
  show x.moves ++ [(d, 0 - c)] = _
  rw [h.mv]
  simp [movesIn], h.sh, h.z⟩
/-- a roll of the two leases to which Ls were told, and of which the first one's pledge may be closed -/
structure Is (b : Int) (R : RM) (Ls : List Lt) (sh : Option Int) : Prop where
  ex : ∃ x y, R.leases = [x, y] ∧ LIs x b 61000 true 0 Ls sh ∧ LIs y (b + 3) 47000 false 1 Ls none
  g : R.gauges = (0, 100) :: gaugesIn Ls
  r : R.rates = (0, 0) :: ratesIn Ls
def Lt.plain : Lt → Prop
  | .step n _ _ | .paid n _ _ | .kept n _ _ => n < 2
  | .gauge _ _ | .rate _ _ => True
  | _ => False
theorem is_of {b : Int} {R : RM} {x y : LM} {Ls : List Lt} {sh : Option Int} (e : R.leases = [x, y]) (hx : LIs x b 61000 true 0 Ls sh) (hy : LIs y (b + 3) 47000 false 1 Ls none) (g : R.gauges = (0, 100) :: gaugesIn Ls) (r : R.rates = (0, 0) :: ratesIn Ls) (t : PyData) : Is b (R.done t) Ls sh :=
  ⟨⟨newLs R x, newLs R y, by show R.leases.map (newLs R) = _; rw [e]; rfl, hx.nl R, hy.nl R⟩, g, r⟩
theorem mod2_0 {R : RM} {x y : LM} (e : R.leases = [x, y]) (f : LM → LM) : R.mod 0 f = { R with leases := [f x, y] } := by
  rw [mod_eq (x := x) (by rw [e]; rfl), e]
  rfl
theorem mod2_1 {R : RM} {x y : LM} (e : R.leases = [x, y]) (f : LM → LM) : R.mod 1 f = { R with leases := [x, f y] } := by
  rw [mod_eq (x := y) (by rw [e]; rfl), e]
  rfl
theorem is_tell {b : Int} {R : RM} {Ls : List Lt} {sh : Option Int} {L : Lt} (h : Is b R Ls sh) (p : L.plain) : Is b (R.tell L) (Ls ++ [L]) sh := by
  obtain ⟨⟨x, y, e, hx, hy⟩, g, r⟩ := h
  have gk : gaugesIn [L] = [] → R.gauges = (0, 100) :: gaugesIn (Ls ++ [L]) := fun h => by
    rw [g]
    unfold gaugesIn at *
    rw [List.filterMap_append, h, List.append_nil]
  have rk : ratesIn [L] = [] → R.rates = (0, 0) :: ratesIn (Ls ++ [L]) := fun h => by
    rw [r]
    unfold ratesIn at *
    rw [List.filterMap_append, h, List.append_nil]
  unfold RM.tell
  cases L with
  | step n d c =>
    have p : n < 2 := p
    obtain rfl | rfl : n = 0 ∨ n = 1 := by omega
    · rw [show R.put (.step 0 d c) = _ from mod2_0 e _]
      exact is_of (R := { R with leases := _ }) rfl (hx.addS d c) (hy.keep rfl rfl) (gk rfl) (rk rfl) _
    · rw [show R.put (.step 1 d c) = _ from mod2_1 e _]
      exact is_of (R := { R with leases := _ }) rfl (hx.keep rfl rfl) (hy.addS d c) (gk rfl) (rk rfl) _
  | paid n d c =>
    have p : n < 2 := p
    obtain rfl | rfl : n = 0 ∨ n = 1 := by omega
    · rw [show R.put (.paid 0 d c) = _ from mod2_0 e _]
      exact is_of (R := { R with leases := _ }) rfl (hx.addP d c) (hy.keep rfl rfl) (gk rfl) (rk rfl) _
    · rw [show R.put (.paid 1 d c) = _ from mod2_1 e _]
      exact is_of (R := { R with leases := _ }) rfl (hx.keep rfl rfl) (hy.addP d c) (gk rfl) (rk rfl) _
  | kept n d c =>
    have p : n < 2 := p
    obtain rfl | rfl : n = 0 ∨ n = 1 := by omega
    · rw [show R.put (.kept 0 d c) = _ from mod2_0 e _]
      exact is_of (R := { R with leases := _ }) rfl (hx.addK d c) (hy.keep rfl rfl) (gk rfl) (rk rfl) _
    · rw [show R.put (.kept 1 d c) = _ from mod2_1 e _]
      exact is_of (R := { R with leases := _ }) rfl (hx.keep rfl rfl) (hy.addK d c) (gk rfl) (rk rfl) _
  | gauge d v =>
    refine is_of (R := { R with gauges := R.gauges ++ [(d, v)] }) e (hx.keep rfl rfl) (hy.keep rfl rfl) ?_ (rk rfl) _
    show R.gauges ++ [(d, v)] = _
    rw [g]
    simp [gaugesIn]
  | rate d v =>
    refine is_of (R := { R with rates := R.rates ++ [(d, v)] }) e (hx.keep rfl rfl) (hy.keep rfl rfl) (gk rfl) ?_ _
    show R.rates ++ [(d, v)] = _
    rw [r]
    simp [ratesIn]
  | letF f d r ix => exact p.elim
  | endL n d => exact p.elim
  | close n d => exact p.elim
  | bill d => exact p.elim
theorem is_bill {b : Int} {R : RM} {Ls : List Lt} {sh : Option Int} (h : Is b R Ls sh) (d : Int) : Is b (R.tell (.bill d)) Ls sh := by
  obtain ⟨⟨x, y, e, hx, hy⟩, g, r⟩ := h
  exact is_of (R := { R with through := d }) e hx hy g r _
theorem is_close {b : Int} {R : RM} {Ls : List Lt} (h : Is b R Ls none) (d : Int) : Is b (R.tell (.close 0 d)) Ls (some d) := by
  obtain ⟨⟨x, y, e, hx, hy⟩, g, r⟩ := h
  unfold RM.tell
  rw [show R.put (.close 0 d) = _ from mod2_0 e _]
  refine is_of (R := { R with leases := [x.wsh d, y] }) (x := x.wsh d) (y := y) rfl ⟨hx.first, hx.last, hx.ix, hx.st, hx.mv, rfl, fun h => by
    have h : some d = none := h
    cases h⟩ hy g r _
theorem is_no {b : Int} {R : RM} {Ls : List Lt} {sh : Option Int} (h : Is b R Ls sh) {L : Lt} (p : L.plain) : R.no L = none := by
  obtain ⟨⟨x, y, e, hx, hy⟩, g, r⟩ := h
  cases L with
  | step n d c =>
    have p : n < 2 := p
    obtain rfl | rfl : n = 0 ∨ n = 1 := by omega
    all_goals
      unfold RM.no
      rw [e]
      rfl
  | paid n d c =>
    have p : n < 2 := p
    obtain rfl | rfl : n = 0 ∨ n = 1 := by omega
    all_goals
      unfold RM.no
      rw [e]
      rfl
  | kept n d c =>
    have p : n < 2 := p
    obtain rfl | rfl : n = 0 ∨ n = 1 := by omega
    all_goals
      unfold RM.no
      rw [e]
      rfl
  | gauge d v => rfl
  | rate d v => rfl
  | letF f d r ix => exact p.elim
  | endL n d => exact p.elim
  | close n d => exact p.elim
  | bill d => exact p.elim
theorem is_no_bill {R : RM} {d : Int} (h : R.through ≤ d) : R.no (.bill d) = none := by
  show (if d < R.through then some _ else none) = none
  rw [if_neg (by omega)]
theorem is_no_close {b : Int} {R : RM} {Ls : List Lt} (h : Is b R Ls none) (d : Int) : R.no (.close 0 d) = none := by
  obtain ⟨⟨x, y, e, hx, hy⟩, g, r⟩ := h
  unfold RM.no
  rw [e]
  show (if x.shut.isSome = true then _ else none) = none
  rw [hx.sh]
  rfl
theorem th_tell {R : RM} {L : Lt} (p : L.plain ∨ ∃ d, L = .close 0 d) : (R.tell L).through = R.through := by
  show (R.put L).through = R.through
  rcases p with p | ⟨d, rfl⟩
  · cases L with
    | step n d c => exact mod_same.2.2.1
    | paid n d c => exact mod_same.2.2.1
    | kept n d c => exact mod_same.2.2.1
    | gauge d v => rfl
    | rate d v => rfl
    | letF f d r ix => exact p.elim
    | endL n d => exact p.elim
    | close n d => exact p.elim
    | bill d => exact p.elim
  · exact mod_same.2.2.1
/-- the sums that were sent are as known now -/
def Dn (R : RM) : Prop := ∀ x ∈ R.leases, x.rent = dueOf x R.gauges R.through ∧ ∀ d, x.shut = some d → x.pledge = worthOf x R.rates d
theorem dn_tell (R : RM) (L : Lt) : Dn (R.tell L) := by
  intro x hx
  obtain ⟨y, hy, rfl⟩ := List.mem_map.mp (show x ∈ (R.put L).leases.map (newLs (R.put L)) from hx)
  refine ⟨rfl, fun d hd => ?_⟩
  have hd : y.shut = some d := hd
  show pledgeTo y (R.put L).rates = worthOf y (R.put L).rates d
  unfold pledgeTo
  rw [hd]
/-- both rolls: what is asked of them is the same -/
structure Both (R S : RM) : Prop where
  ex : ∃ x y x' y', R.leases = [x, y] ∧ S.leases = [x', y'] ∧ LSim x x' ∧ LSim y y' ∧ (x.shut = none → x.pledge = 0) ∧ (x'.shut = none → x'.pledge = 0) ∧ (y.shut = none → y.pledge = 0) ∧ (y'.shut = none → y'.pledge = 0)
  g : ∀ d, hld R.gauges d = hld S.gauges d
  r : ∀ d, hld R.rates d = hld S.rates d
theorem both_of {b : Int} {R S : RM} {Ls Ms : List Lt} {sh : Option Int} (h : Is b R Ls sh) (k : Is b S Ms sh) (p : Ls.Perm Ms) (u : Uniq Ls) : Both R S := by
  obtain ⟨⟨x, y, e, hx, hy⟩, g, r⟩ := h
  obtain ⟨⟨x', y', e', hx', hy'⟩, g', r'⟩ := k
  have st : ∀ i (q : Int × Int) d, hld (q :: stepsIn i Ls) d = hld (q :: stepsIn i Ms) d := fun i q d => hld_perm q (p.filterMap _) (steps_uniq u i) d
  have mv : ∀ i d, bal (movesIn i Ls) d = bal (movesIn i Ms) d := fun i d => bal_perm (p.filterMap _) d
  refine ⟨⟨x, y, x', y', e, e', ⟨hx.first.trans hx'.first.symm, hx.last.trans hx'.last.symm, hx.ix.trans hx'.ix.symm, fun d => ?_, fun d => ?_, hx.sh.trans hx'.sh.symm⟩, ⟨hy.first.trans hy'.first.symm, hy.last.trans hy'.last.symm, hy.ix.trans hy'.ix.symm, fun d => ?_, fun d => ?_, hy.sh.trans hy'.sh.symm⟩, hx.z, hx'.z, hy.z, hy'.z⟩, fun d => ?_, fun d => ?_⟩
  · rw [hx.st, hx'.st]; exact st 0 _ d
  · rw [hx.mv, hx'.mv]; exact mv 0 d
  · rw [hy.st, hy'.st]; exact st 1 _ d
  · rw [hy.mv, hy'.mv]; exact mv 1 d
  · rw [g, g']; exact hld_perm _ (p.filterMap _) (gauges_uniq u) d
  · rw [r, r']; exact hld_perm _ (p.filterMap _) (rates_uniq u) d
/-- the rows that are asked -/
def askX (R : RM) (days : List Int) (x : LM) : List PyData := days.map fun d => .tuple [.int (dueOf x R.gauges d), .int (worthOf x R.rates d)]
def askD (R : RM) (days : List Int) : List PyData := R.leases.flatMap (askX R days)
def outs (R : RM) : List PyData := R.leases.map fun x => .tuple [.int x.rent, .int x.pledge]
theorem ask_same {R S : RM} (h : Both R S) (days : List Int) : askD R days = askD S days := by
  obtain ⟨⟨x, y, x', y', e, e', h1, h2, _⟩, g, r⟩ := h
  unfold askD askX
  rw [e, e']
  simp only [List.flatMap_cons, List.flatMap_nil, due_same h1 g, due_same h2 g, worth_same h1 r, worth_same h2 r]
theorem outs_same {R S : RM} (h : Both R S) (d1 : Dn R) (d2 : Dn S) (t : R.through = S.through) : outs R = outs S := by
  obtain ⟨⟨x, y, x', y', e, e', h1, h2, z1, z2, z3, z4⟩, g, r⟩ := h
  have one : ∀ {x x' : LM}, x ∈ R.leases → x' ∈ S.leases → LSim x x' → (x.shut = none → x.pledge = 0) → (x'.shut = none → x'.pledge = 0) → x.rent = x'.rent ∧ x.pledge = x'.pledge := by
    intro x x' m m' h z z'
    obtain ⟨a1, a2⟩ := d1 x m
    obtain ⟨b1, b2⟩ := d2 x' m'
    refine ⟨by rw [a1, b1, t]; exact due_same h g _, ?_⟩
    cases q : x.shut with
    | none => rw [z q, z' (h.sh.symm.trans q)]
    | some d => rw [a2 d q, b2 d (h.sh.symm.trans q)]; exact worth_same h r d
  have o1 := one (by rw [e]; simp) (by rw [e']; simp) h1 z1 z2
  have o2 := one (by rw [e]; simp) (by rw [e']; simp) h2 z3 z4
  unfold outs
  rw [e, e']
  simp only [List.map_cons, List.map_nil, o1.1, o1.2, o2.1, o2.2]
end LW

set_option Elab.async false
set_option linter.all false
set_option maxRecDepth 100000
set_option maxHeartbeats 4000000
namespace LW
open PySem PySem.Spec PyProof.Rows L2 RK
/-! _law_some: letters of which no two have word, lease and day alike -/
abbrev senv (Z : DV) (b v : Int) (c5 c6 c7 c8 c9 c10 : Option DV) : En := [some Z, some (.d (.int b)), some (.d (.int v)), some (.loc 0), some (.loc 1), c5, c6, c7, c8, c9, c10]
theorem str_t {x : XM} {e : En} {w : Wd} (i j : Nat) (hi : i < 9) (hj : j < 9) (W : Str) (hW : W = wordN j) (hx : x e w = .ok (.d (.str (wordN i))) w) : xBin oEq x (xLit (.str W)) e w = .ok (.d (.bool (decide (i = j)))) w := by
  subst hW
  refine bin_of hx (xLit_ap _ _ _) ?_
  rw [oEq_dd _ _ _ (word_sh _ hi) (word_sh _ hj), eqv_str, word_inj _ hi _ hj]
structure SomeAt (Ls : List Lt) (w : Wd) : Prop where
  f : w[0]? = some (.lst ((Ls.map Lt.data).map .d))
  k : ∃ kvs, w[1]? = some (.dcT kvs) ∧ kvs.map Prod.fst = Ls.map Lt.key
  u : Uniq Ls
  g : ∀ L ∈ Ls, L.plain ∧ L.Ok
theorem valT_mem (k : LKey) : ∀ kvs : List (LKey × DV), (valT kvs k).isSome = true ↔ k ∈ kvs.map Prod.fst
  | [] => by simp [valT]
  | p :: r => by
    have ih := valT_mem k r
    unfold valT at *
    by_cases h : p.1 = k
    · rw [List.find?_cons_of_pos (by simpa using h)]
      simp [h]
    · rw [List.find?_cons_of_neg (by simpa using h), ih]
      have : ¬ k = p.1 := fun e => h e.symm
      rw [List.map_cons, List.mem_cons]
      exact ⟨.inr, fun e => e.resolve_left this⟩
theorem putKT_new (k : LKey) (v : DV) (kvs : List (LKey × DV)) (h : k ∉ kvs.map Prod.fst) : putKT kvs k v = kvs ++ [(k, v)] := by
  unfold putKT
  rw [if_neg]
  intro hh
  obtain ⟨p, hp, e⟩ := List.any_eq_true.mp hh
  exact h (List.mem_map.mpr ⟨p, hp, of_decide_eq_true e⟩)
theorem some_word (c : Int) : ∃ i, 2 ≤ i ∧ i ≤ 6 ∧ atI [PyData.str (PySem.Str.ofString "step"), .str (PySem.Str.ofString "gauge"), .str (PySem.Str.ofString "rate"), .str (PySem.Str.ofString "paid"), .str (PySem.Str.ofString "kept")] (c % 5) = some (.str (wordN i)) := by
  have h : c % 5 = 0 ∨ c % 5 = 1 ∨ c % 5 = 2 ∨ c % 5 = 3 ∨ c % 5 = 4 := by omega
  rcases h with h | h | h | h | h <;> rw [h]
  · exact ⟨2, by omega, by omega, rfl⟩
  · exact ⟨3, by omega, by omega, rfl⟩
  · exact ⟨4, by omega, by omega, rfl⟩
  · exact ⟨5, by omega, by omega, rfl⟩
  · exact ⟨6, by omega, by omega, rfl⟩
theorem some_pick (Z : DV) (b v c d a : Int) (n : Nat) (i : Nat) (w : Wd) (c10 : Option DV) (hn : n < 2) (i1 : 2 ≤ i) (i2 : i ≤ 6) (o : isDay d) (ha : 1 ≤ a ∧ a ≤ 1000000000) :
    ∃ (L : Lt) (m : Nat), L.plain ∧ L.Ok ∧ L.word = wordN i ∧ L.key = [.inr (wordN i), .inl (m : Int), .inl d] ∧
      sm_law_some_u4 (senv Z b v (some (.d (.int c))) (some (.d (.int d))) (some (.d (.int n))) (some (.d (.str (wordN i)))) (some (.d (.int a))) c10) w = sm_law_some_u5 (senv Z b v (some (.d (.int c))) (some (.d (.int d))) (some (.d (.int m))) (some (.d (.str (wordN i)))) (some (.d (.int a))) (some (.d L.data))) w := by
  have i9 : i < 9 := by omega
  have v5 : ∀ c7 c10, (xVar 5) (senv Z b v (some (.d (.int c))) (some (.d (.int d))) c7 (some (.d (.str (wordN i)))) (some (.d (.int a))) c10) w = .ok (.d (.int c)) w := fun _ _ => rfl
  have v6 : ∀ c7 c10, (xVar 6) (senv Z b v (some (.d (.int c))) (some (.d (.int d))) c7 (some (.d (.str (wordN i)))) (some (.d (.int a))) c10) w = .ok (.d (.int d)) w := fun _ _ => rfl
  have v8 : ∀ c7 c10, (xVar 8) (senv Z b v (some (.d (.int c))) (some (.d (.int d))) c7 (some (.d (.str (wordN i)))) (some (.d (.int a))) c10) w = .ok (.d (.str (wordN i))) w := fun _ _ => rfl
  have v9 : ∀ c7 c10, (xVar 9) (senv Z b v (some (.d (.int c))) (some (.d (.int d))) c7 (some (.d (.str (wordN i)))) (some (.d (.int a))) c10) w = .ok (.d (.int a)) w := fun _ _ => rfl
  have v7 : ∀ c10, (xVar 7) (senv Z b v (some (.d (.int c))) (some (.d (.int d))) (some (.d (.int n))) (some (.d (.str (wordN i)))) (some (.d (.int a))) c10) w = .ok (.d (.int n)) w := fun _ => rfl
  have t3 := str_t i 3 i9 (by omega) (PySem.Str.ofString "gauge") rfl (v8 (some (.d (.int n))) c10)
  have t4 := str_t i 4 i9 (by omega) (PySem.Str.ofString "rate") rfl (v8 (some (.d (.int n))) c10)
  unfold sm_law_some_u4
  by_cases h3 : i = 3
  · obtain ⟨num, q1, q2, en⟩ := law_number_ok (mix c 3)
    have nu : (xCallP f_law_number (xCons (xCallP f_law_mix (xCons (xVar 5) (xCons (xLit (.int 3)) xNil))) xNil)) (senv Z b v (some (.d (.int c))) (some (.d (.int d))) (some (.d (.int n))) (some (.d (.str (wordN i)))) (some (.d (.int a))) c10) w = .ok (.d (.int num)) w := callP_of (cons_of (callP_of (cons_of (v5 _ _) (cons_of (xLit_ap _ _ _) (xNil_ap _ _))) rfl (mix_ok c 3)) (xNil_ap _ _)) rfl en
    refine ⟨.gauge d num, 2, trivial, ⟨o, q1, q2⟩, by rw [h3]; rfl, by rw [h3]; rfl, ?_⟩
    rw [seq_of (e1 := senv Z b v (some (.d (.int c))) (some (.d (.int d))) (some (.d (.int (2 : Nat)))) (some (.d (.str (wordN i)))) (some (.d (.int a))) (some (.d (Lt.gauge d num).data))) (w1 := w) (if_yes t3 (decide_eq_true h3) (by
      rw [seq_of (set_of (show xTup _ _ w = .ok (.d (Lt.gauge d num).data) w by rw [xTup_ap, cons_of (v8 _ _) (cons_of (v6 _ _) (cons_of nu (xNil_ap _ _))), bind_ok]; rw [h3]; rfl))]
      rfl))]
  by_cases h4 : i = 4
  · have rt : (xBin oMod (xVar 9) (xBin oAdd (xBin oPow (xLit (.int 10)) (xLit (.int 4))) (xLit (.int 1)))) (senv Z b v (some (.d (.int c))) (some (.d (.int d))) (some (.d (.int n))) (some (.d (.str (wordN i)))) (some (.d (.int a))) c10) w = .ok (.d (.int (a % 10001))) w := bin_of (v9 _ _) (show _ = Rs.ok (DV.d (.int 10001)) w by simp) (by simp)
    refine ⟨.rate d (a % 10001), 2, trivial, ⟨o, by omega, by omega⟩, by rw [h4]; rfl, by rw [h4]; rfl, ?_⟩
    rw [seq_of (e1 := senv Z b v (some (.d (.int c))) (some (.d (.int d))) (some (.d (.int (2 : Nat)))) (some (.d (.str (wordN i)))) (some (.d (.int a))) (some (.d (Lt.rate d (a % 10001)).data))) (w1 := w) (by
      rw [if_of t3, if_neg (by simp [h3])]
      exact if_yes t4 (decide_eq_true h4) (by
        rw [seq_of (set_of (show xTup _ _ w = .ok (.d (Lt.rate d (a % 10001)).data) w by rw [xTup_ap, cons_of (v8 _ _) (cons_of (v6 _ _) (cons_of rt (xNil_ap _ _))), bind_ok]; rw [h4]; rfl))]
        rfl))]
  have go : ∀ (L : Lt), L.data = .tuple [.str (wordN i), .int n, .int d, .int a] → sSeq (sIf (xBin oEq (xVar 8) (xLit (.str (PySem.Str.ofString "gauge")))) (sSeq (sSet 10 (xTup (xCons (xVar 8) (xCons (xVar 6) (xCons (xCallP f_law_number (xCons (xCallP f_law_mix (xCons (xVar 5) (xCons (xLit (.int 3)) xNil))) xNil)) xNil))))) (sSet 7 (xLit (.int 2)))) (sIf (xBin oEq (xVar 8) (xLit (.str (PySem.Str.ofString "rate")))) (sSeq (sSet 10 (xTup (xCons (xVar 8) (xCons (xVar 6) (xCons (xBin oMod (xVar 9) (xBin oAdd (xBin oPow (xLit (.int 10)) (xLit (.int 4))) (xLit (.int 1)))) xNil))))) (sSet 7 (xLit (.int 2)))) (sSet 10 (xTup (xCons (xVar 8) (xCons (xVar 7) (xCons (xVar 6) (xCons (xVar 9) xNil)))))))) sm_law_some_u5 (senv Z b v (some (.d (.int c))) (some (.d (.int d))) (some (.d (.int n))) (some (.d (.str (wordN i)))) (some (.d (.int a))) c10) w = sm_law_some_u5 (senv Z b v (some (.d (.int c))) (some (.d (.int d))) (some (.d (.int n))) (some (.d (.str (wordN i)))) (some (.d (.int a))) (some (.d L.data))) w := fun L hL => by
    rw [seq_of (e1 := senv Z b v (some (.d (.int c))) (some (.d (.int d))) (some (.d (.int n))) (some (.d (.str (wordN i)))) (some (.d (.int a))) (some (.d L.data))) (w1 := w) (by
      rw [if_of t3, if_neg (by simp [h3]), if_of t4, if_neg (by simp [h4])]
      exact set_of (show xTup _ _ w = .ok (.d L.data) w by rw [xTup_ap, cons_of (v8 _ _) (cons_of (v7 _) (cons_of (v6 _ _) (cons_of (v9 _ _) (xNil_ap _ _)))), bind_ok, hL]; rfl))]
  have hi : i = 2 ∨ i = 5 ∨ i = 6 := by omega
  rcases hi with hi | hi | hi
  · exact ⟨.step n d a, n, hn, ⟨o, by omega, ha.2⟩, by rw [hi]; rfl, by rw [hi]; rfl, go _ (by rw [hi]; rfl)⟩
  · exact ⟨.paid n d a, n, hn, ⟨o, ha.1, ha.2⟩, by rw [hi]; rfl, by rw [hi]; rfl, go _ (by rw [hi]; rfl)⟩
  · exact ⟨.kept n d a, n, hn, ⟨o, ha.1, ha.2⟩, by rw [hi]; rfl, by rw [hi]; rfl, go _ (by rw [hi]; rfl)⟩
theorem get_app {w : Wd} {i : Nat} {o : AO} (h : w[i]? = some o) (q : AO) : (w ++ [q])[i]? = some o := by
  rw [List.getElem?_append_left (List.getElem?_eq_some_iff.mp h).1]
  exact h
theorem some_body {Ls : List Lt} {w : Wd} (S : SomeAt Ls w) (hl : Ls.length < 1000) (Z : DV) (b v c : Int) (hb : 0 ≤ b) (hb2 : b < 96000) (hv : 1 ≤ v) (hv2 : v ≤ 3000) (c6 c7 c8 c9 c10 : Option DV) :
    ∃ a6 a7 a8 a9 a10 w' Ls', sm_law_some_l1 (senv Z b v (some (.d (.int c))) c6 c7 c8 c9 c10) w = .ok (.nx (senv Z b v (some (.d (.int c))) a6 a7 a8 a9 a10)) w' ∧ SomeAt Ls' w' ∧ Ls'.length ≤ Ls.length + 1 := by
  obtain ⟨d, hd⟩ : ∃ d : Int, b + mix c 1 % v = d := ⟨_, rfl⟩
  have r1 := Int.emod_nonneg (mix c 1) (by omega : v ≠ 0)
  have r2 := Int.emod_lt_of_pos (mix c 1) (by omega : 0 < v)
  have od : isDay d := ⟨by omega, by omega⟩
  obtain ⟨n, hn2, hn⟩ : ∃ n : Nat, n < 2 ∧ mix c 2 % 2 = (n : Int) := ⟨(mix c 2 % 2).toNat, by omega, by omega⟩
  obtain ⟨i, i1, i2, hi⟩ := some_word c
  obtain ⟨money, b1, b2, em⟩ := law_money_ok (mix c 3)
  obtain ⟨a, ha⟩ : ∃ a : Int, 1 + money % 1000000000 = a := ⟨_, rfl⟩
  obtain ⟨L, m, p1, p2, p3, p4, p5⟩ := some_pick Z b v c d a n i w c10 hn2 i1 i2 od ⟨by omega, by omega⟩
  have mx : ∀ (j : Int) c6 c7 c8 c9, (xCallP f_law_mix (xCons (xVar 5) (xCons (xLit (.int j)) xNil))) (senv Z b v (some (.d (.int c))) c6 c7 c8 c9 c10) w = .ok (.d (.int (mix c j))) w := fun j _ _ _ _ => callP_of (cons_of (show (xVar 5) _ w = .ok (.d (.int c)) w from rfl) (cons_of (xLit_ap _ _ _) (xNil_ap _ _))) rfl (mix_ok c j)
  have hv0 : v ≠ 0 := by omega
  have s6 : sSet 6 (xBin oAdd (xVar 1) (xBin oMod (xCallP f_law_mix (xCons (xVar 5) (xCons (xLit (.int 1)) xNil))) (xVar 2))) (senv Z b v (some (.d (.int c))) c6 c7 c8 c9 c10) w = .ok (.nx (senv Z b v (some (.d (.int c))) (some (.d (.int d))) c7 c8 c9 c10)) w := by
    rw [← hd]
    exact set_of (bin_of (show (xVar 1) _ w = .ok (.d (.int b)) w from rfl) (bin_of (mx 1 _ _ _ _) (show (xVar 2) _ w = .ok (.d (.int v)) w from rfl) (show _ = Rs.ok (DV.d (.int (mix c 1 % v))) w by simp [hv, show 0 < v by omega])) (oI_ap _ _ _ _ _))
  have s7 : sSet 7 (xBin oMod (xCallP f_law_mix (xCons (xVar 5) (xCons (xLit (.int 2)) xNil))) (xLit (.int 2))) (senv Z b v (some (.d (.int c))) (some (.d (.int d))) c7 c8 c9 c10) w = .ok (.nx (senv Z b v (some (.d (.int c))) (some (.d (.int d))) (some (.d (.int n))) c8 c9 c10)) w := by
    rw [← hn]
    exact set_of (bin_of (mx 2 _ _ _ _) (xLit_ap _ _ _) (show _ = Rs.ok (DV.d (.int (mix c 2 % 2))) w by simp))
  have s8 : sSet 8 (xBin oIxL (xLst (xCons (xLit (.str (PySem.Str.ofString "step"))) (xCons (xLit (.str (PySem.Str.ofString "gauge"))) (xCons (xLit (.str (PySem.Str.ofString "rate"))) (xCons (xLit (.str (PySem.Str.ofString "paid"))) (xCons (xLit (.str (PySem.Str.ofString "kept"))) xNil)))))) (xBin oMod (xVar 5) (xLit (.int 5)))) (senv Z b v (some (.d (.int c))) (some (.d (.int d))) (some (.d (.int n))) c8 c9 c10) w = .ok (.nx (senv Z b v (some (.d (.int c))) (some (.d (.int d))) (some (.d (.int n))) (some (.d (.str (wordN i)))) c9 c10)) w :=
    set_of (bin_of (show xLst _ _ w = .ok (.d (.list [PyData.str (PySem.Str.ofString "step"), .str (PySem.Str.ofString "gauge"), .str (PySem.Str.ofString "rate"), .str (PySem.Str.ofString "paid"), .str (PySem.Str.ofString "kept")])) w from rfl) (bin_of (show (xVar 5) _ w = .ok (.d (.int c)) w from rfl) (xLit_ap _ _ _) (show _ = Rs.ok (DV.d (.int (c % 5))) w by simp)) (by rw [oIxL_d, hi]))
  have s9 : sSet 9 (xBin oAdd (xLit (.int 1)) (xBin oMod (xCallP f_law_money (xCons (xCallP f_law_mix (xCons (xVar 5) (xCons (xLit (.int 3)) xNil))) xNil)) (xBin oPow (xLit (.int 10)) (xLit (.int 9))))) (senv Z b v (some (.d (.int c))) (some (.d (.int d))) (some (.d (.int n))) (some (.d (.str (wordN i)))) c9 c10) w = .ok (.nx (senv Z b v (some (.d (.int c))) (some (.d (.int d))) (some (.d (.int n))) (some (.d (.str (wordN i)))) (some (.d (.int a))) c10)) w := by
    rw [← ha]
    exact set_of (bin_of (xLit_ap _ _ _) (bin_of (callP_of (cons_of (mx 3 _ _ _ _) (xNil_ap _ _)) rfl em) (show _ = Rs.ok (DV.d (.int 1000000000)) w by simp) (show _ = Rs.ok (DV.d (.int (money % 1000000000))) w by simp)) (oI_ap _ _ _ _ _))
  unfold sm_law_some_l1 sm_law_some_u1 sm_law_some_u2 sm_law_some_u3
  rw [seq_of s6, seq_of s7, seq_of s8, seq_of s9, p5]
  obtain ⟨kvs, k1, k2⟩ := S.k
  -- the key as a tuple of the store
  have kt : ∀ (w : Wd) (c9 c10 : Option DV), xTupS (xCons (xVar 8) (xCons (xVar 7) (xCons (xVar 6) xNil))) (senv Z b v (some (.d (.int c))) (some (.d (.int d))) (some (.d (.int m))) (some (.d (.str (wordN i)))) c9 c10) w = .ok (.loc w.length) (w ++ [.tup [.d (.str (wordN i)), .d (.int m), .d (.int d)]]) := fun w _ _ => rfl
  have ky : ∀ w : Wd, keyTD (w ++ [.tup [.d (.str (wordN i)), .d (.int m), .d (.int d)]]) (.loc w.length) = some L.key := fun w => by
    rw [p4]
    unfold keyTD
    simp only [List.getElem?_append_right (Nat.le_refl _), Nat.sub_self, List.getElem?_cons_zero]
    rfl
  have km : ∀ w : Wd, w[1]? = some (.dcT kvs) → dctTAt w (.loc 1) = some (1, kvs) := fun w h => by
    show (match w[1]? with | some (.dcT kvs) => some (1, kvs) | _ => none) = _
    rw [h]
  obtain ⟨w1, hw1⟩ : ∃ w1, w ++ [AO.tup [.d (.str (wordN i)), .d (.int m), .d (.int d)]] = w1 := ⟨_, rfl⟩
  have g0 : w1[0]? = _ := hw1 ▸ get_app S.f _
  have g1 : w1[1]? = _ := hw1 ▸ get_app k1 _
  have tn : xTDNotIn (xTupS (xCons (xVar 8) (xCons (xVar 7) (xCons (xVar 6) xNil)))) (xVar 4) (senv Z b v (some (.d (.int c))) (some (.d (.int d))) (some (.d (.int m))) (some (.d (.str (wordN i)))) (some (.d (.int a))) (some (.d L.data))) w = .ok (.d (.bool (!(valT kvs L.key).isSome))) w1 := by
    unfold xTDNotIn
    rw [kt w, bind_ok, show (xVar 4) _ _ = Rs.ok (DV.loc 1) _ from rfl, bind_ok, ky, hw1, km _ g1]
  have vm := valT_mem L.key kvs
  rw [k2] at vm
  unfold sm_law_some_u5
  by_cases hk : L.key ∈ Ls.map Lt.key
  · refine ⟨some (.d (.int d)), some (.d (.int m)), some (.d (.str (wordN i))), some (.d (.int a)), some (.d L.data), w1, Ls, (by rw [if_of tn, vm.mpr hk]; rfl), ⟨g0, ⟨kvs, g1, k2⟩, S.u, S.g⟩, by omega⟩
  · have kl : kvs.length = Ls.length := by
      have := congrArg List.length k2
      simpa using this
    obtain ⟨w2, hw2⟩ : ∃ w2, w1 ++ [AO.tup [.d (.str (wordN i)), .d (.int m), .d (.int d)]] = w2 := ⟨_, rfl⟩
    have h0 : w2[0]? = _ := hw2 ▸ get_app g0 _
    have h1 : w2[1]? = _ := hw2 ▸ get_app g1 _
    have l2 : 1 < w2.length := (List.getElem?_eq_some_iff.mp h1).1
    have pt : sTDPut (xVar 4) (xTupS (xCons (xVar 8) (xCons (xVar 7) (xCons (xVar 6) xNil)))) (xLit (.bool true)) (senv Z b v (some (.d (.int c))) (some (.d (.int d))) (some (.d (.int m))) (some (.d (.str (wordN i)))) (some (.d (.int a))) (some (.d L.data))) w1 = .ok (.nx (senv Z b v (some (.d (.int c))) (some (.d (.int d))) (some (.d (.int m))) (some (.d (.str (wordN i)))) (some (.d (.int a))) (some (.d L.data)))) (w2.set 1 (.dcT (kvs ++ [(L.key, .d (.bool true))]))) := by
      unfold sTDPut
      rw [xLit_ap, st_ok, show (xVar 4) _ _ = Rs.ok (DV.loc 1) _ from rfl, st_ok, kt w1, st_ok, ky, hw2, km _ h1]
      simp only
      rw [if_pos (by omega), putKT_new _ _ _ (by rw [k2]; exact hk)]
    have h0' : (w2.set 1 (.dcT (kvs ++ [(L.key, .d (.bool true))])))[0]? = some (.lst ((Ls.map Lt.data).map .d)) := by
      rw [List.getElem?_set_ne (by decide), h0]
    have ap : sExp (xApp (xVar 3) (xVar 10)) (senv Z b v (some (.d (.int c))) (some (.d (.int d))) (some (.d (.int m))) (some (.d (.str (wordN i)))) (some (.d (.int a))) (some (.d L.data))) (w2.set 1 (.dcT (kvs ++ [(L.key, .d (.bool true))]))) = .ok (.nx (senv Z b v (some (.d (.int c))) (some (.d (.int d))) (some (.d (.int m))) (some (.d (.str (wordN i)))) (some (.d (.int a))) (some (.d L.data)))) ((w2.set 1 (.dcT (kvs ++ [(L.key, .d (.bool true))]))).set 0 (.lst ((Ls.map Lt.data).map .d ++ [.d L.data]))) :=
      exp_of (app_of (show (xVar 3) _ _ = Rs.ok (DV.loc 0) _ from rfl) h0' (show (xVar 10) _ _ = Rs.ok (DV.d L.data) _ from rfl) h0' (by simp; omega))
    refine ⟨_, _, _, _, _, _, Ls ++ [L], if_yes tn (b := !(valT kvs L.key).isSome) (by cases q : (valT kvs L.key).isSome with | false => rfl | true => exact (hk (vm.mp q)).elim) (by rw [seq_of pt, ap]), ⟨?_, ⟨kvs ++ [(L.key, .d (.bool true))], ?_, ?_⟩, ?_, ?_⟩, by simp⟩
    · rw [List.getElem?_set_self (by rw [List.length_set]; omega)]
      simp
    · rw [List.getElem?_set_ne (by decide), List.getElem?_set_self l2]
    · simp [k2]
    · intro M hM N hN e
      rcases List.mem_append.mp hM with hM | hM <;> rcases List.mem_append.mp hN with hN | hN
      · exact S.u M hM N hN e
      · rw [List.mem_singleton] at hN
        rw [hN] at e
        exact (hk (List.mem_map.mpr ⟨M, hM, e⟩)).elim
      · rw [List.mem_singleton] at hM
        rw [hM] at e
        exact (hk (List.mem_map.mpr ⟨N, hN, e.symm⟩)).elim
      · rw [List.mem_singleton] at hM hN
        rw [hM, hN]
    · intro M hM
      rcases List.mem_append.mp hM with hM | hM
      · exact S.g M hM
      · rw [List.mem_singleton] at hM
        subst hM
        exact ⟨p1, p2⟩
theorem law_some_ok (ns : List Int) (hns : ns.length ≤ 63) (b v : Int) (hb : 0 ≤ b) (hb2 : b < 96000) (hv : 1 ≤ v) (hv2 : v ≤ 3000) :
    ∃ Ls : List Lt, Ls.length ≤ 12 ∧ Uniq Ls ∧ (∀ L ∈ Ls, L.plain ∧ L.Ok) ∧ f_law_some [.list (ns.map .int), .int b, .int v] = .ok (.list (Ls.map Lt.data)) := by
  have cl := cut_len (ns.map PyData.int) 3 15 (by omega) (by omega)
  generalize hZ : DV.d (.list (ns.map PyData.int)) = Z
  obtain ⟨e9, w9, lp, ⟨Ls, I1, I2⟩, g5, g6, g7, g8, g9, g10, he9⟩ := forD_inv (g := gNm 5) (s := sm_law_some_l1) (fun k e w => (∃ Ls, SomeAt Ls w ∧ Ls.length ≤ k) ∧ ∃ c5 c6 c7 c8 c9 c10, e = senv Z b v c5 c6 c7 c8 c9 c10) (cutL (ns.map PyData.int) (some 3) (some 15)) 0 (senv Z b v none none none none none none) [.lst [], .dcT []] ⟨⟨[], ⟨rfl, ⟨[], rfl, rfl⟩, fun L h => (by cases h), fun L h => (by cases h)⟩, Nat.le_refl _⟩, _, _, _, _, _, _, rfl⟩ (by
    rintro x hx k e w hk ⟨⟨Ls, I1, I2⟩, c5, c6, c7, c8, c9, c10, rfl⟩
    obtain ⟨i, _, rfl⟩ := List.mem_map.mp (cut_mem hx)
    obtain ⟨a6, a7, a8, a9, a10, w', Ls', e1, e2, e3⟩ := some_body I1 (by omega) Z b v i hb hb2 hv hv2 c6 c7 c8 c9 c10
    exact ⟨_, _, w', rfl, .inl e1, ⟨Ls', e2, by omega⟩, _, _, _, _, _, _, rfl⟩)
  subst he9
  refine ⟨Ls, by omega, I1.u, I1.g, ?_⟩
  have hf : sm_law_some (initE 11 [.d (.list (ns.map .int)), .d (.int b), .d (.int v)]) [] = .ok (.rt (.loc 0)) w9 := by
    have rs := room_small ns hns 12 30
    have s3 : sFor (gNm 5) (xSlL (xVar 0) (poS (xLit (.int 3))) (poS (xBin oAdd (xLit (.int 3)) (xCallP f_law_room (xCons (xVar 0) (xCons (xLit (.int 12)) (xCons (xLit (.int 30)) xNil))))))) sm_law_some_l1 (senv Z b v none none none none none none) [.lst [], .dcT []] = .ok (.nx (senv Z b v g5 g6 g7 g8 g9 g10)) w9 := by
      rw [← lp]
      subst hZ
      simp [rs]
    subst hZ
    unfold sm_law_some
    rw [seq_of (e1 := [some (.d (.list (ns.map .int))), some (.d (.int b)), some (.d (.int v)), some (.loc 0), none, none, none, none, none, none, none]) (w1 := [.lst []]) rfl, seq_of (e1 := senv (.d (.list (ns.map .int))) b v none none none none none none) (w1 := [.lst [], .dcT []]) rfl, seq_of s3, ret_of (show (xVar 3) _ w9 = .ok (.loc 0) w9 from rfl)]
  show finP (sm_law_some (initE 11 [.d (.list (ns.map .int)), .d (.int b), .d (.int v)]) []) = _
  rw [hf, finP_rt, toD_lst 5 _ 0 (Ls.map Lt.data) I1.f]
end LW

set_option Elab.async false
set_option linter.all false
set_option maxRecDepth 100000
set_option maxHeartbeats 4000000
namespace LW
open PySem PySem.Spec PyProof.Rows L2 RK
theorem swapAB {w : Wd} {PA PB : RP} {RA RB : RM} {G : List Cell} (X : List Cell) (h : RAt w PA RA (X ++ (rollC PB RB ++ G))) (l : PB.ls.length = RB.leases.length) : RAt w PB RB (X ++ (rollC PA RA ++ G)) := ⟨h.at_.perm (by
  have p : (rollC PA RA ++ X ++ rollC PB RB).Perm (rollC PB RB ++ X ++ rollC PA RA) := List.perm_append_comm.trans (by
    rw [List.append_assoc (rollC PB RB)]
    exact List.perm_append_comm.append_left _)
  have q := p.append_right G
  simpa only [List.append_assoc] using q), l⟩
theorem oNe_all {w : Wd} {x y : DV} {d : PyData} (hx : toD 6 w x = some d) (hy : toD 6 w y = some d) (s : SeqAt.shaped d = true) : oNe x y w = .ok (.d (.bool false)) w := by
  unfold oNe
  rw [hx, hy]
  simp only [s, Bool.and_self, if_true]
  rw [shaped_refl s]
  rfl
/-! the roll as it is at first -/
abbrev west : Str := PySem.Str.ofString "west"
abbrev wes : Str := PySem.Str.ofString "wes"
def R0 (b : Int) : RM := (RM.new.tell (.letF west b 61000 true)).tell (.letF wes (b + 3) 47000 false)
theorem ok_west {b : Int} (hb : 0 ≤ b) (hb2 : b < 96000) : (Lt.letF west b 61000 true).Ok := ⟨by decide +kernel, ⟨hb, by omega⟩, by decide, by decide⟩
theorem ok_wes {b : Int} (hb : 0 ≤ b) (hb2 : b < 96000) : (Lt.letF wes (b + 3) 47000 false).Ok := ⟨by decide +kernel, ⟨by omega, by omega⟩, by decide, by decide⟩
theorem no_west (b : Int) : RM.new.no (.letF west b 61000 true) = none := rfl
theorem ne_west : west ≠ wes := by decide +kernel
theorem no_wes (b : Int) : (RM.new.tell (.letF west b 61000 true)).no (.letF wes (b + 3) 47000 false) = none := by
  show (if ([newLs (RM.new.put (.letF west b 61000 true)) (newLM west b 61000 true)].any fun x => decide (x.flat = wes) && !x.free (b + 3)) = true then some (PySem.Str.ofString "Taken") else if 20 ≤ 1 then some (PySem.Str.ofString "Full") else none) = none
  rw [if_neg, if_neg (by decide)]
  rw [List.any_cons, List.any_nil]
  have : decide ((newLs (RM.new.put (.letF west b 61000 true)) (newLM west b 61000 true)).flat = wes) = false := decide_eq_false ne_west
  rw [this]
  intro h
  cases h
/-- what is known of a roll -/
structure Gd (R : RM) (b : Int) (Ls : List Lt) (sh : Option Int) (k : Nat) (th : Int) : Prop where
  S : Sane R
  rm : Room R k
  is_ : Is b R Ls sh
  th : R.through = th
  dn : Dn R
theorem gd_0 {b : Int} (hb : 0 ≤ b) (hb2 : b < 96000) : Gd (R0 b) b [] none 2 (-1) := by
  refine ⟨sane_tell (sane_tell sane_new (ok_west hb hb2)) (ok_wes hb hb2), room_tell (room_tell room_new _) _, ⟨⟨_, _, rfl, LIs.nl (LIs.nl ?_ _) _, LIs.nl ?_ _⟩, rfl, rfl⟩, rfl, dn_tell _ _⟩
  · exact ⟨rfl, rfl, rfl, rfl, rfl, rfl, fun _ => rfl⟩
  · exact ⟨rfl, rfl, rfl, rfl, rfl, rfl, fun _ => rfl⟩
theorem gd_step {R : RM} {b : Int} {Ls : List Lt} {sh : Option Int} {k : Nat} {th : Int} (h : Gd R b Ls sh k th) {L : Lt} (p : L.plain) (o : L.Ok) : Gd (R.tell L) b (Ls ++ [L]) sh (k + 1) th :=
  ⟨sane_tell h.S o, room_tell h.rm L, is_tell h.is_ p, (th_tell (.inl p)).trans h.th, dn_tell _ _⟩
theorem gd_bill {R : RM} {b : Int} {Ls : List Lt} {sh : Option Int} {k : Nat} {th : Int} (h : Gd R b Ls sh k th) {d : Int} (o : isDay d) : Gd (R.tell (.bill d)) b Ls sh (k + 1) d :=
  ⟨sane_tell h.S o, room_tell h.rm _, is_bill h.is_ d, rfl, dn_tell _ _⟩
theorem gd_close {R : RM} {b : Int} {Ls : List Lt} {k : Nat} {th : Int} (h : Gd R b Ls none k th) {d : Int} (o : isDay d) : Gd (R.tell (.close 0 d)) b Ls (some d) (k + 1) th :=
  ⟨sane_tell h.S o, room_tell h.rm _, is_close h.is_ d, (th_tell (.inr ⟨d, rfl⟩)).trans h.th, dn_tell _ _⟩
theorem Gd.up {R : RM} {b : Int} {Ls : List Lt} {sh : Option Int} {k : Nat} {th : Int} (h : Gd R b Ls sh k th) : Gd R b Ls sh (k + 1) th := ⟨h.S, room_up h.rm, h.is_, h.th, h.dn⟩
/-- a letter told, as a statement -/
theorem go_exp {w : Wd} {P : RP} {R : RM} {D : List Cell} {L : Lt} {x : XM} {e : En} {r : Rs DV} (hr : x e w = r) (t : Told w P R D L r) (h : R.no L = none) : ∃ w' P', sExp x e w = .ok (.nx e) w' ∧ P'.r = P.r ∧ RAt w' P' (R.tell L) D := by
  obtain ⟨w', l, P', a, b, c⟩ := told_go t h
  exact ⟨w', P', exp_of (hr.trans a), b, c⟩
theorem law_roll_ok {w : Wd} {D : List Cell} (h : At w D) {b : Int} (hb : 0 ≤ b) (hb2 : b < 96000) : ∃ w' P, f_law_roll [.d (.int b)] w = .ok (.loc P.r) w' ∧ RAt w' P (R0 b) D := by
  obtain ⟨w1, P1, a1, h1⟩ := new_ok h [some (.d (.int b)), none]
  have m2 := let_ok h1 sane_new room_new (by decide) west b 61000 true (ok_west hb hb2)
  have y2 : xMeth (PySem.Str.ofString "Roll") (PySem.Str.ofString "let") f_Roll_let (xVar 1) (xCons (xLit (.str (PySem.Str.ofString "west"))) (xCons (xVar 0) (xCons (xLit (.int 61000)) (xCons (xLit (.bool true)) xNil)))) [some (.d (.int b)), some (.loc P1.r)] w1 = f_Roll_let [.loc P1.r, .d (.str west), .d (.int b), .d (.int 61000), .d (.bool true)] w1 := methR_of (show (xVar 1) _ w1 = .ok (.loc P1.r) w1 from rfl) h1.o rfl (show _ = Rs.ok [.d (.str west), .d (.int b), .d (.int 61000), .d (.bool true)] w1 from rfl) rfl
  obtain ⟨w2, P2, a2, b2, h2⟩ := go_exp y2 m2 (no_west b)
  have m3 := let_ok h2 (sane_tell sane_new (ok_west hb hb2)) (room_tell room_new _) (by decide) wes (b + 3) 47000 false (ok_wes hb hb2)
  have y3 : xMeth (PySem.Str.ofString "Roll") (PySem.Str.ofString "let") f_Roll_let (xVar 1) (xCons (xLit (.str (PySem.Str.ofString "wes"))) (xCons (xBin oAdd (xVar 0) (xLit (.int 3))) (xCons (xLit (.int 47000)) (xCons (xLit (.bool false)) xNil)))) [some (.d (.int b)), some (.loc P1.r)] w2 = f_Roll_let [.loc P2.r, .d (.str wes), .d (.int (b + 3)), .d (.int 47000), .d (.bool false)] w2 := by
    rw [b2]
    exact methR_of (show (xVar 1) _ w2 = .ok (.loc P1.r) w2 from rfl) (b2 ▸ h2.o) rfl (show _ = Rs.ok [.d (.str wes), .d (.int (b + 3)), .d (.int 47000), .d (.bool false)] w2 from rfl) rfl
  obtain ⟨w3, P3, a3, b3, h3⟩ := go_exp y3 m3 (no_wes b)
  refine ⟨w3, P3, ?_, h3⟩
  show finW (sm_law_roll [some (.d (.int b)), none] w) = _
  unfold sm_law_roll
  rw [seq_of (e1 := [some (.d (.int b)), some (.loc P1.r)]) (set_of a1), seq_of a2, seq_of a3, ret_of (show (xVar 1) [some (.d (.int b)), some (.loc P1.r)] w3 = .ok (.loc P1.r) w3 from rfl), b3, b2]
  rfl
/-! _law_asked -/
abbrev kenv (r : Nat) (ds : List Int) (l : Nat) (c3 c4 : Option DV) : En := [some (.loc r), some (.d (.list (ds.map .int))), some (.loc l), c3, c4]
theorem asked_row {P : RP} {R : RM} {D : List Cell} {l : Nat} (S : Sane R) {k : Nat} (rm : Room R k) (hk : k < 20000) {n : Nat} {x : LM} (q : R.leases[n]? = some x) (days : List Int) : ∀ (ds : List Int) (w : Wd) (acc : List PyData) (c4 : Option DV), (∀ d ∈ ds, isDay d) → RAt w P R ((l, .lst (acc.map .d)) :: D) → acc.length + ds.length < 1000 →
    ∃ w' c4', forD (gNm 4) sm_law_asked_l1 (ds.map .int) (kenv P.r days l (some (.d (.int n))) c4) w = .ok (.nx (kenv P.r days l (some (.d (.int n))) c4')) w' ∧ RAt w' P R ((l, .lst ((acc ++ askX R ds x).map .d)) :: D)
  | [], w, acc, c4, _, h, _ => ⟨w, c4, rfl, by simpa [askX] using h⟩
  | d :: ds, w, acc, c4, o, h, hl => by
    have od := o d (List.mem_cons_self ..)
    have t : xTup (xCons (xMeth (PySem.Str.ofString "Roll") (PySem.Str.ofString "owed") f_Roll_owed (xVar 0) (xCons (xVar 3) (xCons (xVar 4) xNil))) (xCons (xMeth (PySem.Str.ofString "Roll") (PySem.Str.ofString "pledge") f_Roll_pledge (xVar 0) (xCons (xVar 3) (xCons (xVar 4) xNil))) xNil)) (kenv P.r days l (some (.d (.int n))) (some (.d (.int d)))) w = .ok (.d (.tuple [.int (dueOf x R.gauges d), .int (worthOf x R.rates d)])) w := by
      rw [xTup_ap, cons_of (methR_of (show (xVar 0) _ w = .ok (.loc P.r) w from rfl) h.o rfl (show xCons (xVar 3) (xCons (xVar 4) xNil) _ w = .ok [.d (.int n), .d (.int d)] w from rfl) (rowed_ok h S q d od)) (cons_of (methR_of (show (xVar 0) _ w = .ok (.loc P.r) w from rfl) h.o rfl (show xCons (xVar 3) (xCons (xVar 4) xNil) _ w = .ok [.d (.int n), .d (.int d)] w from rfl) (rpledge_ok h S rm hk q d od)) (xNil_ap _ _)), bind_ok]
      rfl
    have g := h.get (List.mem_cons_self ..)
    have s : sm_law_asked_l1 (kenv P.r days l (some (.d (.int n))) (some (.d (.int d)))) w = .ok (.nx (kenv P.r days l (some (.d (.int n))) (some (.d (.int d))))) (w.set l (.lst (acc.map .d ++ [.d (.tuple [.int (dueOf x R.gauges d), .int (worthOf x R.rates d)])]))) :=
      exp_of (app_of (show (xVar 2) (kenv P.r days l (some (.d (.int n))) (some (.d (.int d)))) w = .ok (.loc l) w from rfl) g t g (by simp at hl ⊢; omega))
    have h' : RAt (w.set l (.lst (acc.map .d ++ [.d (.tuple [.int (dueOf x R.gauges d), .int (worthOf x R.rates d)])]))) P R ((l, .lst ((acc ++ [PyData.tuple [.int (dueOf x R.gauges d), .int (worthOf x R.rates d)]]).map .d)) :: D) := by
      rw [List.map_append]
      exact h.put0
    obtain ⟨w', c4', e, h2⟩ := asked_row S rm hk q days ds _ _ (some (.d (.int d))) (fun d' m => o d' (List.mem_cons_of_mem _ m)) h' (by simp at hl ⊢; omega)
    refine ⟨w', c4', ?_, by simpa [askX] using h2⟩
    rw [← e, List.map_cons, forD]
    show (match sm_law_asked_l1 (kenv P.r days l (some (.d (.int n))) (some (.d (.int d)))) w with
      | .ok (.nx e2) w2 => forD (gNm 4) sm_law_asked_l1 (ds.map PyData.int) e2 w2
      | .ok (.ct e2) w2 => forD (gNm 4) sm_law_asked_l1 (ds.map PyData.int) e2 w2
      | .ok (.bk e2) w2 => .ok (.nx e2) w2
      | .ok (.rt d) w2 => .ok (.rt d) w2
      | .ex c e2 w2 => .ex c e2 w2
      | .bad => .bad) = _
    rw [s]
theorem asked_ok {w : Wd} {P : RP} {R : RM} {D : List Cell} (h : RAt w P R D) (S : Sane R) {k : Nat} (rm : Room R k) (hk : k < 20000) (h2 : R.leases.length = 2) (days : List Int) (o : ∀ d ∈ days, isDay d) (hd : days.length ≤ 100) :
    ∃ l w', f_law_asked [.loc P.r, .d (.list (days.map .int))] w = .ok (.loc l) w' ∧ RAt w' P R ((l, .lst ((askD R days).map .d)) :: D) := by
  obtain ⟨x, y, e⟩ : ∃ x y, R.leases = [x, y] := by
    match q : R.leases, h2 with
    | [x, y], _ => exact ⟨x, y, rfl⟩
  have q0 : R.leases[0]? = some x := by rw [e]; rfl
  have q1 : R.leases[1]? = some y := by rw [e]; rfl
  have n1 := h.new (.lst (([] : List PyData).map .d))
  obtain ⟨w2, c4, f1, n2⟩ := asked_row S rm hk q0 days days _ [] none o n1 (by simp; omega)
  obtain ⟨w3, c4', f2, n3⟩ := asked_row S rm hk q1 days days _ _ c4 o n2 (by simp [askX]; omega)
  refine ⟨w.length, w3, ?_, by
    have : askD R days = [] ++ askX R days x ++ askX R days y := by unfold askD; rw [e]; simp
    rw [this]
    exact n3⟩
  have s1 : sSet 2 (xLstS xNil) [some (.loc P.r), some (.d (.list (days.map .int))), none, none, none] w = .ok (.nx (kenv P.r days w.length none none)) (w ++ [.lst (([] : List PyData).map .d)]) := rfl
  have l2 : ∀ (n : Nat) {c4 c4' : Option DV} {u u' : Wd}, forD (gNm 4) sm_law_asked_l1 (days.map .int) (kenv P.r days w.length (some (.d (.int n))) c4) u = .ok (.nx (kenv P.r days w.length (some (.d (.int n))) c4')) u' → sm_law_asked_l2 (kenv P.r days w.length (some (.d (.int n))) c4) u = .ok (.nx (kenv P.r days w.length (some (.d (.int n))) c4')) u' := fun n {c4 c4' u u'} f => by
    unfold sm_law_asked_l2
    rw [sFor_ap, show (xVar 1) (kenv P.r days w.length (some (.d (.int n))) c4) u = .ok (.d (.list (days.map .int))) u from rfl, st_ok]
    exact f
  have s2 : sForR1 3 (xLit (.int 2)) sm_law_asked_l2 (kenv P.r days w.length none none) (w ++ [.lst (([] : List PyData).map .d)]) = .ok (.nx (kenv P.r days w.length (some (.d (.int (1 : Nat)))) c4')) w3 := by
    have ok1 : okR 2 = true := by decide
    rw [sForR1_ap, xLit_ap, st_ok]
    simp only [ok1, if_true]
    show forD (gNm 3) sm_law_asked_l2 [.int 0, .int 1] (kenv P.r days w.length none none) (w ++ [.lst (([] : List PyData).map .d)]) = _
    rw [forD]
    show (match sm_law_asked_l2 (kenv P.r days w.length (some (.d (.int (0 : Nat)))) none) (w ++ [.lst (([] : List PyData).map .d)]) with
      | .ok (.nx e2) w2 => forD (gNm 3) sm_law_asked_l2 [.int 1] e2 w2
      | .ok (.ct e2) w2 => forD (gNm 3) sm_law_asked_l2 [.int 1] e2 w2
      | .ok (.bk e2) w2 => .ok (.nx e2) w2
      | .ok (.rt d) w2 => .ok (.rt d) w2
      | .ex c e2 w2 => .ex c e2 w2
      | .bad => .bad) = _
    rw [l2 0 f1]
    show forD (gNm 3) sm_law_asked_l2 [.int 1] (kenv P.r days w.length (some (.d (.int (0 : Nat)))) c4) w2 = _
    rw [forD]
    show (match sm_law_asked_l2 (kenv P.r days w.length (some (.d (.int (1 : Nat)))) c4) w2 with
      | .ok (.nx e2) w2 => forD (gNm 3) sm_law_asked_l2 [] e2 w2
      | .ok (.ct e2) w2 => forD (gNm 3) sm_law_asked_l2 [] e2 w2
      | .ok (.bk e2) w2 => .ok (.nx e2) w2
      | .ok (.rt d) w2 => .ok (.rt d) w2
      | .ex c e2 w2 => .ex c e2 w2
      | .bad => .bad) = _
    rw [l2 1 f2]
    rfl
  show finW (sm_law_asked [some (.loc P.r), some (.d (.list (days.map .int))), none, none, none] w) = _
  unfold sm_law_asked
  rw [seq_of s1, seq_of s2, ret_of (show (xVar 2) (kenv P.r days w.length (some (.d (.int (1 : Nat)))) c4') w3 = .ok (.loc w.length) w3 from rfl)]
  rfl
theorem sh_ask (R : RM) (days : List Int) : SeqAt.shaped (.list (askD R days)) = true := (Shp.list (n := 1) fun t ht => by
  obtain ⟨x, hx, ht⟩ := List.mem_flatMap.mp ht
  obtain ⟨d, hd, rfl⟩ := List.mem_map.mp ht
  refine Shp.tuple (n := 0) fun y hy => ?_
  simp only [List.mem_cons, List.not_mem_nil, or_false] at hy
  rcases hy with rfl | rfl <;> exact Shp.int _ _).ok (by decide)
theorem sh_outs (R : RM) : SeqAt.shaped (.list (outs R)) = true := (Shp.list (n := 1) fun t ht => by
  obtain ⟨x, hx, rfl⟩ := List.mem_map.mp ht
  refine Shp.tuple (n := 0) fun y hy => ?_
  simp only [List.mem_cons, List.not_mem_nil, or_false] at hy
  rcases hy with rfl | rfl <;> exact Shp.int _ _).ok (by decide)
end LW

set_option Elab.async false
set_option linter.all false
set_option maxRecDepth 100000
set_option maxHeartbeats 4000000
namespace LW
open PySem PySem.Spec PyProof.Rows L2 RK
abbrev ev (Z : DV) (c1 c2 c3 c4 c5 c6 c7 c8 c9 c10 c11 c12 c13 c14 c15 c16 : Option DV) : En := [some Z, c1, c2, c3, c4, c5, c6, c7, c8, c9, c10, c11, c12, c13, c14, c15, c16]
/-- letters told one behind the other to the roll at r -/
theorem do_loop {s : SM} {env : Option DV → En} {r : Nat} {D : List Cell} {b th : Int} {sh : Option Int}
    (hs : ∀ (L : Lt) (w w' : Wd) (l : Nat), f_law_do [.loc r, .d L.data] w = .ok (.loc l) w' → s (env (some (.d L.data))) w = .ok (.nx (env (some (.d L.data)))) w')
    (hg : ∀ (d : DV) c, (env c).set 8 (some d) = env (some d)) :
    ∀ (Ms : List Lt) (w : Wd) (P : RP) (R : RM) (k : Nat) (Ls : List Lt) (c : Option DV), P.r = r → RAt w P R D → Gd R b Ls sh k th → (∀ L ∈ Ms, L.plain ∧ L.Ok) → k + Ms.length < 10000 →
    ∃ w' P' R' c', forD (gNm 8) s (Ms.map Lt.data) (env c) w = .ok (.nx (env c')) w' ∧ P'.r = r ∧ RAt w' P' R' D ∧ Gd R' b (Ls ++ Ms) sh (k + Ms.length) th
  | [], w, P, R, k, Ls, c, hr, h, g, _, _ => ⟨w, P, R, c, rfl, hr, h, by rw [List.append_nil]; exact g⟩
  | L :: Ms, w, P, R, k, Ls, c, hr, h, g, o, hk => by
    rw [List.length_cons] at hk
    obtain ⟨p, q⟩ := o L (List.mem_cons_self ..)
    obtain ⟨w1, l, P1, a1, a2, a3⟩ := told_go (do_ok h g.S g.rm (by omega) L q) (is_no g.is_ p)
    obtain ⟨w', P', R', c', b1, b2, b3, b4⟩ := do_loop hs hg Ms w1 P1 (R.tell L) (k + 1) (Ls ++ [L]) (some (.d L.data)) (a2.trans hr) a3 (gd_step g p q) (fun M m => o M (List.mem_cons_of_mem _ m)) (by omega)
    rw [hr] at a1
    refine ⟨w', P', R', c', ?_, b2, b3, ?_⟩
    · rw [← b1, List.map_cons, forD, gNm_ap, hg]
      simp only [hs L w w1 l a1]
    · rw [List.append_assoc] at b4
      rw [List.length_cons, show k + (Ms.length + 1) = k + 1 + Ms.length by omega]
      exact b4
theorem take_snoc {α : Type} {xs : List α} {j : Nat} (h : j < xs.length) : xs.take (j + 1) = xs.take j ++ [xs[j]] := by
  rw [List.take_succ, List.getElem?_eq_getElem h]
  rfl
/-- one turn of the other roll's letters -/
theorem l3_body {ns : List Int} {w : Wd} {P : RP} {R : RM} {D : List Cell} {b th : Int} {sh : Option Int} {k : Nat} {Ms : List Lt} {days : List Int} (h : RAt w P R D) {j : Nat} (hj : j < Ms.length) (g : Gd R b (Ms.take j) sh k th) (hk : k < 5000) (o : ∀ L ∈ Ms, L.plain ∧ L.Ok) {d0 : Int} (hd : days[0]? = some d0) (od : isDay d0) (ht : th ≤ d0) (z1 z2 z3 z4 z6 z7 z8 z10 z11 z12 z15 z16 : Option DV) :
    ∃ w' P' R' th', sm_law_l3 (ev (.d (.list (ns.map .int))) z1 z2 z3 z4 (some (.loc P.r)) z6 z7 z8 (some (.d (.list (days.map .int)))) z10 z11 z12 (some (.d (.list (Ms.map Lt.data)))) (some (.d (.int (j : Int)))) z15 z16) w = .ok (.nx (ev (.d (.list (ns.map .int))) z1 z2 z3 z4 (some (.loc P.r)) z6 z7 z8 (some (.d (.list (days.map .int)))) z10 z11 z12 (some (.d (.list (Ms.map Lt.data)))) (some (.d (.int (j : Int)))) z15 z16)) w' ∧ P'.r = P.r ∧ RAt w' P' R' D ∧ Gd R' b (Ms.take (j + 1)) sh (k + 2) th' ∧ th' ≤ d0 := by
  generalize he : ev (.d (.list (ns.map .int))) z1 z2 z3 z4 (some (.loc P.r)) z6 z7 z8 (some (.d (.list (days.map .int)))) z10 z11 z12 (some (.d (.list (Ms.map Lt.data)))) (some (.d (.int (j : Int)))) z15 z16 = e
  have v0 : ∀ w, (xVar 0) e w = .ok (.d (.list (ns.map .int))) w := fun w => by rw [← he]; rfl
  have v5 : ∀ w, (xVar 5) e w = .ok (.loc P.r) w := fun w => by rw [← he]; rfl
  have v9 : ∀ w, (xVar 9) e w = .ok (.d (.list (days.map .int))) w := fun w => by rw [← he]; rfl
  have v13 : ∀ w, (xVar 13) e w = .ok (.d (.list (Ms.map Lt.data))) w := fun w => by rw [← he]; rfl
  have v14 : ∀ w, (xVar 14) e w = .ok (.d (.int (j : Int))) w := fun w => by rw [← he]; rfl
  have t : xBin oEq (xVar 14) (xBin oMod (xCallP f_law_cell_at (xCons (xVar 0) (xCons (xLit (.int 2)) xNil))) (xLit (.int 12))) e w = .ok (.d (.bool (decide ((j : Int) = cell ns 2 % 12)))) w :=
    bin_of (v14 w) (bin_of (callP_of (cons_of (v0 w) (cons_of (xLit_ap _ _ _) (xNil_ap _ _))) rfl (c2 ns)) (xLit_ap _ _ _) (show _ = Rs.ok (DV.d (.int (cell ns 2 % 12))) w by simp)) (oEq_int _ _ _)
  obtain ⟨p, q⟩ := o Ms[j] (List.getElem_mem hj)
  -- the letter itself
  have fin : ∀ {w : Wd} {P' : RP} {R' : RM} {k' : Nat} {th' : Int}, P'.r = P.r → RAt w P' R' D → Gd R' b (Ms.take j) sh k' th' → k' < 9000 → ∃ w' P'' R'', sExp (xCallW f_law_do (xCons (xVar 5) (xCons (xBin oIxL (xVar 13) (xVar 14)) xNil))) e w = .ok (.nx e) w' ∧ P''.r = P.r ∧ RAt w' P'' R'' D ∧ Gd R'' b (Ms.take (j + 1)) sh (k' + 1) th' := by
    intro w P' R' k' th' hr h' g' hk'
    have y : xCallW f_law_do (xCons (xVar 5) (xCons (xBin oIxL (xVar 13) (xVar 14)) xNil)) e w = f_law_do [.loc P'.r, .d Ms[j].data] w := by
      rw [hr]
      refine callW_of (cons_of (v5 w) (cons_of (bin_of (v13 w) (v14 w) (show _ = Rs.ok (DV.d Ms[j].data) w from ?_)) (xNil_ap _ _))) rfl
      rw [oIxL_d, at_lit, List.getElem?_map, List.getElem?_eq_getElem hj]
      rfl
    obtain ⟨w', P'', a, b', c⟩ := go_exp y (do_ok h' g'.S g'.rm (by omega) Ms[j] q) (is_no g'.is_ p)
    refine ⟨w', P'', _, a, b'.trans hr, c, ?_⟩
    rw [take_snoc hj]
    exact gd_step g' p q
  unfold sm_law_l3
  by_cases hc : (j : Int) = cell ns 2 % 12
  · have y : xMeth (PySem.Str.ofString "Roll") (PySem.Str.ofString "bill") f_Roll_bill (xVar 5) (xCons (xBin oIxL (xVar 9) (xLit (.int 0))) xNil) e w = f_Roll_bill [.loc P.r, .d (.int d0)] w := by
      refine methR_of (v5 w) h.o rfl (cons_of (bin_of (v9 w) (xLit_ap _ _ _) (show _ = Rs.ok (DV.d (.int d0)) w from ?_)) (xNil_ap _ _)) rfl
      rw [oIxL_d, at_0, List.getElem?_map, hd]
      rfl
    obtain ⟨w1, P1, a1, a2, a3⟩ := go_exp y (bill_ok h g.S g.rm (by omega) d0 od) (is_no_bill (by rw [g.th]; exact ht))
    obtain ⟨w2, P2, R2, e1, e2, e3, e4⟩ := fin a2 a3 (gd_bill g od) (by omega)
    exact ⟨w2, P2, R2, d0, by rw [seq_of (if_yes t (decide_eq_true hc) a1), e1], e2, e3, e4, Int.le_refl _⟩
  · obtain ⟨w2, P2, R2, e1, e2, e3, e4⟩ := fin rfl h g.up (by omega)
    exact ⟨w2, P2, R2, th, by rw [seq_of (if_no t (decide_eq_false hc)), e1], e2, e3, e4, ht⟩
theorem two_leases {R : RM} {b : Int} {Ls : List Lt} {sh : Option Int} (h : Is b R Ls sh) : R.leases.length = 2 := by
  obtain ⟨⟨x, y, e, _⟩, _⟩ := h
  rw [e]
  rfl
/-- sent and given of both leases -/
theorem outs_lc {w : Wd} {P : RP} {R : RM} {D : List Cell} (h : RAt w P R D) (h2 : R.leases.length = 2) {i : Nat} {e : En} (hi : ∀ d, (xVar i) ((e.set 14 none).set 14 (some d)) w = .ok (.loc P.r) w) (hl : 14 < e.length) :
    xLcR false 14 (xLit (.int 2)) none (xTup (xCons (xMeth (PySem.Str.ofString "Roll") (PySem.Str.ofString "sent") f_Roll_sent (xVar i) (xCons (xVar 14) xNil)) (xCons (xMeth (PySem.Str.ofString "Roll") (PySem.Str.ofString "given") f_Roll_given (xVar i) (xCons (xVar 14) xNil)) xNil))) e w = .ok (.d (.list (outs R))) w := by
  obtain ⟨x, y, q⟩ : ∃ x y, R.leases = [x, y] := by
    match q : R.leases, h2 with
    | [x, y], _ => exact ⟨x, y, rfl⟩
  have q0 : R.leases[0]? = some x := by rw [q]; rfl
  have q1 : R.leases[1]? = some y := by rw [q]; rfl
  have ok1 : okR 2 = true := by decide
  have v14 : ∀ d : PyData, (xVar 14) ((e.set 14 none).set 14 (some (.d d))) w = .ok (.d d) w := fun d => by
    unfold xVar
    rw [List.getElem?_set_self (by rw [List.length_set]; exact hl)]
  have one : ∀ (n : Nat) (x : LM), R.leases[n]? = some x → xTup (xCons (xMeth (PySem.Str.ofString "Roll") (PySem.Str.ofString "sent") f_Roll_sent (xVar i) (xCons (xVar 14) xNil)) (xCons (xMeth (PySem.Str.ofString "Roll") (PySem.Str.ofString "given") f_Roll_given (xVar i) (xCons (xVar 14) xNil)) xNil)) ((e.set 14 none).set 14 (some (.d (.int (n : Int))))) w = .ok (.d (.tuple [.int x.rent, .int x.pledge])) w := fun n x hx => by
    rw [xTup_ap, cons_of (methR_of (hi _) h.o rfl (cons_of (v14 _) (xNil_ap _ _)) (sent_ok h hx)) (cons_of (methR_of (hi _) h.o rfl (cons_of (v14 _) (xNil_ap _ _)) (given_ok h hx)) (xNil_ap _ _)), bind_ok]
    rfl
  have lc := lcRun_map (j := 14) (t := none) (s := xTup (xCons (xMeth (PySem.Str.ofString "Roll") (PySem.Str.ofString "sent") f_Roll_sent (xVar i) (xCons (xVar 14) xNil)) (xCons (xMeth (PySem.Str.ofString "Roll") (PySem.Str.ofString "given") f_Roll_given (xVar i) (xCons (xVar 14) xNil)) xNil))) (e := e) (w := w) (fun p : Nat × LM => PyData.int (p.1 : Int)) (fun _ => true) (fun p => .tuple [.int p.2.rent, .int p.2.pledge]) [(0, x), (1, y)] (fun _ _ => rfl) (fun p hp _ => by
    simp only [List.mem_cons, List.not_mem_nil, or_false] at hp
    rcases hp with rfl | rfl
    · exact one 0 x q0
    · exact one 1 y q1) (by simp)
  rw [xLcR_ap, xLit_ap, bind_ok]
  simp only [ok1, if_true]
  refine Eq.trans (?_ : _ = lcRun false 14 none (xTup (xCons (xMeth (PySem.Str.ofString "Roll") (PySem.Str.ofString "sent") f_Roll_sent (xVar i) (xCons (xVar 14) xNil)) (xCons (xMeth (PySem.Str.ofString "Roll") (PySem.Str.ofString "given") f_Roll_given (xVar i) (xCons (xVar 14) xNil)) xNil))) e ([(0, x), (1, y)].map (fun p : Nat × LM => PyData.int (p.1 : Int))) w) (lc.trans ?_)
  · rfl
  · unfold outs
    rw [q]
    rfl
theorem days_lc {ns : List Int} {b v : Int} (hv : 0 < v) (w : Wd) (c3 c4 c5 c6 c7 c8 c9 c10 c11 c12 c13 c14 c15 c16 : Option DV) :
    xLcR false 14 (xLit (.int 5)) none (xBin oAdd (xVar 1) (xBin oMod (xCallP f_law_mix (xCons (xCallP f_law_cell_at (xCons (xVar 0) (xCons (xLit (.int 2)) xNil))) (xCons (xVar 14) xNil))) (xVar 2))) (ev (.d (.list (ns.map .int))) (some (.d (.int b))) (some (.d (.int v))) c3 c4 c5 c6 c7 c8 c9 c10 c11 c12 c13 c14 c15 c16) w = .ok (.d (.list (((List.range 5).map fun (k : Nat) => b + mix (cell ns 2) k % v).map .int))) w := by
  have ok1 : okR 5 = true := by decide
  have lc := lcRun_map (j := 14) (t := none) (s := xBin oAdd (xVar 1) (xBin oMod (xCallP f_law_mix (xCons (xCallP f_law_cell_at (xCons (xVar 0) (xCons (xLit (.int 2)) xNil))) (xCons (xVar 14) xNil))) (xVar 2))) (e := ev (.d (.list (ns.map .int))) (some (.d (.int b))) (some (.d (.int v))) c3 c4 c5 c6 c7 c8 c9 c10 c11 c12 c13 c14 c15 c16) (w := w) (fun k : Nat => PyData.int (0 + (k : Int))) (fun _ => true) (fun k => .int (b + mix (cell ns 2) (k : Int) % v)) (List.range 5) (fun _ _ => rfl) (fun k hk _ => by
    refine bin_of (show (xVar 1) _ w = .ok (.d (.int b)) w from rfl) (bin_of (callP_of (cons_of (callP_of (cons_of (show (xVar 0) _ w = .ok (.d (.list (ns.map .int))) w from rfl) (cons_of (xLit_ap _ _ _) (xNil_ap _ _))) rfl (c2 ns)) (cons_of (show (xVar 14) _ w = .ok (.d (.int (0 + (k : Int)))) w from rfl) (xNil_ap _ _))) rfl (mix_ok (cell ns 2) (0 + (k : Int)))) (show (xVar 2) _ w = .ok (.d (.int v)) w from rfl) (show _ = Rs.ok (DV.d (.int (mix (cell ns 2) (k : Int) % v))) w by simp [hv])) (oI_ap _ _ _ _ _)) (by decide)
  rw [xLcR_ap, xLit_ap, bind_ok]
  simp only [ok1, if_true]
  refine Eq.trans (?_ : _ = lcRun false 14 none (xBin oAdd (xVar 1) (xBin oMod (xCallP f_law_mix (xCons (xCallP f_law_cell_at (xCons (xVar 0) (xCons (xLit (.int 2)) xNil))) (xCons (xVar 14) xNil))) (xVar 2))) (ev (.d (.list (ns.map .int))) (some (.d (.int b))) (some (.d (.int v))) c3 c4 c5 c6 c7 c8 c9 c10 c11 c12 c13 c14 c15 c16) ((List.range 5).map (fun k : Nat => PyData.int (0 + (k : Int)))) w) (lc.trans ?_)
  · rfl
  · rfl
theorem cut_from {α : Type} (xs : List α) (t : Int) (ht : 0 ≤ t) : cutL xs (some t) none ++ cutL xs none (some t) = xs.drop (min t.toNat xs.length) ++ xs.take (min t.toNat xs.length) := by
  unfold cutL
  have e1 : HT.sIx xs.length 0 (some t) = min t.toNat xs.length := by
    show (if t < 0 then (t + ((xs.length : Nat) : Int)).toNat else min t.toNat xs.length) = _
    rw [if_neg (by omega)]
  have e2 : HT.sIx xs.length xs.length (some t) = min t.toNat xs.length := by
    show (if t < 0 then (t + ((xs.length : Nat) : Int)).toNat else min t.toNat xs.length) = _
    rw [if_neg (by omega)]
  have e3 : HT.sIx xs.length 0 none = 0 := rfl
  have e4 : HT.sIx xs.length xs.length none = xs.length := rfl
  rw [e1, e2, e3, e4, List.drop_zero, Nat.sub_zero]
  congr 1
  exact List.take_of_length_le (by rw [List.length_drop]; omega)
theorem cut_half {α : Type} (xs : List α) (t : Int) (ht : 0 ≤ t) : cutL xs none (some t) = xs.take (min t.toNat xs.length) := by
  unfold cutL
  have e2 : HT.sIx xs.length xs.length (some t) = min t.toNat xs.length := by
    show (if t < 0 then (t + ((xs.length : Nat) : Int)).toNat else min t.toNat xs.length) = _
    rw [if_neg (by omega)]
  have e3 : HT.sIx xs.length 0 none = 0 := rfl
  rw [e2, e3, List.drop_zero, Nat.sub_zero]
end LW

set_option Elab.async false
set_option linter.all false
set_option maxRecDepth 100000
set_option maxHeartbeats 4000000
namespace LW
open PySem PySem.Spec PyProof.Rows L2 RK
/-- a cell of the script -/
theorem cc {ns : List Int} {k : Nat} {r : Int} (h : f_law_cell_at [.list (ns.map .int), .int (k : Int)] = .ok (.int r)) (e : En) (w : Wd) (h0 : (xVar 0) e w = .ok (.d (.list (ns.map .int))) w) : xCallP f_law_cell_at (xCons (xVar 0) (xCons (xLit (.int (k : Int))) xNil)) e w = .ok (.d (.int r)) w := callP_of (cons_of h0 (cons_of (xLit_ap _ _ _) (xNil_ap _ _))) rfl h
theorem mod_of (x y : Int) (h : 0 < y) (w : Wd) : oMod (.d (.int x)) (.d (.int y)) w = .ok (.d (.int (x % y))) w := by simp [h]
theorem div_of (x y : Int) (h : 0 < y ∧ y < 1073741824) (w : Wd) : oDiv (.d (.int x)) (.d (.int y)) w = .ok (.d (.int (x / y))) w := by simp [h]
theorem len_of (ds : List PyData) (e : En) (w : Wd) {x : XM} (h : x e w = .ok (.d (.list ds)) w) : xCall oLen (xCons x xNil) e w = .ok (.d (.int (ds.length : Int))) w := by
  rw [xCall_ap, cons_of h (xNil_ap _ _), bind_ok]
  rfl
theorem cut_of (ds : List PyData) (lo hi : OM) (l h : Option Int) (e : En) (w : Wd) {x : XM} (hx : x e w = .ok (.d (.list ds)) w) (hl : lo e w = .ok l w) (hh : hi e w = .ok h w) : xSlL x lo hi e w = .ok (.d (.list (cutL ds l h))) w := by
  show xSl oSlL x lo hi e w = _
  rw [xSl_ap, hx, bind_ok, hl, bind_ok, hh, bind_ok]
  rfl
theorem po_of {x : XM} {e : En} {w : Wd} {i : Int} (h : x e w = .ok (.d (.int i)) w) : poS x e w = .ok (some i) w := by
  rw [poS_ap, h, bind_ok]
theorem law_true (ns : List Int) (hns : ns.length ≤ 63) : ∃ w, f_law [.d (.list (ns.map .int))] [] = .ok (.d (.bool true)) w := by
  obtain ⟨b0, hb0, eb⟩ := law_base_ok (cell ns 0)
  obtain ⟨b, hb⟩ : ∃ b : Int, (b0 : Int) % 96000 = b := ⟨_, rfl⟩
  obtain ⟨v, hv⟩ : ∃ v : Int, (if cell ns 1 % 6 = 1 then 3000 else 60) = v := ⟨_, rfl⟩
  have v1 : 1 ≤ v := by split at hv <;> omega
  have v2 : v ≤ 3000 := by split at hv <;> omega
  have b1 : 0 ≤ b := by omega
  have b2 : b < 96000 := by omega
  obtain ⟨Ls, l1, u, o, es⟩ := law_some_ok ns hns b v b1 b2 v1 v2
  have v0 : v ≠ 0 := by omega
  have r1 : ∀ x : Int, 0 ≤ x % v := fun x => Int.emod_nonneg x v0
  have r2 : ∀ x : Int, x % v < v := fun x => Int.emod_lt_of_pos x (by omega)
  obtain ⟨s, hs⟩ : ∃ s : Int, b + cell ns 1 / 6 % v = s := ⟨_, rfl⟩
  have os : isDay s := by
    have := r1 (cell ns 1 / 6)
    have := r2 (cell ns 1 / 6)
    exact ⟨by omega, by omega⟩
  obtain ⟨Z, hZ⟩ : ∃ Z : DV, DV.d (.list (ns.map PyData.int)) = Z := ⟨_, rfl⟩
  have z0 : ∀ (c1 c2 c3 c4 c5 c6 c7 c8 c9 c10 c11 c12 c13 c14 c15 c16 : Option DV) (w : Wd), (xVar 0) (ev Z c1 c2 c3 c4 c5 c6 c7 c8 c9 c10 c11 c12 c13 c14 c15 c16) w = .ok (.d (.list (ns.map .int))) w := fun _ _ _ _ _ _ _ _ _ _ _ _ _ _ _ _ _ => by
    subst hZ
    rfl
  have a0 : At [] [] := ⟨fun p h => (by cases h), List.nodup_nil⟩
  obtain ⟨w1, P1, e1, h1⟩ := law_roll_ok a0 b1 b2
  obtain ⟨w2, P2, e2, h2⟩ := law_roll_ok h1.at_ b1 b2
  obtain ⟨w3, P3, e3, h3⟩ := law_roll_ok h2.at_ b1 b2
  have g0 := gd_0 b1 b2
  have s1 : sSet 1 (xBin oMod (xCallP f_law_base (xCons (xCallP f_law_cell_at (xCons (xVar 0) (xCons (xLit (.int 0)) xNil))) xNil)) (xLit (.int 96000))) (ev Z none none none none none none none none none none none none none none none none) [] = .ok (.nx (ev Z (some (.d (.int b))) none none none none none none none none none none none none none none none)) [] := by
    rw [← hb]
    exact set_of (bin_of (callP_of (cons_of (cc (cell_at ns 0) _ _ (z0 ..)) (xNil_ap _ _)) rfl eb) (xLit_ap _ _ _) (mod_of _ _ (by decide) _))
  have s2 : sSet 2 (xLit (.int 60)) (ev Z (some (.d (.int b))) none none none none none none none none none none none none none none none) [] = .ok (.nx (ev Z (some (.d (.int b))) (some (.d (.int 60))) none none none none none none none none none none none none none none)) [] := set_of (xLit_ap _ _ _)
  have t3 : xBin oEq (xBin oMod (xCallP f_law_cell_at (xCons (xVar 0) (xCons (xLit (.int 1)) xNil))) (xLit (.int 6))) (xLit (.int 1)) (ev Z (some (.d (.int b))) (some (.d (.int 60))) none none none none none none none none none none none none none none) [] = .ok (.d (.bool (decide (cell ns 1 % 6 = 1)))) [] := bin_of (bin_of (cc (cell_at ns 1) _ _ (z0 ..)) (xLit_ap _ _ _) (mod_of _ _ (by decide) _)) (xLit_ap _ _ _) (oEq_int _ _ _)
  have s3 : sIf (xBin oEq (xBin oMod (xCallP f_law_cell_at (xCons (xVar 0) (xCons (xLit (.int 1)) xNil))) (xLit (.int 6))) (xLit (.int 1))) (sSet 2 (xLit (.int 3000))) sNil (ev Z (some (.d (.int b))) (some (.d (.int 60))) none none none none none none none none none none none none none none) [] = .ok (.nx (ev Z (some (.d (.int b))) (some (.d (.int v))) none none none none none none none none none none none none none none)) [] := by
    by_cases q : cell ns 1 % 6 = 1
    · rw [if_pos q] at hv
      subst hv
      exact if_yes t3 (decide_eq_true q) (set_of (xLit_ap _ _ _))
    · rw [if_neg q] at hv
      subst hv
      exact if_no t3 (decide_eq_false q)
  have s4 : sSet 3 (xCallP f_law_some (xCons (xVar 0) (xCons (xVar 1) (xCons (xVar 2) xNil)))) (ev Z (some (.d (.int b))) (some (.d (.int v))) none none none none none none none none none none none none none none) [] = .ok (.nx (ev Z (some (.d (.int b))) (some (.d (.int v))) (some (.d (.list (Ls.map Lt.data)))) none none none none none none none none none none none none none)) [] := set_of (callP_of (cons_of (z0 ..) (cons_of (show (xVar 1) _ _ = Rs.ok (DV.d (.int b)) _ from rfl) (cons_of (show (xVar 2) _ _ = Rs.ok (DV.d (.int v)) _ from rfl) (xNil_ap _ _)))) rfl es)
  have s5 : sSet 4 (xCallW f_law_roll (xCons (xVar 1) xNil)) (ev Z (some (.d (.int b))) (some (.d (.int v))) (some (.d (.list (Ls.map Lt.data)))) none none none none none none none none none none none none none) [] = .ok (.nx (ev Z (some (.d (.int b))) (some (.d (.int v))) (some (.d (.list (Ls.map Lt.data)))) (some (.loc P1.r)) none none none none none none none none none none none none)) w1 := set_of (callW_of (cons_of (show (xVar 1) _ _ = Rs.ok (DV.d (.int b)) _ from rfl) (xNil_ap _ _)) e1)
  have s6 : sSet 5 (xCallW f_law_roll (xCons (xVar 1) xNil)) (ev Z (some (.d (.int b))) (some (.d (.int v))) (some (.d (.list (Ls.map Lt.data)))) (some (.loc P1.r)) none none none none none none none none none none none none) w1 = .ok (.nx (ev Z (some (.d (.int b))) (some (.d (.int v))) (some (.d (.list (Ls.map Lt.data)))) (some (.loc P1.r)) (some (.loc P2.r)) none none none none none none none none none none none)) w2 := set_of (callW_of (cons_of (show (xVar 1) _ _ = Rs.ok (DV.d (.int b)) _ from rfl) (xNil_ap _ _)) e2)
  have s7 : sSet 6 (xCallW f_law_roll (xCons (xVar 1) xNil)) (ev Z (some (.d (.int b))) (some (.d (.int v))) (some (.d (.list (Ls.map Lt.data)))) (some (.loc P1.r)) (some (.loc P2.r)) none none none none none none none none none none none) w2 = .ok (.nx (ev Z (some (.d (.int b))) (some (.d (.int v))) (some (.d (.list (Ls.map Lt.data)))) (some (.loc P1.r)) (some (.loc P2.r)) (some (.loc P3.r)) none none none none none none none none none none)) w3 := set_of (callW_of (cons_of (show (xVar 1) _ _ = Rs.ok (DV.d (.int b)) _ from rfl) (xNil_ap _ _)) e3)
  have s8 : sSet 7 (xBin oAdd (xVar 1) (xBin oMod (xBin oDiv (xCallP f_law_cell_at (xCons (xVar 0) (xCons (xLit (.int 1)) xNil))) (xLit (.int 6))) (xVar 2))) (ev Z (some (.d (.int b))) (some (.d (.int v))) (some (.d (.list (Ls.map Lt.data)))) (some (.loc P1.r)) (some (.loc P2.r)) (some (.loc P3.r)) none none none none none none none none none none) w3 = .ok (.nx (ev Z (some (.d (.int b))) (some (.d (.int v))) (some (.d (.list (Ls.map Lt.data)))) (some (.loc P1.r)) (some (.loc P2.r)) (some (.loc P3.r)) (some (.d (.int s))) none none none none none none none none none)) w3 := by
    rw [← hs]
    exact set_of (bin_of (show (xVar 1) _ _ = Rs.ok (DV.d (.int b)) _ from rfl) (bin_of (bin_of (cc (cell_at ns 1) _ _ (z0 ..)) (xLit_ap _ _ _) (div_of _ _ (by decide) _)) (show (xVar 2) _ _ = Rs.ok (DV.d (.int v)) _ from rfl) (mod_of _ _ (by omega) _)) (oI_ap _ _ _ _ _))
  have h4 := swapAB [] h3 h2.len
  have m4 : Told w3 P2 (R0 b) _ (.close 0 s) _ := close_ok h4 g0.S g0.rm (by decide) 0 s os
  have y4 : xMeth (PySem.Str.ofString "Roll") (PySem.Str.ofString "close") f_Roll_close (xVar 5) (xCons (xLit (.int 0)) (xCons (xVar 7) xNil)) (ev Z (some (.d (.int b))) (some (.d (.int v))) (some (.d (.list (Ls.map Lt.data)))) (some (.loc P1.r)) (some (.loc P2.r)) (some (.loc P3.r)) (some (.d (.int s))) none none none none none none none none none) w3 = f_Roll_close [.loc P2.r, .d (.int ((0 : Nat) : Int)), .d (.int s)] w3 := methR_of (show (xVar 5) _ _ = Rs.ok (DV.loc P2.r) _ from rfl) h4.o rfl (cons_of (xLit_ap _ _ _) (cons_of (show (xVar 7) _ _ = Rs.ok (DV.d (.int s)) _ from rfl) (xNil_ap _ _))) rfl
  obtain ⟨w4, P2', s9, p2', h5⟩ := go_exp y4 m4 (is_no_close g0.is_ s)
  have g2 := gd_close g0 os
  have h6 := swapAB (rollC P3 (R0 b)) h5 h1.len
  obtain ⟨w5, P1', R1, c8, f1, p1', h7, g1⟩ := do_loop (s := sm_law_l1) (env := fun c => (ev Z (some (.d (.int b))) (some (.d (.int v))) (some (.d (.list (Ls.map Lt.data)))) (some (.loc P1.r)) (some (.loc P2.r)) (some (.loc P3.r)) (some (.d (.int s))) c none none none none none none none none)) (r := P1.r) (fun L w w' l h => exp_of (callW_of (cons_of (show (xVar 4) _ _ = Rs.ok (DV.loc P1.r) _ from rfl) (cons_of (show (xVar 8) _ _ = Rs.ok (DV.d (L.data)) _ from rfl) (xNil_ap _ _))) h)) (fun d c => rfl) Ls w4 P1 (R0 b) 2 [] none rfl h6 g0 o (by omega)
  rw [List.nil_append] at g1
  have s10 : sFor (gNm 8) (xVar 3) sm_law_l1 (ev Z (some (.d (.int b))) (some (.d (.int v))) (some (.d (.list (Ls.map Lt.data)))) (some (.loc P1.r)) (some (.loc P2.r)) (some (.loc P3.r)) (some (.d (.int s))) none none none none none none none none none) w4 = .ok (.nx (ev Z (some (.d (.int b))) (some (.d (.int v))) (some (.d (.list (Ls.map Lt.data)))) (some (.loc P1.r)) (some (.loc P2.r)) (some (.loc P3.r)) (some (.d (.int s))) (c8) none none none none none none none none)) w5 := by
    rw [sFor_ap, show (xVar 3) _ w4 = Rs.ok (DV.d (.list (Ls.map Lt.data))) w4 from rfl, st_ok]
    exact f1
  obtain ⟨days, hdays⟩ : ∃ days : List Int, ((List.range 5).map fun (k : Nat) => b + mix (cell ns 2) k % v) = days := ⟨_, rfl⟩
  have od : ∀ d ∈ days, isDay d := by
    intro d hd
    rw [← hdays] at hd
    obtain ⟨k, _, rfl⟩ := List.mem_map.mp hd
    have := r1 (mix (cell ns 2) k)
    have := r2 (mix (cell ns 2) k)
    exact ⟨by omega, by omega⟩
  have ld : days.length = 5 := by rw [← hdays]; rfl
  obtain ⟨d0, hd0⟩ : ∃ d0, days[0]? = some d0 := ⟨_, List.getElem?_eq_getElem (by omega)⟩
  have od0 := od d0 (List.mem_of_getElem? hd0)
  have s11 : sSet 9 (xLcR false 14 (xLit (.int 5)) none (xBin oAdd (xVar 1) (xBin oMod (xCallP f_law_mix (xCons (xCallP f_law_cell_at (xCons (xVar 0) (xCons (xLit (.int 2)) xNil))) (xCons (xVar 14) xNil))) (xVar 2)))) (ev Z (some (.d (.int b))) (some (.d (.int v))) (some (.d (.list (Ls.map Lt.data)))) (some (.loc P1.r)) (some (.loc P2.r)) (some (.loc P3.r)) (some (.d (.int s))) (c8) none none none none none none none none) w5 = .ok (.nx (ev Z (some (.d (.int b))) (some (.d (.int v))) (some (.d (.list (Ls.map Lt.data)))) (some (.loc P1.r)) (some (.loc P2.r)) (some (.loc P3.r)) (some (.d (.int s))) (c8) (some (.d (.list (days.map .int)))) none none none none none none none)) w5 := by
    subst hZ
    rw [← hdays]
    exact set_of (days_lc (by omega) w5 _ _ _ _ _ _ _ _ _ _ _ _ _ _)
  have h8 := swapAB [] h7 h3.len
  have s12 : sSet 10 (xMeth0 (PySem.Str.ofString "Roll") (PySem.Str.ofString "many") f_Roll_many (xVar 6)) (ev Z (some (.d (.int b))) (some (.d (.int v))) (some (.d (.list (Ls.map Lt.data)))) (some (.loc P1.r)) (some (.loc P2.r)) (some (.loc P3.r)) (some (.d (.int s))) (c8) (some (.d (.list (days.map .int)))) none none none none none none none) w5 = .ok (.nx (ev Z (some (.d (.int b))) (some (.d (.int v))) (some (.d (.list (Ls.map Lt.data)))) (some (.loc P1.r)) (some (.loc P2.r)) (some (.loc P3.r)) (some (.d (.int s))) (c8) (some (.d (.list (days.map .int)))) (some (.d (.int 2))) none none none none none none)) w5 := set_of (methR_of (show (xVar 6) _ _ = Rs.ok (DV.loc P3.r) _ from rfl) h8.o rfl (xNil_ap _ _) (many_ok h8))
  obtain ⟨Hs, hHs⟩ : ∃ Hs, Ls.take (min ((Ls.length : Int) / 2).toNat Ls.length) = Hs := ⟨_, rfl⟩
  have oH : ∀ L ∈ Hs, L.plain ∧ L.Ok := fun L hL => o L (List.mem_of_mem_take (hHs ▸ hL))
  have lH : Hs.length ≤ 12 := by
    rw [← hHs, List.length_take]
    omega
  obtain ⟨w6, P3', R3, d8, f3, p3', h9, g3⟩ := do_loop (s := sm_law_l2) (env := fun c => (ev Z (some (.d (.int b))) (some (.d (.int v))) (some (.d (.list (Ls.map Lt.data)))) (some (.loc P1.r)) (some (.loc P2.r)) (some (.loc P3.r)) (some (.d (.int s))) c (some (.d (.list (days.map .int)))) (some (.d (.int 2))) none none none none none none)) (r := P3.r) (fun L w w' l h => exp_of (callW_of (cons_of (show (xVar 6) _ _ = Rs.ok (DV.loc P3.r) _ from rfl) (cons_of (show (xVar 8) _ _ = Rs.ok (DV.d (L.data)) _ from rfl) (xNil_ap _ _))) h)) (fun d c => rfl) Hs w5 P3 (R0 b) 2 [] c8 rfl h8 g0 oH (by omega)
  have s13 : sFor (gNm 8) (xSlL (xVar 3) poN (poS (xBin oDiv (xCall oLen (xCons (xVar 3) xNil)) (xLit (.int 2))))) sm_law_l2 (ev Z (some (.d (.int b))) (some (.d (.int v))) (some (.d (.list (Ls.map Lt.data)))) (some (.loc P1.r)) (some (.loc P2.r)) (some (.loc P3.r)) (some (.d (.int s))) (c8) (some (.d (.list (days.map .int)))) (some (.d (.int 2))) none none none none none none) w5 = .ok (.nx (ev Z (some (.d (.int b))) (some (.d (.int v))) (some (.d (.list (Ls.map Lt.data)))) (some (.loc P1.r)) (some (.loc P2.r)) (some (.loc P3.r)) (some (.d (.int s))) (d8) (some (.d (.list (days.map .int)))) (some (.d (.int 2))) none none none none none none)) w6 := by
    have hl : ((Ls.map Lt.data).length : Int) = (Ls.length : Int) := by rw [List.length_map]
    have cut : xSlL (xVar 3) poN (poS (xBin oDiv (xCall oLen (xCons (xVar 3) xNil)) (xLit (.int 2)))) (ev Z (some (.d (.int b))) (some (.d (.int v))) (some (.d (.list (Ls.map Lt.data)))) (some (.loc P1.r)) (some (.loc P2.r)) (some (.loc P3.r)) (some (.d (.int s))) (c8) (some (.d (.list (days.map .int)))) (some (.d (.int 2))) none none none none none none) w5 = .ok (.d (.list (Hs.map Lt.data))) w5 := by
      rw [cut_of (Ls.map Lt.data) _ _ _ _ _ _ (show (xVar 3) _ _ = Rs.ok (DV.d (.list (Ls.map Lt.data))) _ from rfl) (poN_ap _ _) (po_of (bin_of (len_of (Ls.map Lt.data) _ _ (show (xVar 3) _ _ = Rs.ok (DV.d (.list (Ls.map Lt.data))) _ from rfl)) (xLit_ap _ _ _) (div_of _ _ (by decide) _))), hl, cut_map, cut_half _ _ (by omega), hHs]
    rw [sFor_ap, cut, st_ok]
    exact f3
  obtain ⟨lk, w7, ak, h10⟩ := asked_ok h9 g3.S g3.rm (by omega) (two_leases g3.is_) days od (by omega)
  rw [p3'] at ak
  have s14 : sSet 11 (xCallW f_law_asked (xCons (xVar 6) (xCons (xVar 9) xNil))) (ev Z (some (.d (.int b))) (some (.d (.int v))) (some (.d (.list (Ls.map Lt.data)))) (some (.loc P1.r)) (some (.loc P2.r)) (some (.loc P3.r)) (some (.d (.int s))) (d8) (some (.d (.list (days.map .int)))) (some (.d (.int 2))) none none none none none none) w6 = .ok (.nx (ev Z (some (.d (.int b))) (some (.d (.int v))) (some (.d (.list (Ls.map Lt.data)))) (some (.loc P1.r)) (some (.loc P2.r)) (some (.loc P3.r)) (some (.d (.int s))) (d8) (some (.d (.list (days.map .int)))) (some (.d (.int 2))) (some (.loc lk)) none none none none none)) w7 := set_of (callW_of (cons_of (show (xVar 6) _ _ = Rs.ok (DV.loc P3.r) _ from rfl) (cons_of (show (xVar 9) _ _ = Rs.ok (DV.d (.list (days.map .int))) _ from rfl) (xNil_ap _ _))) ak)
  obtain ⟨t, ht⟩ : ∃ t : Int, 1 + cell ns 1 / 60 % (if (Ls.length : Int) > 1 then (Ls.length : Int) else 1) = t := ⟨_, rfl⟩
  have mx : (if (Ls.length : Int) > 1 then (Ls.length : Int) else 1) ≠ 0 := by split <;> omega
  have ht0 : 0 ≤ t := by
    have := Int.emod_nonneg (cell ns 1 / 60) mx
    omega
  have s15 : sSet 12 (xBin oAdd (xLit (.int 1)) (xBin oMod (xBin oDiv (xCallP f_law_cell_at (xCons (xVar 0) (xCons (xLit (.int 1)) xNil))) (xLit (.int 60))) (xCall oMax2 (xCons (xLit (.int 1)) (xCons (xCall oLen (xCons (xVar 3) xNil)) xNil))))) (ev Z (some (.d (.int b))) (some (.d (.int v))) (some (.d (.list (Ls.map Lt.data)))) (some (.loc P1.r)) (some (.loc P2.r)) (some (.loc P3.r)) (some (.d (.int s))) (d8) (some (.d (.list (days.map .int)))) (some (.d (.int 2))) (some (.loc lk)) none none none none none) w7 = .ok (.nx (ev Z (some (.d (.int b))) (some (.d (.int v))) (some (.d (.list (Ls.map Lt.data)))) (some (.loc P1.r)) (some (.loc P2.r)) (some (.loc P3.r)) (some (.d (.int s))) (d8) (some (.d (.list (days.map .int)))) (some (.d (.int 2))) (some (.loc lk)) (some (.d (.int t))) none none none none)) w7 := by
    rw [← ht]
    have ml : xCall oMax2 (xCons (xLit (.int 1)) (xCons (xCall oLen (xCons (xVar 3) xNil)) xNil)) (ev Z (some (.d (.int b))) (some (.d (.int v))) (some (.d (.list (Ls.map Lt.data)))) (some (.loc P1.r)) (some (.loc P2.r)) (some (.loc P3.r)) (some (.d (.int s))) (d8) (some (.d (.list (days.map .int)))) (some (.d (.int 2))) (some (.loc lk)) none none none none none) w7 = .ok (.d (.int (if (Ls.length : Int) > 1 then (Ls.length : Int) else 1))) w7 := by
      rw [xCall_ap, cons_of (xLit_ap _ _ _) (cons_of (len_of (Ls.map Lt.data) _ _ (show (xVar 3) _ _ = Rs.ok (DV.d (.list (Ls.map Lt.data))) _ from rfl)) (xNil_ap _ _)), bind_ok, oMax2_ap, List.length_map]
    exact set_of (bin_of (xLit_ap _ _ _) (bin_of (bin_of (cc (cell_at ns 1) _ _ (z0 ..)) (xLit_ap _ _ _) (div_of _ _ (by decide) _)) ml (mod_of _ _ (by split <;> omega) _)) (oI_ap _ _ _ _ _))
  obtain ⟨Ks, hKs⟩ : ∃ Ks, Ls.drop (min t.toNat Ls.length) ++ Ls.take (min t.toNat Ls.length) = Ks := ⟨_, rfl⟩
  have pK : Ls.Perm Ks := by
    rw [← hKs]
    exact (List.perm_append_comm.trans (by rw [List.take_append_drop])).symm
  have s16 : sSet 13 (xBin oCat (xSlL (xVar 3) (poS (xVar 12)) poN) (xSlL (xVar 3) poN (poS (xVar 12)))) (ev Z (some (.d (.int b))) (some (.d (.int v))) (some (.d (.list (Ls.map Lt.data)))) (some (.loc P1.r)) (some (.loc P2.r)) (some (.loc P3.r)) (some (.d (.int s))) (d8) (some (.d (.list (days.map .int)))) (some (.d (.int 2))) (some (.loc lk)) (some (.d (.int t))) none none none none) w7 = .ok (.nx (ev Z (some (.d (.int b))) (some (.d (.int v))) (some (.d (.list (Ls.map Lt.data)))) (some (.loc P1.r)) (some (.loc P2.r)) (some (.loc P3.r)) (some (.d (.int s))) (d8) (some (.d (.list (days.map .int)))) (some (.d (.int 2))) (some (.loc lk)) (some (.d (.int t))) (some (.d (.list (Ks.map Lt.data)))) none none none)) w7 := by
    have c1 := cut_of (Ls.map Lt.data) (poS (xVar 12)) poN (some t) none (ev Z (some (.d (.int b))) (some (.d (.int v))) (some (.d (.list (Ls.map Lt.data)))) (some (.loc P1.r)) (some (.loc P2.r)) (some (.loc P3.r)) (some (.d (.int s))) (d8) (some (.d (.list (days.map .int)))) (some (.d (.int 2))) (some (.loc lk)) (some (.d (.int t))) none none none none) w7 (show (xVar 3) _ _ = Rs.ok (DV.d (.list (Ls.map Lt.data))) _ from rfl) (po_of (show (xVar 12) _ _ = Rs.ok (DV.d (.int t)) _ from rfl)) (poN_ap _ _)
    have c2 := cut_of (Ls.map Lt.data) poN (poS (xVar 12)) none (some t) (ev Z (some (.d (.int b))) (some (.d (.int v))) (some (.d (.list (Ls.map Lt.data)))) (some (.loc P1.r)) (some (.loc P2.r)) (some (.loc P3.r)) (some (.d (.int s))) (d8) (some (.d (.list (days.map .int)))) (some (.d (.int 2))) (some (.loc lk)) (some (.d (.int t))) none none none none) w7 (show (xVar 3) _ _ = Rs.ok (DV.d (.list (Ls.map Lt.data))) _ from rfl) (poN_ap _ _) (po_of (show (xVar 12) _ _ = Rs.ok (DV.d (.int t)) _ from rfl))
    refine set_of (bin_of c1 c2 ?_)
    rw [cut_map, cut_map]
    unfold oCat
    show (if ((cutL Ls (some t) none).map Lt.data).length + ((cutL Ls none (some t)).map Lt.data).length ≤ 100000 then Rs.ok (DV.d (.list ((cutL Ls (some t) none).map Lt.data ++ (cutL Ls none (some t)).map Lt.data))) w7 else .bad) = _
    have e := cut_from Ls t ht0
    have l := congrArg List.length e
    rw [hKs, List.length_append] at l
    have l2 := pK.length_eq
    rw [if_pos (by rw [List.length_map, List.length_map]; omega), ← List.map_append, e, hKs]
  obtain ⟨Ms, hMs⟩ : ∃ Ms, (if cell ns 1 % 2 = 1 then Ks.reverse else Ks) = Ms := ⟨_, rfl⟩
  have pM : Ls.Perm Ms := by
    rw [← hMs]
    split
    · exact pK.trans (List.reverse_perm _).symm
    · exact pK
  have lM : Ms.length = Ls.length := pM.length_eq.symm
  have oM : ∀ L ∈ Ms, L.plain ∧ L.Ok := fun L hL => o L (pM.mem_iff.mpr hL)
  have t17 : xBin oEq (xBin oMod (xCallP f_law_cell_at (xCons (xVar 0) (xCons (xLit (.int 1)) xNil))) (xLit (.int 2))) (xLit (.int 1)) (ev Z (some (.d (.int b))) (some (.d (.int v))) (some (.d (.list (Ls.map Lt.data)))) (some (.loc P1.r)) (some (.loc P2.r)) (some (.loc P3.r)) (some (.d (.int s))) (d8) (some (.d (.list (days.map .int)))) (some (.d (.int 2))) (some (.loc lk)) (some (.d (.int t))) (some (.d (.list (Ks.map Lt.data)))) none none none) w7 = .ok (.d (.bool (decide (cell ns 1 % 2 = 1)))) w7 := bin_of (bin_of (cc (cell_at ns 1) _ _ (z0 ..)) (xLit_ap _ _ _) (mod_of _ _ (by decide) _)) (xLit_ap _ _ _) (oEq_int _ _ _)
  have s17 : sIf (xBin oEq (xBin oMod (xCallP f_law_cell_at (xCons (xVar 0) (xCons (xLit (.int 1)) xNil))) (xLit (.int 2))) (xLit (.int 1))) (sSet 13 (xRevL (xVar 13))) sNil (ev Z (some (.d (.int b))) (some (.d (.int v))) (some (.d (.list (Ls.map Lt.data)))) (some (.loc P1.r)) (some (.loc P2.r)) (some (.loc P3.r)) (some (.d (.int s))) (d8) (some (.d (.list (days.map .int)))) (some (.d (.int 2))) (some (.loc lk)) (some (.d (.int t))) (some (.d (.list (Ks.map Lt.data)))) none none none) w7 = .ok (.nx (ev Z (some (.d (.int b))) (some (.d (.int v))) (some (.d (.list (Ls.map Lt.data)))) (some (.loc P1.r)) (some (.loc P2.r)) (some (.loc P3.r)) (some (.d (.int s))) (d8) (some (.d (.list (days.map .int)))) (some (.d (.int 2))) (some (.loc lk)) (some (.d (.int t))) (some (.d (.list (Ms.map Lt.data)))) none none none)) w7 := by
    by_cases q : cell ns 1 % 2 = 1
    · rw [if_pos q] at hMs
      subst hMs
      refine if_yes t17 (decide_eq_true q) (set_of ?_)
      unfold xRevL
      rw [show (xVar 13) _ w7 = Rs.ok (DV.d (.list (Ks.map Lt.data))) w7 from rfl, bind_ok, List.map_reverse]
      rfl
    · rw [if_neg q] at hMs
      subst hMs
      exact if_no t17 (decide_eq_false q)
  have h11 := swapAB ((lk, AO.lst ((askD R3 days).map .d)) :: rollC P1' R1) h10 h5.len
  generalize hD : ((lk, AO.lst ((askD R3 days).map .d)) :: rollC P1' R1) ++ (rollC P3' R3 ++ []) = D at h11
  have hn : (-1 : Int) ≤ d0 := by have := od0.1; omega
  obtain ⟨a, ⟨q1, q2, th, q3, q4⟩, f4⟩ := forR0_ex (g := gNm 14) (s := sm_law_l3) (fun a : Wd × RP × RM × Option DV => (fun c14 => (ev Z (some (.d (.int b))) (some (.d (.int v))) (some (.d (.list (Ls.map Lt.data)))) (some (.loc P1.r)) (some (.loc P2.r)) (some (.loc P3.r)) (some (.d (.int s))) (d8) (some (.d (.list (days.map .int)))) (some (.d (.int 2))) (some (.loc lk)) (some (.d (.int t))) (some (.d (.list (Ms.map Lt.data)))) c14 none none)) a.2.2.2) (fun a => a.1) (fun j a => RAt a.1 a.2.1 a.2.2.1 D ∧ a.2.1.r = P2.r ∧ ∃ th, Gd a.2.2.1 b (Ms.take j) (some s) (3 + 2 * j) th ∧ th ≤ d0) Ms.length (w7, P2', _, none) ⟨h11, p2', -1, by rw [List.take_zero]; exact g2, hn⟩ (by
    rintro ⟨w, P, R, c⟩ j hj ⟨q1, q2, th, q3, q4⟩
    simp only at q1 q2 q3
    obtain ⟨w', P', R', th', x1, x2, x3, x4, x5⟩ := l3_body (ns := ns) (days := days) q1 hj q3 (by omega) oM hd0 od0 q4 (some (.d (.int b))) (some (.d (.int v))) (some (.d (.list (Ls.map Lt.data)))) (some (.loc P1.r)) (some (.loc P3.r)) (some (.d (.int s))) d8 (some (.d (.int 2))) (some (.loc lk)) (some (.d (.int t))) none none
    rw [hZ, q2] at x1
    exact ⟨_, (w', P', R', some (.d (.int (j : Int)))), rfl, .inl x1, x3, x2.trans q2, th', by rw [show 3 + 2 * (j + 1) = 3 + 2 * j + 2 by omega]; exact x4, x5⟩)
  obtain ⟨w8, P2a, R2a, j14⟩ := a
  simp only at q1 q2 q3 f4
  rw [List.take_length] at q3
  have s18 : sForR1 14 (xCall oLen (xCons (xVar 13) xNil)) sm_law_l3 (ev Z (some (.d (.int b))) (some (.d (.int v))) (some (.d (.list (Ls.map Lt.data)))) (some (.loc P1.r)) (some (.loc P2.r)) (some (.loc P3.r)) (some (.d (.int s))) (d8) (some (.d (.list (days.map .int)))) (some (.d (.int 2))) (some (.loc lk)) (some (.d (.int t))) (some (.d (.list (Ms.map Lt.data)))) none none none) w7 = .ok (.nx (ev Z (some (.d (.int b))) (some (.d (.int v))) (some (.d (.list (Ls.map Lt.data)))) (some (.loc P1.r)) (some (.loc P2.r)) (some (.loc P3.r)) (some (.d (.int s))) (d8) (some (.d (.list (days.map .int)))) (some (.d (.int 2))) (some (.loc lk)) (some (.d (.int t))) (some (.d (.list (Ms.map Lt.data)))) (j14) none none)) w8 := by
    rw [sForR1_ap, len_of (Ms.map Lt.data) _ _ (show (xVar 13) _ _ = Rs.ok (DV.d (.list (Ms.map Lt.data))) _ from rfl), st_ok]
    have ok1 := ok_r (Ms.length : Int) (by omega) (by omega)
    simp only [List.length_map, ok1, if_true, Int.toNat_natCast]
    exact f4
  obtain ⟨m, hm⟩ : ∃ m, maxI days = m := ⟨_, rfl⟩
  have om : isDay m := by rw [← hm]; exact od _ (maxI_mem (by omega))
  have d0m : d0 ≤ m := by rw [← hm]; exact maxI_le (List.mem_of_getElem? hd0)
  have s19 : sSet 15 (xCall oMaxL (xCons (xVar 9) xNil)) (ev Z (some (.d (.int b))) (some (.d (.int v))) (some (.d (.list (Ls.map Lt.data)))) (some (.loc P1.r)) (some (.loc P2.r)) (some (.loc P3.r)) (some (.d (.int s))) (d8) (some (.d (.list (days.map .int)))) (some (.d (.int 2))) (some (.loc lk)) (some (.d (.int t))) (some (.d (.list (Ms.map Lt.data)))) (j14) none none) w8 = .ok (.nx (ev Z (some (.d (.int b))) (some (.d (.int v))) (some (.d (.list (Ls.map Lt.data)))) (some (.loc P1.r)) (some (.loc P2.r)) (some (.loc P3.r)) (some (.d (.int s))) (d8) (some (.d (.list (days.map .int)))) (some (.d (.int 2))) (some (.loc lk)) (some (.d (.int t))) (some (.d (.list (Ms.map Lt.data)))) (j14) (some (.d (.int m))) none)) w8 := by
    refine set_of ?_
    rw [xCall_ap, cons_of (show (xVar 9) _ _ = Rs.ok (DV.d (.list (days.map .int))) _ from rfl) (xNil_ap _ _), bind_ok, ← hm]
    show (match intsOf (days.map .int) with | some ns => if 0 < ns.length then Rs.ok (DV.d (.int (maxI ns))) w8 else .bad | none => .bad) = _
    rw [intsOf_map]
    simp only
    rw [if_pos (by omega)]
  subst hD
  generalize hk : ((lk, AO.lst ((askD R3 days).map .d)) : Cell) = kc at q1
  have h12 := swapAB [kc] (show RAt w8 P2a R2a ([kc] ++ (rollC P1' R1 ++ (rollC P3' R3 ++ []))) from q1) h7.len
  have y20 : xMeth (PySem.Str.ofString "Roll") (PySem.Str.ofString "bill") f_Roll_bill (xVar 4) (xCons (xVar 15) xNil) (ev Z (some (.d (.int b))) (some (.d (.int v))) (some (.d (.list (Ls.map Lt.data)))) (some (.loc P1.r)) (some (.loc P2.r)) (some (.loc P3.r)) (some (.d (.int s))) (d8) (some (.d (.list (days.map .int)))) (some (.d (.int 2))) (some (.loc lk)) (some (.d (.int t))) (some (.d (.list (Ms.map Lt.data)))) (j14) (some (.d (.int m))) none) w8 = f_Roll_bill [.loc P1'.r, .d (.int m)] w8 := by
    rw [p1']
    exact methR_of (show (xVar 4) _ _ = Rs.ok (DV.loc P1.r) _ from rfl) (p1' ▸ h12.o) rfl (cons_of (show (xVar 15) _ _ = Rs.ok (DV.d (.int m)) _ from rfl) (xNil_ap _ _)) rfl
  obtain ⟨w9, P1b, s20, p1b, h13⟩ := go_exp y20 (bill_ok h12 g1.S g1.rm (by omega) m om) (is_no_bill (by rw [g1.th]; have := om.1; omega))
  have g1b := gd_bill g1 om
  have h14 := swapAB [kc] h13 q1.len
  have y21 : xMeth (PySem.Str.ofString "Roll") (PySem.Str.ofString "bill") f_Roll_bill (xVar 5) (xCons (xVar 15) xNil) (ev Z (some (.d (.int b))) (some (.d (.int v))) (some (.d (.list (Ls.map Lt.data)))) (some (.loc P1.r)) (some (.loc P2.r)) (some (.loc P3.r)) (some (.d (.int s))) (d8) (some (.d (.list (days.map .int)))) (some (.d (.int 2))) (some (.loc lk)) (some (.d (.int t))) (some (.d (.list (Ms.map Lt.data)))) (j14) (some (.d (.int m))) none) w9 = f_Roll_bill [.loc P2a.r, .d (.int m)] w9 := by
    rw [q2]
    exact methR_of (show (xVar 5) _ _ = Rs.ok (DV.loc P2.r) _ from rfl) (q2 ▸ h14.o) rfl (cons_of (show (xVar 15) _ _ = Rs.ok (DV.d (.int m)) _ from rfl) (xNil_ap _ _)) rfl
  obtain ⟨w10, P2f, s21, p2f, h15⟩ := go_exp y21 (bill_ok h14 q3.S q3.rm (by omega) m om) (is_no_bill (by rw [q3.th]; omega))
  have g2f := gd_bill q3 om
  have h16 := swapAB [kc] h15 h13.len
  have y22 : xMeth (PySem.Str.ofString "Roll") (PySem.Str.ofString "close") f_Roll_close (xVar 4) (xCons (xLit (.int 0)) (xCons (xVar 7) xNil)) (ev Z (some (.d (.int b))) (some (.d (.int v))) (some (.d (.list (Ls.map Lt.data)))) (some (.loc P1.r)) (some (.loc P2.r)) (some (.loc P3.r)) (some (.d (.int s))) (d8) (some (.d (.list (days.map .int)))) (some (.d (.int 2))) (some (.loc lk)) (some (.d (.int t))) (some (.d (.list (Ms.map Lt.data)))) (j14) (some (.d (.int m))) none) w10 = f_Roll_close [.loc P1b.r, .d (.int ((0 : Nat) : Int)), .d (.int s)] w10 := by
    rw [p1b, p1']
    exact methR_of (show (xVar 4) _ _ = Rs.ok (DV.loc P1.r) _ from rfl) ((p1b.trans p1') ▸ h16.o) rfl (cons_of (xLit_ap _ _ _) (cons_of (show (xVar 7) _ _ = Rs.ok (DV.d (.int s)) _ from rfl) (xNil_ap _ _))) rfl
  obtain ⟨w11, P1f, s22, p1f, h17⟩ := go_exp y22 (close_ok h16 g1b.S g1b.rm (by omega) 0 s os) (is_no_close g1b.is_ s)
  have g1f := gd_close g1b os
  have r1f : P1f.r = P1.r := p1f.trans (p1b.trans p1')
  have r2f : P2f.r = P2.r := p2f.trans q2
  generalize hR1 : ((R1.tell (.bill m)).tell (.close 0 s)) = R1f at h17 g1f
  generalize hR2 : R2a.tell (.bill m) = R2f at h15 h16 h17 g2f
  have bth := both_of g1f.is_ g2f.is_ pM u
  have ask := ask_same bth days
  have ots := outs_same bth g1f.dn g2f.dn (g1f.th.trans g2f.th.symm)
  -- what is asked at last
  obtain ⟨k1, w12, x1, h18⟩ := asked_ok h17 g1f.S g1f.rm (by omega) (two_leases g1f.is_) days od (by omega)
  have h19 := swapAB ((k1, AO.lst ((askD R1f days).map .d)) :: [kc]) h18 h15.len
  obtain ⟨k2, w13, x2, h20⟩ := asked_ok h19 g2f.S g2f.rm (by omega) (two_leases g2f.is_) days od (by omega)
  have h21 := swapAB ((k2, AO.lst ((askD R2f days).map .d)) :: ((k1, AO.lst ((askD R1f days).map .d)) :: kc :: rollC P1f R1f)) h20 h9.len
  obtain ⟨k3, w14, x3, h22⟩ := asked_ok h21 g3.S g3.rm (by omega) (two_leases g3.is_) days od (by omega)
  rw [r1f] at x1
  rw [r2f] at x2
  rw [p3'] at x3
  have c1 := toD_at (h20.get (List.mem_cons_of_mem _ (List.mem_cons_self ..)))
  have c2 := toD_at (h20.get (List.mem_cons_self ..))
  have c3 := toD_at (h22.get (List.mem_cons_self ..))
  have c4 := toD_at (h22.get (c := (lk, AO.lst ((askD R3 days).map .d))) (by rw [hk]; simp))
  rw [ask] at c1
  have n1 : xBin oNe (xCallW f_law_asked (xCons (xVar 4) (xCons (xVar 9) xNil))) (xCallW f_law_asked (xCons (xVar 5) (xCons (xVar 9) xNil))) (ev Z (some (.d (.int b))) (some (.d (.int v))) (some (.d (.list (Ls.map Lt.data)))) (some (.loc P1.r)) (some (.loc P2.r)) (some (.loc P3.r)) (some (.d (.int s))) (d8) (some (.d (.list (days.map .int)))) (some (.d (.int 2))) (some (.loc lk)) (some (.d (.int t))) (some (.d (.list (Ms.map Lt.data)))) (j14) (some (.d (.int m))) none) w11 = .ok (.d (.bool false)) w13 := bin_of (callW_of (cons_of (show (xVar 4) _ _ = Rs.ok (DV.loc P1.r) _ from rfl) (cons_of (show (xVar 9) _ _ = Rs.ok (DV.d (.list (days.map .int))) _ from rfl) (xNil_ap _ _))) x1) (callW_of (cons_of (show (xVar 5) _ _ = Rs.ok (DV.loc P2.r) _ from rfl) (cons_of (show (xVar 9) _ _ = Rs.ok (DV.d (.list (days.map .int))) _ from rfl) (xNil_ap _ _))) x2) (oNe_all c1 c2 (sh_ask R2f days))
  have n2 : xBin oNe (xCallW f_law_asked (xCons (xVar 6) (xCons (xVar 9) xNil))) (xVar 11) (ev Z (some (.d (.int b))) (some (.d (.int v))) (some (.d (.list (Ls.map Lt.data)))) (some (.loc P1.r)) (some (.loc P2.r)) (some (.loc P3.r)) (some (.d (.int s))) (d8) (some (.d (.list (days.map .int)))) (some (.d (.int 2))) (some (.loc lk)) (some (.d (.int t))) (some (.d (.list (Ms.map Lt.data)))) (j14) (some (.d (.int m))) none) w13 = .ok (.d (.bool false)) w14 := bin_of (callW_of (cons_of (show (xVar 6) _ _ = Rs.ok (DV.loc P3.r) _ from rfl) (cons_of (show (xVar 9) _ _ = Rs.ok (DV.d (.list (days.map .int))) _ from rfl) (xNil_ap _ _))) x3) (show (xVar 11) _ _ = Rs.ok (DV.loc lk) _ from rfl) (oNe_all c3 c4 (sh_ask R3 days))
  have n3 : xBin oNe (xVar 10) (xLit (.int 2)) (ev Z (some (.d (.int b))) (some (.d (.int v))) (some (.d (.list (Ls.map Lt.data)))) (some (.loc P1.r)) (some (.loc P2.r)) (some (.loc P3.r)) (some (.d (.int s))) (d8) (some (.d (.list (days.map .int)))) (some (.d (.int 2))) (some (.loc lk)) (some (.d (.int t))) (some (.d (.list (Ms.map Lt.data)))) (j14) (some (.d (.int m))) none) w14 = .ok (.d (.bool false)) w14 := bin_of (show (xVar 10) _ _ = Rs.ok (DV.d (.int 2)) _ from rfl) (xLit_ap _ _ _) (oNe_same (.int 2) w14 rfl)
  have s23 : sIf (xOr (xBin oNe (xCallW f_law_asked (xCons (xVar 4) (xCons (xVar 9) xNil))) (xCallW f_law_asked (xCons (xVar 5) (xCons (xVar 9) xNil)))) (xOr (xBin oNe (xCallW f_law_asked (xCons (xVar 6) (xCons (xVar 9) xNil))) (xVar 11)) (xBin oNe (xVar 10) (xLit (.int 2))))) (sRet (xLit (.bool false))) sNil (ev Z (some (.d (.int b))) (some (.d (.int v))) (some (.d (.list (Ls.map Lt.data)))) (some (.loc P1.r)) (some (.loc P2.r)) (some (.loc P3.r)) (some (.d (.int s))) (d8) (some (.d (.list (days.map .int)))) (some (.d (.int 2))) (some (.loc lk)) (some (.d (.int t))) (some (.d (.list (Ms.map Lt.data)))) (j14) (some (.d (.int m))) none) w11 = .ok (.nx (ev Z (some (.d (.int b))) (some (.d (.int v))) (some (.d (.list (Ls.map Lt.data)))) (some (.loc P1.r)) (some (.loc P2.r)) (some (.loc P3.r)) (some (.d (.int s))) (d8) (some (.d (.list (days.map .int)))) (some (.d (.int 2))) (some (.loc lk)) (some (.d (.int t))) (some (.d (.list (Ms.map Lt.data)))) (j14) (some (.d (.int m))) none)) w14 := by
    rw [if_of (b := false) (w1 := w14) (by
      rw [xOr_ap, n1, bind_ok]
      show xOr _ _ _ w13 = _
      rw [xOr_ap, n2, bind_ok]
      exact n3)]
    rfl
  generalize hX : ((k3, AO.lst ((askD R3 days).map .d)) : Cell) = kd at h22
  generalize hY : ((k2, AO.lst ((askD R2f days).map .d)) : Cell) = ke at h22
  generalize hW : ((k1, AO.lst ((askD R1f days).map .d)) : Cell) = kf at h22
  have h23 := swapAB [kd, ke, kf, kc] (show RAt w14 P3' R3 ([kd, ke, kf, kc] ++ (rollC P1f R1f ++ (rollC P2f R2f ++ []))) from h22) h17.len
  have h24 := swapAB ([kd, ke, kf, kc] ++ rollC P3' R3) (show RAt w14 P1f R1f (([kd, ke, kf, kc] ++ rollC P3' R3) ++ (rollC P2f R2f ++ [])) by rw [List.append_assoc]; exact h23) h15.len
  have s24 : sSet 16 (xLcR false 14 (xLit (.int 2)) none (xTup (xCons (xMeth (PySem.Str.ofString "Roll") (PySem.Str.ofString "sent") f_Roll_sent (xVar 4) (xCons (xVar 14) xNil)) (xCons (xMeth (PySem.Str.ofString "Roll") (PySem.Str.ofString "given") f_Roll_given (xVar 4) (xCons (xVar 14) xNil)) xNil)))) (ev Z (some (.d (.int b))) (some (.d (.int v))) (some (.d (.list (Ls.map Lt.data)))) (some (.loc P1.r)) (some (.loc P2.r)) (some (.loc P3.r)) (some (.d (.int s))) (d8) (some (.d (.list (days.map .int)))) (some (.d (.int 2))) (some (.loc lk)) (some (.d (.int t))) (some (.d (.list (Ms.map Lt.data)))) (j14) (some (.d (.int m))) none) w14 = .ok (.nx (ev Z (some (.d (.int b))) (some (.d (.int v))) (some (.d (.list (Ls.map Lt.data)))) (some (.loc P1.r)) (some (.loc P2.r)) (some (.loc P3.r)) (some (.d (.int s))) (d8) (some (.d (.list (days.map .int)))) (some (.d (.int 2))) (some (.loc lk)) (some (.d (.int t))) (some (.d (.list (Ms.map Lt.data)))) (j14) (some (.d (.int m))) (some (.d (.list (outs R1f)))))) w14 := set_of (outs_lc h23 (two_leases g1f.is_) (fun d => by rw [r1f]; rfl) (by simp))
  obtain ⟨⟨x, y, hxy, _⟩, _⟩ := g1f.is_
  have hx0 : R1f.leases[0]? = some x := by rw [hxy]; rfl
  have xr : x.rent = dueOf x R1f.gauges m := by
    rw [(g1f.dn x (by rw [hxy]; simp)).1, g1f.th]
  have e1 : xBin oEq (xVar 16) (xLcR false 14 (xLit (.int 2)) none (xTup (xCons (xMeth (PySem.Str.ofString "Roll") (PySem.Str.ofString "sent") f_Roll_sent (xVar 5) (xCons (xVar 14) xNil)) (xCons (xMeth (PySem.Str.ofString "Roll") (PySem.Str.ofString "given") f_Roll_given (xVar 5) (xCons (xVar 14) xNil)) xNil)))) (ev Z (some (.d (.int b))) (some (.d (.int v))) (some (.d (.list (Ls.map Lt.data)))) (some (.loc P1.r)) (some (.loc P2.r)) (some (.loc P3.r)) (some (.d (.int s))) (d8) (some (.d (.list (days.map .int)))) (some (.d (.int 2))) (some (.loc lk)) (some (.d (.int t))) (some (.d (.list (Ms.map Lt.data)))) (j14) (some (.d (.int m))) (some (.d (.list (outs R1f))))) w14 = .ok (.d (.bool true)) w14 := by
    refine bin_of (show (xVar 16) _ _ = Rs.ok (DV.d (.list (outs R1f))) _ from rfl) (outs_lc h24 (two_leases g2f.is_) (fun d => by rw [r2f]; rfl) (by simp)) ?_
    rw [← ots]
    exact oEq_same _ _ (sh_outs R1f)
  have e2 : xBin oEq (xBin oIxT (xBin oIxL (xVar 16) (xLit (.int 0))) (xLit (.int 0))) (xMeth (PySem.Str.ofString "Roll") (PySem.Str.ofString "owed") f_Roll_owed (xVar 4) (xCons (xLit (.int 0)) (xCons (xVar 15) xNil))) (ev Z (some (.d (.int b))) (some (.d (.int v))) (some (.d (.list (Ls.map Lt.data)))) (some (.loc P1.r)) (some (.loc P2.r)) (some (.loc P3.r)) (some (.d (.int s))) (d8) (some (.d (.list (days.map .int)))) (some (.d (.int 2))) (some (.loc lk)) (some (.d (.int t))) (some (.d (.list (Ms.map Lt.data)))) (j14) (some (.d (.int m))) (some (.d (.list (outs R1f))))) w14 = .ok (.d (.bool true)) w14 := by
    refine bin_of (x := .d (.int x.rent)) (bin_of (bin_of (x := .d (.list (outs R1f))) (r := Rs.ok (.d (.tuple [.int x.rent, .int x.pledge])) w14) rfl (xLit_ap _ _ _) ?_) (xLit_ap _ _ _) ?_) (methR_of (show (xVar 4) _ w14 = .ok (.loc P1.r) w14 from rfl) (r1f ▸ h23.o) rfl (cons_of (xLit_ap _ _ _) (cons_of (show (xVar 15) _ _ = Rs.ok (DV.d (.int m)) _ from rfl) (xNil_ap _ _))) (r1f ▸ rowed_ok h23 g1f.S hx0 m om)) ?_
    · rw [oIxL_d, at_0]
      unfold outs
      rw [hxy]
      rfl
    · rw [oIxT_d, at_0]
      rfl
    · rw [← xr]
      exact oEq_same _ _ rfl
  refine ⟨w14, ?_⟩
  show finW (sm_law [some (.d (.list (ns.map .int))), none, none, none, none, none, none, none, none, none, none, none, none, none, none, none, none] []) = _
  rw [hZ]
  unfold sm_law sm_law_t1 sm_law_t2 sm_law_t3 sm_law_t4 sm_law_t5 sm_law_t6 sm_law_t7 sm_law_t8 sm_law_t9 sm_law_t10 sm_law_t11 sm_law_t12 sm_law_t13 sm_law_t14 sm_law_t15 sm_law_t16 sm_law_t17 sm_law_t18 sm_law_t19 sm_law_t20 sm_law_t21 sm_law_t22 sm_law_t23 sm_law_t24
  rw [seq_of s1, seq_of s2, seq_of s3, seq_of s4, seq_of s5, seq_of s6, seq_of s7, seq_of s8, seq_of s9, seq_of s10, seq_of s11, seq_of s12, seq_of s13, seq_of s14, seq_of s15, seq_of s16, seq_of s17, seq_of s18, seq_of s19, seq_of s20, seq_of s21, seq_of s22, seq_of s23, seq_of s24, ret_of (by
    rw [xAnd_ap, e1, bind_ok]
    exact e2)]
  rfl
end LW

set_option Elab.async false
set_option linter.all false
set_option maxRecDepth 100000
set_option maxHeartbeats 4000000
namespace LW
open PySem PySem.Spec PyProof.Rows L2 RK
theorem fin_law {P : Program} {w : World} {K : PySem.W.Frag} {mg : Str → Option Value} {f : Addr} (T : Txt K mg) (hf : mg ("law" : Str) = some (.ref f)) :
    ∃ (fd : FuncData) (sp : Sp), (∀ (s : Shared) (v : Value), BindsTo s fd ⟨[v], []⟩ [((PySem.Str.ofString "_law_script"), v)]) ∧ (∀ base : Heap, K.In base → base.Ns mainGlobals mg → FnOk P w K mg base (L2.CX P w) 11 f fd [(PySem.Str.ofString "_law_script")] sp) ∧
      ∀ (H : Hp) (a : Addr) (ns : List Int), ns.length ≤ 63 → SqL K H a (ns.map V.int) → sp [.ref a] H (fun v _ => v = .bl true) fun _ _ _ => False := by
  have e := hf.symm.trans T.g_law
  cases e
  obtain ⟨fd, F⟩ := T.F_law
  refine ⟨fd, spW K 1 f_law, fun s v => FunD.bindsA (ps := p_law) F (fun _ _ _ _ _ _ us hl => match us, hl with | [_], _ => rfl) s [v] rfl, fun base _ _ => fnok_law T F, fun H a ns hl hS => law_spW (law_true ns hl) hS⟩
end LW
open PySem PySem.W PySem.Calls PyProof.Rows
set_option maxRecDepth 100000 in
set_option maxHeartbeats 0 in
theorem PySem.Challenge.cw_rentroll_k14_whole_told_late_holds : PySem.Challenge.rw_rentroll_k14_whole_told_late.Holds := by
  w_on; o_law
  refine HandSHeadRun.head_any (r := OpenLaw.row PySem.Challenge.rw_rentroll_k14_whole_told_late) (q := view (OpenLaw.row PySem.Challenge.rw_rentroll_k14_whole_told_late).prog [60]) (H := LW.hk) (ob := LW.ob) (M := 6000) (loose := LW.loose) (d := HandSHeadRun.topDef (OpenLaw.row PySem.Challenge.rw_rentroll_k14_whole_told_late).prog 60) (kwd := []) LW.ob_eq
    (by kernel_rfl) (fun s => by kernel_rfl) LW.run (by kernel_rfl) (by kernel_rfl) (by kernel_rfl) (by rfl) (by first | assumption | decide +kernel) (by decide +kernel) ⟨rfl, rfl, rfl, rfl, rfl, by decide +kernel⟩ ?hw ?hc
  case hw => w_witness2
  case hc =>
    refine RK.law_end (lw := PySem.Challenge.rw_rentroll_k14_whole_told_late) (many := 63) (lev := 11) (arg := (PySem.Str.ofString "_law_script")) rfl (by decide) (by kernel_rfl) ⟨rfl, by decide, by decide⟩ ?F
    intro w mg fa h Y G hmg0
    obtain ⟨K, KX, c⟩ := Y
    have hmg : mg ("law" : PySem.Str) = some (.ref fa) := by
      have e : (HandSHeadRun.topDef (OpenLaw.row PySem.Challenge.rw_rentroll_k14_whole_told_late).prog 60).name = ("law" : PySem.Str) := by kernel_rfl
      rw [← e]
      exact hmg0
    obtain ⟨fd, sp, hb, hF, hsp⟩ := LW.fin_law (P := (PySem.Challenge.rw_rentroll_k14_whole_told_late).prog) (w := w) (LW.txt_of KX G c.t.d c.more) hmg
    exact ⟨K, fd, sp, KX, hb, fun H a ns hl hS => hsp H a ns hl hS, hF⟩
