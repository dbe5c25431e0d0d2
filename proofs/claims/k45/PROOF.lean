import PyProof.Rows.All
import Wide.All
import OpenK.AllK
import Wide.FinOn
import HandS.ForExc
import HandS.Comp
import HandS.IsInst
import HandS.TupAny
import HandS.Deep
import HandS.WordsList
import HandS.WordsExc
import HandS.CallSlots
import HandS.Wide
import HandS.TupMul
import HandS.Head0
import HandS.Head1
import HandS.Head2
import HandS.HeadEnd
import HandS.HeadHook1
import HandS.HeadHook2
import HandS.EndBits
import HandS.ExcIs
import KE.KIsAll
import PySem.Challenge.RW_sheetlines_k45_readings_and_refusals
set_option Elab.async false
set_option linter.all false
set_option maxRecDepth 100000
set_option maxHeartbeats 8000000
/-! Data: values without the heap, what stands for them, what a step may change. -/
namespace Dd
open PySem L2

/-- containers -/
inductive Kd where
  | tup | lst | dic (ks : List Key) | dit (ks : List (List Key)) | obj (c : Str) (ns : List Str)
/-- data; a box is owned (by the one slot that holds it) or frozen -/
inductive D where
  | non | bl (b : Bool) | int (i : Int) | str (s : Str) | box (own : Bool) (k : Kd) (ds : List D)
abbrev D.tup (ds : List D) : D := .box false .tup ds
abbrev D.fl (ds : List D) : D := .box false .lst ds
abbrev D.ol (ds : List D) : D := .box true .lst ds

structure Gx where
  K : PySem.W.Frag
  cn : Str → Option Addr

def Holds (G : Gx) (Z : Hp) (a : Addr) : Kd → List V → Prop
  | .tup, vs => SqT G.K Z a vs
  | .lst, vs => SqL G.K Z a vs
  | .dic ks, vs => ks.length = vs.length ∧ Rd Z a (.dK (ks.zip vs))
  | .dit ks, vs => ks.length = vs.length ∧ Rd Z a (.dT (ks.zip vs))
  | .obj c ns, vs => ns.length = vs.length ∧ ∃ C dx, G.cn c = some C ∧ Rd Z a (.ins C dx (ns.zip vs))
def HoIs (G : Gx) : Kd → List V → HO → Prop
  | .tup, _, _ => False
  | .lst, vs, o => o = .lst vs
  | .dic ks, vs, o => ks.length = vs.length ∧ o = .dK (ks.zip vs)
  | .dit ks, vs, o => ks.length = vs.length ∧ o = .dT (ks.zip vs)
  | .obj c ns, vs, o => ns.length = vs.length ∧ ∃ C dx, G.cn c = some C ∧ o = .ins C dx (ns.zip vs)

mutual
def Rep (G : Gx) (Z H : Hp) : D → V → List Addr → Prop
  | .non, v, F => v = .non ∧ F = []
  | .bl b, v, F => v = .bl b ∧ F = []
  | .int i, v, F => v = .int i ∧ F = []
  | .str s, v, F => v = .str s ∧ F = []
  | .box own k ds, v, F => ∃ a vs F', v = .ref a ∧ RepL G Z H ds vs F' ∧
      (own = false → F = F' ∧ Holds G Z a k vs ∧ (k = .tup ∨ F' = [])) ∧ (own = true → F = a :: F' ∧ ∃ o, H a = some o ∧ HoIs G k vs o)
def RepL (G : Gx) (Z H : Hp) : List D → List V → List Addr → Prop
  | [], vs, F => vs = [] ∧ F = []
  | d :: ds, vs, F => ∃ v vs' F1 F2, vs = v :: vs' ∧ F = F1 ++ F2 ∧ Rep G Z H d v F1 ∧ RepL G Z H ds vs' F2
end
mutual
/-- no owned part -/
def frz : D → Bool
  | .box own _ ds => !own && frzL ds
  | _ => true
def frzL : List D → Bool
  | [] => true
  | d :: ds => frz d && frzL ds
end
mutual
def fz : D → D
  | .box _ k ds => .box false k (fzL ds)
  | d => d
def fzL : List D → List D
  | [] => []
  | d :: ds => fz d :: fzL ds
end

def Ex (H H' : Hp) : Prop := ∀ a o, H a = some o → H' a = some o
theorem Ex.refl (H : Hp) : Ex H H := fun _ _ h => h
theorem Ex.trans {H H1 H2 : Hp} (a : Ex H H1) (b : Ex H1 H2) : Ex H H2 := fun x o h => b x o (a x o h)
theorem Ex.new {H : Hp} {p : Addr} {o : HO} (h : H p = none) : Ex H (upd H p o) := fun a u e => by
  rw [upd_ne (ne_of_none e h)]
  exact e
theorem ex_rd {H H' : Hp} {a : Addr} {u : HO} (e : Ex H H') (h : Rd H a u) : Rd H' a u := by
  rcases h with h | ⟨o, h⟩
  · exact Or.inl (e a _ h)
  · exact Or.inr ⟨o, e a _ h⟩
theorem ex_l {K : PySem.W.Frag} {H H' : Hp} {a : Addr} {xs : List V} (e : Ex H H') (h : SqL K H a xs) : SqL K H' a xs := by
  rcases h with h | h
  · exact Or.inl (ex_rd e h)
  · exact Or.inr h
theorem ex_t {K : PySem.W.Frag} {H H' : Hp} {a : Addr} {xs : List V} (e : Ex H H') (h : SqT K H a xs) : SqT K H' a xs := by
  rcases h with h | h
  · exact Or.inl (ex_rd e h)
  · exact Or.inr h
theorem Holds.ex {G : Gx} {Z Z' : Hp} {a : Addr} {k : Kd} {vs : List V} (e : Ex Z Z') (h : Holds G Z a k vs) : Holds G Z' a k vs := by
  cases k with
  | tup => exact ex_t e h
  | lst => exact ex_l e h
  | dic ks => exact ⟨h.1, ex_rd e h.2⟩
  | dit ks => exact ⟨h.1, ex_rd e h.2⟩
  | obj c ns => exact ⟨h.1, let ⟨C, dx, e1, e2⟩ := h.2; ⟨C, dx, e1, ex_rd e e2⟩⟩
theorem HoIs.holds {G : Gx} {Z : Hp} {a : Addr} {k : Kd} {vs : List V} {o : HO} (h : HoIs G k vs o) (e : Z a = some o) : Holds G Z a k vs := by
  cases k with
  | tup => exact h.elim
  | lst => obtain rfl : o = .lst vs := h; exact .inl (.inl e)
  | dic ks => obtain ⟨h1, rfl⟩ := h; exact ⟨h1, .inl e⟩
  | dit ks => obtain ⟨h1, rfl⟩ := h; exact ⟨h1, .inl e⟩
  | obj c ns => obtain ⟨h1, C, dx, h2, rfl⟩ := h; exact ⟨h1, C, dx, h2, .inl e⟩

section
variable {G : Gx} {Z Z' H H' : Hp}
mutual
theorem Rep.mono (eZ : Ex Z Z') : ∀ {d : D} {v : V} {F : List Addr}, Rep G Z H d v F → (∀ a ∈ F, ∀ o, H a = some o → H' a = some o) → Rep G Z' H' d v F
  | .non, _, _, h, _ => h
  | .bl _, _, _, h, _ => h
  | .int _, _, _, h, _ => h
  | .str _, _, _, h, _ => h
  | .box own k ds, v, F, h, e => by
    obtain ⟨a, vs, F', hv, hl, h1, h2⟩ := h
    refine ⟨a, vs, F', hv, RepL.mono eZ hl fun b hb o ho => e b ?_ o ho, fun q => ?_, fun q => ?_⟩
    · cases own with
      | false => rw [(h1 rfl).1]; exact hb
      | true => rw [(h2 rfl).1]; exact List.mem_cons_of_mem _ hb
    · obtain ⟨p1, p2, p3⟩ := h1 q
      exact ⟨p1, p2.ex eZ, p3⟩
    · obtain ⟨p1, o, p2, p3⟩ := h2 q
      exact ⟨p1, o, e a (by rw [p1]; exact List.mem_cons_self) o p2, p3⟩
theorem RepL.mono (eZ : Ex Z Z') : ∀ {ds : List D} {vs : List V} {F : List Addr}, RepL G Z H ds vs F → (∀ a ∈ F, ∀ o, H a = some o → H' a = some o) → RepL G Z' H' ds vs F
  | [], _, _, h, _ => h
  | d :: ds, vs, F, h, e => by
    obtain ⟨v, vs', F1, F2, e1, e2, h1, h2⟩ := h
    exact ⟨v, vs', F1, F2, e1, e2, Rep.mono eZ h1 fun a ha => e a (by rw [e2]; exact List.mem_append_left _ ha), RepL.mono eZ h2 fun a ha => e a (by rw [e2]; exact List.mem_append_right _ ha)⟩
end
mutual
theorem Rep.dom : ∀ {d : D} {v : V} {F : List Addr}, Rep G Z H d v F → ∀ a ∈ F, ∃ o, H a = some o ∧ (∀ xs, o ≠ .tup xs) ∧ ∀ b u, o ≠ .frz b u
  | .non, _, _, h, _, ha => by rw [h.2] at ha; cases ha
  | .bl _, _, _, h, _, ha => by rw [h.2] at ha; cases ha
  | .int _, _, _, h, _, ha => by rw [h.2] at ha; cases ha
  | .str _, _, _, h, _, ha => by rw [h.2] at ha; cases ha
  | .box own k ds, v, F, h, b, hb => by
    obtain ⟨a, vs, F', hv, hl, h1, h2⟩ := h
    cases own with
    | false => rw [(h1 rfl).1] at hb; exact RepL.dom hl b hb
    | true =>
      obtain ⟨e, o, ho, hk⟩ := h2 rfl
      rw [e] at hb
      rcases List.mem_cons.mp hb with rfl | hb
      · refine ⟨o, ho, fun xs q => ?_, fun b u q => ?_⟩ <;> subst q <;> cases k <;> simp [HoIs] at hk
      · exact RepL.dom hl b hb
theorem RepL.dom : ∀ {ds : List D} {vs : List V} {F : List Addr}, RepL G Z H ds vs F → ∀ a ∈ F, ∃ o, H a = some o ∧ (∀ xs, o ≠ .tup xs) ∧ ∀ b u, o ≠ .frz b u
  | [], _, _, h, _, ha => by rw [h.2] at ha; cases ha
  | d :: ds, vs, F, h, a, ha => by
    obtain ⟨v, vs', F1, F2, e1, e2, h1, h2⟩ := h
    rw [e2] at ha
    rcases List.mem_append.mp ha with ha | ha
    · exact Rep.dom h1 a ha
    · exact RepL.dom h2 a ha
end
mutual
theorem Rep.frz_nil : ∀ {d : D} {v : V} {F : List Addr}, Rep G Z H d v F → frz d = true → F = []
  | .non, _, _, h, _ => h.2
  | .bl _, _, _, h, _ => h.2
  | .int _, _, _, h, _ => h.2
  | .str _, _, _, h, _ => h.2
  | .box own k ds, v, F, h, e => by
    obtain ⟨a, vs, F', hv, hl, h1, h2⟩ := h
    cases own with
    | false => rw [(h1 rfl).1]; exact RepL.frz_nil hl (by simpa [frz] using e)
    | true => simp [frz] at e
theorem RepL.frz_nil : ∀ {ds : List D} {vs : List V} {F : List Addr}, RepL G Z H ds vs F → frzL ds = true → F = []
  | [], _, _, h, _ => h.2
  | d :: ds, vs, F, h, e => by
    obtain ⟨v, vs', F1, F2, e1, e2, h1, h2⟩ := h
    simp only [frzL, Bool.and_eq_true] at e
    rw [e2, Rep.frz_nil h1 e.1, RepL.frz_nil h2 e.2]; rfl
end
mutual
/-- all that d owns is frozen: it stands in Z' -/
theorem Rep.freeze (eZ : Ex Z Z') : ∀ {d : D} {v : V} {F : List Addr}, Rep G Z H d v F → (∀ a ∈ F, ∀ o, H a = some o → Z' a = some o) → Rep G Z' H' (fz d) v []
  | .non, _, _, h, _ => ⟨h.1, rfl⟩
  | .bl _, _, _, h, _ => ⟨h.1, rfl⟩
  | .int _, _, _, h, _ => ⟨h.1, rfl⟩
  | .str _, _, _, h, _ => ⟨h.1, rfl⟩
  | .box own k ds, v, F, h, e => by
    obtain ⟨a, vs, F', hv, hl, h1, h2⟩ := h
    refine ⟨a, vs, [], hv, RepL.freeze eZ hl fun b hb o ho => e b ?_ o ho, fun _ => ⟨rfl, ?_, .inr rfl⟩, fun q => nomatch q⟩
    · cases own with
      | false => rw [(h1 rfl).1]; exact hb
      | true => rw [(h2 rfl).1]; exact List.mem_cons_of_mem _ hb
    · cases own with
      | false => exact (h1 rfl).2.1.ex eZ
      | true =>
        obtain ⟨p1, o, p2, p3⟩ := h2 rfl
        exact p3.holds (e a (by rw [p1]; exact List.mem_cons_self) o p2)
theorem RepL.freeze (eZ : Ex Z Z') : ∀ {ds : List D} {vs : List V} {F : List Addr}, RepL G Z H ds vs F → (∀ a ∈ F, ∀ o, H a = some o → Z' a = some o) → RepL G Z' H' (fzL ds) vs []
  | [], _, _, h, _ => ⟨h.1, rfl⟩
  | d :: ds, vs, F, h, e => by
    obtain ⟨v, vs', F1, F2, e1, e2, h1, h2⟩ := h
    exact ⟨v, vs', [], [], e1, rfl, Rep.freeze eZ h1 fun a ha => e a (by rw [e2]; exact List.mem_append_left _ ha), RepL.freeze eZ h2 fun a ha => e a (by rw [e2]; exact List.mem_append_right _ ha)⟩
end
theorem RepL.length : ∀ {ds : List D} {vs : List V} {F : List Addr}, RepL G Z H ds vs F → ds.length = vs.length
  | [], _, _, h => by rw [h.1]; rfl
  | d :: ds, vs, F, h => by
    obtain ⟨v, vs', F1, F2, e1, e2, h1, h2⟩ := h
    rw [e1, List.length_cons, List.length_cons, RepL.length h2]
theorem RepL.append : ∀ {ds es : List D} {vs ws : List V} {F F' : List Addr}, RepL G Z H ds vs F → RepL G Z H es ws F' → RepL G Z H (ds ++ es) (vs ++ ws) (F ++ F')
  | [], _, _, _, _, _, h, k => by rw [h.1, h.2]; exact k
  | d :: ds, es, vs, ws, F, F', h, k => by
    obtain ⟨v, vs', F1, F2, e1, e2, h1, h2⟩ := h
    exact ⟨v, vs' ++ ws, F1, F2 ++ F', by rw [e1]; rfl, by rw [e2, List.append_assoc], h1, RepL.append h2 k⟩
theorem RepL.get : ∀ {ds : List D} {vs : List V} {F : List Addr} {i : Nat} {d : D}, RepL G Z H ds vs F → ds[i]? = some d → ∃ v A F1 B, vs[i]? = some v ∧ F = A ++ F1 ++ B ∧ Rep G Z H d v F1
  | [], _, _, _, _, _, e => by simp at e
  | c :: ds, vs, F, 0, d, h, e => by
    obtain ⟨v, vs', F1, F2, e1, e2, h1, h2⟩ := h
    simp only [List.getElem?_cons_zero, Option.some.injEq] at e
    subst e
    exact ⟨v, [], F1, F2, by rw [e1]; rfl, by rw [e2]; rfl, h1⟩
  | c :: ds, vs, F, i + 1, d, h, e => by
    obtain ⟨v, vs', F1, F2, e1, e2, h1, h2⟩ := h
    simp only [List.getElem?_cons_succ] at e
    obtain ⟨w, A, F3, B, g1, g2, g3⟩ := RepL.get h2 e
    exact ⟨w, F1 ++ A, F3, B, by rw [e1]; exact g1, by rw [e2, g2]; simp, g3⟩
theorem RepL.take : ∀ {ds : List D} {vs : List V} {F : List Addr} (n : Nat), RepL G Z H ds vs F → F = [] → RepL G Z H (ds.take n) (vs.take n) []
  | _, _, _, 0, _, _ => ⟨rfl, rfl⟩
  | [], _, _, _ + 1, h, _ => by rw [h.1]; exact ⟨rfl, rfl⟩
  | d :: ds, vs, F, n + 1, h, e => by
    obtain ⟨v, vs', F1, F2, e1, e2, h1, h2⟩ := h
    rw [e] at e2
    obtain ⟨rfl, rfl⟩ := List.append_eq_nil_iff.mp e2.symm
    exact ⟨v, vs'.take n, [], [], by rw [e1]; rfl, rfl, h1, RepL.take n h2 rfl⟩
theorem RepL.drop : ∀ {ds : List D} {vs : List V} {F : List Addr} (n : Nat), RepL G Z H ds vs F → F = [] → RepL G Z H (ds.drop n) (vs.drop n) []
  | _, _, _, 0, h, e => by rw [e] at h; exact h
  | [], _, _, _ + 1, h, _ => by rw [h.1]; exact ⟨rfl, rfl⟩
  | d :: ds, vs, F, n + 1, h, e => by
    obtain ⟨v, vs', F1, F2, e1, e2, h1, h2⟩ := h
    rw [e] at e2
    obtain ⟨rfl, rfl⟩ := List.append_eq_nil_iff.mp e2.symm
    rw [e1]
    exact RepL.drop n h2 rfl
theorem RepL.reverse : ∀ {ds : List D} {vs : List V} {F : List Addr}, RepL G Z H ds vs F → F = [] → RepL G Z H ds.reverse vs.reverse []
  | [], _, _, h, _ => by rw [h.1]; exact ⟨rfl, rfl⟩
  | d :: ds, vs, F, h, e => by
    obtain ⟨v, vs', F1, F2, e1, e2, h1, h2⟩ := h
    rw [e] at e2
    obtain ⟨rfl, rfl⟩ := List.append_eq_nil_iff.mp e2.symm
    rw [e1, List.reverse_cons, List.reverse_cons]
    exact RepL.append (F := []) (F' := []) (RepL.reverse h2 rfl) ⟨v, [], [], [], rfl, rfl, h1, rfl, rfl⟩
end
end Dd
/-! States, steps, what a piece of code does to data. -/
namespace Dd
open PySem L2

abbrev Env := List (Option D)
def RepS (G : Gx) (Z H : Hp) : Env → St → List Addr → Prop
  | [], σ, F => σ = [] ∧ F = []
  | none :: ρ, σ, F => ∃ x σ', σ = x :: σ' ∧ RepS G Z H ρ σ' F
  | some d :: ρ, σ, F => ∃ v σ' F1 F2, σ = some v :: σ' ∧ F = F1 ++ F2 ∧ Rep G Z H d v F1 ∧ RepS G Z H ρ σ' F2
structure State (G : Gx) (lk : List (Nat × V)) (Z H : Hp) (σ : St) (ρ : Env) (F : List Addr) : Prop where
  zh : Ex Z H
  rs : RepS G Z H ρ σ F
  nd : F.Nodup
  fz : ∀ a ∈ F, Z a = none
  lk : ∀ p ∈ lk, σ[p.1]? = some (some p.2)
/-- only new objects; only new ones are frozen -/
structure New (Z H Z' H' : Hp) : Prop where
  zz : Ex Z Z'
  hh : Ex H H'
  zh : Ex Z' H'
  nn : ∀ a, H a ≠ none → Z' a = Z a
structure Step (Z H : Hp) (F : List Addr) (Z' H' : Hp) (F' : List Addr) : Prop where
  zz : Ex Z Z'
  zh : Ex Z' H'
  dm : ∀ a, H a ≠ none → H' a ≠ none
  fr : ∀ a o, H a = some o → a ∉ F → H' a = some o
  ff : ∀ a, a ∈ F' → a ∈ F ∨ H a = none
  zn : ∀ a, a ∉ F → H a ≠ none → Z a = none → Z' a = none
theorem ne_none {α : Type} {x : Option α} {a : α} (h : x = some a) : x ≠ none := by rw [h]; exact Option.some_ne_none a
theorem New.refl {Z H : Hp} (h : Ex Z H) : New Z H Z H := ⟨Ex.refl _, Ex.refl _, h, fun _ _ => rfl⟩
theorem New.dm {Z H Z' H' : Hp} (n : New Z H Z' H') {a : Addr} (h : H a ≠ none) : H' a ≠ none := by
  cases q : H a with
  | none => exact absurd q h
  | some o => rw [n.hh a o q]; exact Option.some_ne_none o
theorem New.trans {Z H Z1 H1 Z2 H2 : Hp} (a : New Z H Z1 H1) (b : New Z1 H1 Z2 H2) : New Z H Z2 H2 :=
  ⟨a.zz.trans b.zz, a.hh.trans b.hh, b.zh, fun x h => (b.nn x (a.dm h)).trans (a.nn x h)⟩
theorem New.step {Z H Z' H' : Hp} {F : List Addr} (n : New Z H Z' H') : Step Z H F Z' H' F :=
  ⟨n.zz, n.zh, fun _ h => n.dm h, fun a o h _ => n.hh a o h, fun _ h => .inl h, fun a _ h z => (n.nn a h).trans z⟩
theorem Step.refl {Z H : Hp} {F : List Addr} (h : Ex Z H) : Step Z H F Z H F := (New.refl h).step
theorem Step.notin {Z H Z' H' : Hp} {F F' : List Addr} (s : Step Z H F Z' H' F') {a : Addr} (h : a ∉ F) (h2 : H a ≠ none) : a ∉ F' := fun q => (s.ff a q).elim h h2
theorem Step.trans {Z H Z1 H1 Z2 H2 : Hp} {F F1 F2 : List Addr} (a : Step Z H F Z1 H1 F1) (b : Step Z1 H1 F1 Z2 H2 F2) : Step Z H F Z2 H2 F2 := by
  refine ⟨a.zz.trans b.zz, b.zh, fun x h => b.dm x (a.dm x h), fun x o h hn => b.fr x o (a.fr x o h hn) (a.notin hn (ne_none h)), fun x hx => ?_, fun x hn h z => b.zn x (a.notin hn h) (a.dm x h) (a.zn x hn h z)⟩
  rcases b.ff x hx with h | h
  · exact a.ff x h
  · refine .inr ?_
    cases q : H x with
    | none => rfl
    | some o => exact absurd h (a.dm x (ne_none q))
theorem Step.sub {Z H Z1 H1 : Hp} {F F1 F2 : List Addr} (a : Step Z H F Z1 H1 F1) (h : ∀ x ∈ F2, x ∈ F1 ∨ H x = none) : Step Z H F Z1 H1 F2 :=
  ⟨a.zz, a.zh, a.dm, a.fr, fun x hx => (h x hx).elim (a.ff x) .inr, a.zn⟩
/-- what is owned elsewhere may be left out of sight -/
theorem Step.more {Z H Z1 H1 : Hp} {F F1 F2 : List Addr} (a : Step Z H F Z1 H1 F1) (h : ∀ x ∈ F, x ∈ F2) : Step Z H F2 Z1 H1 F1 :=
  ⟨a.zz, a.zh, a.dm, fun x o e n => a.fr x o e fun q => n (h x q), fun x hx => (a.ff x hx).imp (h x) id, fun x n => a.zn x fun q => n (h x q)⟩

section
variable {G : Gx} {lk : List (Nat × V)} {Z Z' H H' : Hp} {σ : St} {ρ : Env} {F F' : List Addr}
theorem RepS.mono (eZ : Ex Z Z') : ∀ {ρ : Env} {σ : St} {F : List Addr}, RepS G Z H ρ σ F → (∀ a ∈ F, ∀ o, H a = some o → H' a = some o) → RepS G Z' H' ρ σ F
  | [], _, _, h, _ => h
  | none :: ρ, σ, F, h, e => by
    obtain ⟨x, σ', e1, h1⟩ := h
    exact ⟨x, σ', e1, RepS.mono eZ h1 e⟩
  | some d :: ρ, σ, F, h, e => by
    obtain ⟨v, σ', F1, F2, e1, e2, h1, h2⟩ := h
    exact ⟨v, σ', F1, F2, e1, e2, h1.mono eZ fun a ha => e a (by rw [e2]; exact List.mem_append_left _ ha), RepS.mono eZ h2 fun a ha => e a (by rw [e2]; exact List.mem_append_right _ ha)⟩
theorem RepS.dom : ∀ {ρ : Env} {σ : St} {F : List Addr}, RepS G Z H ρ σ F → ∀ a ∈ F, ∃ o, H a = some o ∧ (∀ xs, o ≠ .tup xs) ∧ ∀ b u, o ≠ .frz b u
  | [], _, _, h, _, ha => by rw [h.2] at ha; cases ha
  | none :: ρ, σ, F, h, a, ha => by
    obtain ⟨x, σ', e1, h1⟩ := h
    exact RepS.dom h1 a ha
  | some d :: ρ, σ, F, h, a, ha => by
    obtain ⟨v, σ', F1, F2, e1, e2, h1, h2⟩ := h
    rw [e2] at ha
    rcases List.mem_append.mp ha with ha | ha
    · exact h1.dom a ha
    · exact RepS.dom h2 a ha
theorem RepS.length : ∀ {ρ : Env} {σ : St} {F : List Addr}, RepS G Z H ρ σ F → ρ.length = σ.length
  | [], _, _, h => by rw [h.1]; rfl
  | none :: ρ, σ, F, h => by
    obtain ⟨x, σ', e1, h1⟩ := h
    rw [e1, List.length_cons, List.length_cons, RepS.length h1]
  | some d :: ρ, σ, F, h => by
    obtain ⟨v, σ', F1, F2, e1, e2, h1, h2⟩ := h
    rw [e1, List.length_cons, List.length_cons, RepS.length h2]
/-- a slot taken out -/
theorem RepS.get : ∀ {ρ : Env} {σ : St} {F : List Addr} {i : Nat} {d : D}, RepS G Z H ρ σ F → ρ[i]? = some (some d) → ∃ v A F1 B, σ[i]? = some (some v) ∧ F = A ++ F1 ++ B ∧ Rep G Z H d v F1 ∧ RepS G Z H (ρ.set i none) σ (A ++ B)
  | [], _, _, _, _, _, e => by simp at e
  | none :: ρ, σ, F, 0, d, h, e => by simp at e
  | some c :: ρ, σ, F, 0, d, h, e => by
    obtain ⟨v, σ', F1, F2, e1, e2, h1, h2⟩ := h
    simp only [List.getElem?_cons_zero, Option.some.injEq] at e
    subst e
    exact ⟨v, [], F1, F2, by rw [e1]; rfl, by rw [e2]; rfl, h1, some v, σ', e1, h2⟩
  | none :: ρ, σ, F, i + 1, d, h, e => by
    obtain ⟨x, σ', e1, h1⟩ := h
    simp only [List.getElem?_cons_succ] at e
    obtain ⟨v, A, F1, B, g1, g2, g3, g4⟩ := RepS.get h1 e
    exact ⟨v, A, F1, B, by rw [e1]; exact g1, g2, g3, x, σ', e1, g4⟩
  | some c :: ρ, σ, F, i + 1, d, h, e => by
    obtain ⟨v, σ', F1, F2, e1, e2, h1, h2⟩ := h
    simp only [List.getElem?_cons_succ] at e
    obtain ⟨w, A, F3, B, g1, g2, g3, g4⟩ := RepS.get h2 e
    exact ⟨w, F1 ++ A, F3, B, by rw [e1]; exact g1, by rw [e2, g2]; simp, g3, v, σ', F1, A ++ B, e1, by simp, h1, g4⟩
/-- a slot forgotten -/
theorem RepS.drop : ∀ {ρ : Env} {σ : St} {F : List Addr} (i : Nat) (x : Option V), RepS G Z H ρ σ F → ∃ F', RepS G Z H (ρ.set i none) (σ.set i x) F' ∧ F'.Sublist F
  | [], _, _, _, _, h => ⟨[], by rw [h.1]; exact ⟨rfl, rfl⟩, List.nil_sublist _⟩
  | none :: ρ, σ, F, 0, x, h => by
    obtain ⟨y, σ', e1, h1⟩ := h
    exact ⟨F, ⟨x, σ', by rw [e1]; rfl, h1⟩, List.Sublist.refl _⟩
  | some d :: ρ, σ, F, 0, x, h => by
    obtain ⟨v, σ', F1, F2, e1, e2, h1, h2⟩ := h
    exact ⟨F2, ⟨x, σ', by rw [e1]; rfl, h2⟩, by rw [e2]; exact List.sublist_append_right _ _⟩
  | none :: ρ, σ, F, i + 1, x, h => by
    obtain ⟨y, σ', e1, h1⟩ := h
    obtain ⟨F', g1, g2⟩ := RepS.drop i x h1
    exact ⟨F', ⟨y, σ'.set i x, by rw [e1]; rfl, g1⟩, g2⟩
  | some d :: ρ, σ, F, i + 1, x, h => by
    obtain ⟨v, σ', F1, F2, e1, e2, h1, h2⟩ := h
    obtain ⟨F', g1, g2⟩ := RepS.drop i x h2
    exact ⟨F1 ++ F', ⟨v, σ'.set i x, F1, F', by rw [e1]; rfl, rfl, h1, g1⟩, by rw [e2]; exact List.Sublist.append_left g2 _⟩
/-- an empty slot filled -/
theorem RepS.put : ∀ {ρ : Env} {σ : St} {F Gf : List Addr} {i : Nat} {d : D} {v : V}, RepS G Z H ρ σ F → ρ[i]? = some none → Rep G Z H d v Gf → ∃ A B, F = A ++ B ∧ RepS G Z H (ρ.set i (some d)) (σ.set i (some v)) (A ++ Gf ++ B)
  | [], _, _, _, _, _, _, _, e, _ => by simp at e
  | some c :: ρ, σ, F, Gf, 0, d, v, h, e, r => by simp at e
  | none :: ρ, σ, F, Gf, 0, d, v, h, e, r => by
    obtain ⟨y, σ', e1, h1⟩ := h
    exact ⟨[], F, rfl, v, σ', Gf, F, by rw [e1]; rfl, by simp, r, h1⟩
  | none :: ρ, σ, F, Gf, i + 1, d, v, h, e, r => by
    obtain ⟨y, σ', e1, h1⟩ := h
    obtain ⟨A, B, g1, g2⟩ := RepS.put (i := i) h1 (by simpa using e) r
    exact ⟨A, B, g1, y, σ'.set i (some v), by rw [e1]; rfl, g2⟩
  | some c :: ρ, σ, F, Gf, i + 1, d, v, h, e, r => by
    obtain ⟨w, σ', F1, F2, e1, e2, h1, h2⟩ := h
    obtain ⟨A, B, g1, g2⟩ := RepS.put (i := i) h2 (by simpa using e) r
    exact ⟨F1 ++ A, B, by rw [e2, g1, List.append_assoc], w, σ'.set i (some v), F1, A ++ Gf ++ B, by rw [e1]; rfl, by simp, h1, g2⟩
theorem State.dom (S : State G lk Z H σ ρ F) {a : Addr} (h : a ∈ F) : H a ≠ none := let ⟨_, e, _⟩ := S.rs.dom a h; ne_none e
theorem State.new (S : State G lk Z H σ ρ F) (n : New Z H Z' H') : State G lk Z' H' σ ρ F :=
  ⟨n.zh, S.rs.mono n.zz fun a _ o e => n.hh a o e, S.nd, fun a ha => (n.nn a (S.dom ha)).trans (S.fz a ha), S.lk⟩
theorem nodup_mid {A B C : List Addr} (h : (A ++ B ++ C).Nodup) : (A ++ C).Nodup ∧ B.Nodup ∧ (∀ a ∈ B, a ∉ A ++ C) := by
  rw [List.nodup_append] at h
  obtain ⟨h1, h2, h3⟩ := h
  rw [List.nodup_append] at h1
  obtain ⟨h4, h5, h6⟩ := h1
  refine ⟨List.nodup_append.mpr ⟨h4, h2, fun a ha b hb => h3 a (List.mem_append_left _ ha) b hb⟩, h5, fun a ha hm => ?_⟩
  rcases List.mem_append.mp hm with hm | hm
  · exact h6 a hm a ha rfl
  · exact h3 a (List.mem_append_right _ ha) a hm rfl
theorem nodup_put {A B C : List Addr} (h : (A ++ C).Nodup) (hB : B.Nodup) (d : ∀ a ∈ B, a ∉ A ++ C) : (A ++ B ++ C).Nodup := by
  rw [List.nodup_append] at h
  obtain ⟨h1, h2, h3⟩ := h
  refine List.nodup_append.mpr ⟨List.nodup_append.mpr ⟨h1, hB, fun a ha b hb e => d b hb (List.mem_append_left _ (e ▸ ha))⟩, h2, fun a ha b hb e => ?_⟩
  rcases List.mem_append.mp ha with ha | ha
  · exact h3 a ha b hb e
  · exact d a ha (List.mem_append_right _ (e ▸ hb))
theorem mem_mid {A B C : List Addr} {a : Addr} : a ∈ A ++ B ++ C ↔ a ∈ B ∨ a ∈ A ++ C := by
  simp only [List.mem_append]
  constructor
  · rintro ((h | h) | h)
    · exact .inr (.inl h)
    · exact .inl h
    · exact .inr (.inr h)
  · rintro (h | h | h)
    · exact .inl (.inr h)
    · exact .inl (.inl h)
    · exact .inr h
/-- what is fresh -/
structure Fresh (H : Hp) (F : List Addr) (Z' : Hp) (F' Gf : List Addr) : Prop where
  nd : Gf.Nodup
  nh : ∀ a ∈ Gf, a ∈ F ∨ H a = none
  nz : ∀ a ∈ Gf, Z' a = none
  nf : ∀ a ∈ Gf, a ∉ F'
theorem Fresh.nil {H Z' : Hp} {F F' : List Addr} : Fresh H F Z' F' [] := ⟨List.nodup_nil, by simp, by simp, by simp⟩
/-- slot i gets d, its old data forgotten -/
theorem State.set {i : Nat} {d : D} {v : V} {Gf : List Addr} (S : State G lk Z H σ ρ F) (hi : i < ρ.length) (r : Rep G Z H d v Gf) (nd : Gf.Nodup) (nz : ∀ a ∈ Gf, Z a = none) (nf : ∀ a ∈ Gf, a ∉ F) (hl : ∀ p ∈ lk, p.1 ≠ i) :
    ∃ F', State G lk Z H (σ.set i (some v)) (ρ.set i (some d)) F' ∧ ∀ a ∈ F', a ∈ F ∨ a ∈ Gf := by
  obtain ⟨F1, h1, h2⟩ := S.rs.drop i (some v)
  have e : (ρ.set i none)[i]? = some none := by rw [List.getElem?_set_self hi]
  obtain ⟨A, B, g1, g2⟩ := RepS.put h1 e r
  rw [List.set_set, List.set_set] at g2
  refine ⟨A ++ Gf ++ B, ⟨S.zh, g2, nodup_put (by rw [← g1]; exact h2.nodup S.nd) nd fun a ha hm => nf a ha (h2.subset (by rw [g1]; exact hm)), fun a ha => ?_, fun p hp => ?_⟩, fun a ha => ?_⟩
  · rcases mem_mid.mp ha with h | h
    · exact nz a h
    · exact S.fz a (h2.subset (by rw [g1]; exact h))
  · rw [List.getElem?_set_ne (Ne.symm (hl p hp))]
    exact S.lk p hp
  · rcases mem_mid.mp ha with h | h
    · exact .inr h
    · exact .inl (h2.subset (by rw [g1]; exact h))
/-- slot i is emptied -/
theorem State.kill {i : Nat} (S : State G lk Z H σ ρ F) : ∃ F', State G lk Z H σ (ρ.set i none) F' ∧ F'.Sublist F := by
  by_cases hi : i < ρ.length
  · obtain ⟨F1, h1, h2⟩ := S.rs.drop i ((σ[i]?).getD none)
    have e : σ.set i ((σ[i]?).getD none) = σ := by
      have hs : i < σ.length := by rw [← S.rs.length]; exact hi
      rw [List.getElem?_eq_getElem hs, Option.getD_some, List.set_getElem_self]
    rw [e] at h1
    exact ⟨F1, ⟨S.zh, h1, h2.nodup S.nd, fun a ha => S.fz a (h2.subset ha), S.lk⟩, h2⟩
  · rw [List.set_eq_of_length_le (Nat.le_of_not_lt hi)]
    exact ⟨F, S, List.Sublist.refl _⟩
/-- what slot i owns is frozen -/
theorem State.freeze {i : Nat} {d : D} (S : State G lk Z H σ ρ F) (hi : ρ[i]? = some (some d)) : ∃ v Z' F', σ[i]? = some (some v) ∧ Rep G Z' H (Dd.fz d) v [] ∧ State G lk Z' H σ (ρ.set i (some (Dd.fz d))) F' ∧ Step Z H F Z' H F' := by
  obtain ⟨v, A, F1, B, g1, g2, g3, g4⟩ := S.rs.get hi
  have hlt : i < ρ.length := by
    rcases Nat.lt_or_ge i ρ.length with h | h
    · exact h
    · rw [List.getElem?_eq_none h] at hi; cases hi
  obtain ⟨n1, n2, n3⟩ := nodup_mid (by rw [← g2]; exact S.nd)
  have zF : ∀ a ∈ F, Z a = none := S.fz
  let Z' : Hp := fun a => if a ∈ F1 then H a else Z a
  have z1 : ∀ a, a ∈ F1 → Z' a = H a := fun a h => if_pos h
  have z2 : ∀ a, a ∉ F1 → Z' a = Z a := fun a h => if_neg h
  have eZ : Ex Z Z' := fun a o h => by
    rw [z2 a fun q => by rw [zF a (by rw [g2]; exact mem_mid.mpr (.inl q))] at h; cases h]
    exact h
  have zh : Ex Z' H := fun a o h => by
    by_cases q : a ∈ F1
    · rw [← z1 a q]; exact h
    · rw [z2 a q] at h; exact S.zh a o h
  have r : Rep G Z' H (Dd.fz d) v [] := g3.freeze eZ fun a ha o e => by rw [z1 a ha]; exact e
  obtain ⟨A', B', p1, p2⟩ := RepS.put (i := i) (d := Dd.fz d) (v := v) (g4.mono (Z' := Z') eZ fun a _ o e => e) (by rw [List.getElem?_set_self hlt]) r
  rw [List.set_set] at p2
  have es : σ.set i (some v) = σ := by
    have hs : i < σ.length := by rw [← S.rs.length]; exact hlt
    rw [List.getElem?_eq_getElem hs] at g1
    rw [← Option.some.inj g1, List.set_getElem_self]
  rw [es] at p2
  have ef : A' ++ [] ++ B' = A ++ B := by rw [List.append_nil, p1]
  rw [ef] at p2
  refine ⟨v, Z', A ++ B, g1, r, ⟨zh, p2, n1, fun a ha => ?_, S.lk⟩, ⟨eZ, zh, fun _ h => h, fun _ _ h _ => h, fun a ha => .inl (by rw [g2]; exact mem_mid.mpr (.inr ha)), fun a hn _ z => ?_⟩⟩
  · rw [z2 a fun q => n3 a q ha]
    exact zF a (by rw [g2]; exact mem_mid.mpr (.inr ha))
  · rw [z2 a fun q => hn (by rw [g2]; exact mem_mid.mpr (.inl q))]
    exact z
end

/-! ### what code does -/
inductive Res (α : Type) where
  | ok (fr : Bool) (a : α) (eff : Bool) (ρ : Env)
  | ex (c : Str) (xs : List D) (ρ : Env)
  | bad
inductive SRes where
  | nx (ρ : Env) | rt (d : D) (ρ : Env) | bk (ρ : Env) | ct (ρ : Env) | ex (c : Str) (xs : List D) (ρ : Env) | bad
abbrev DE := Env → Res D
abbrev DT := Env → Res Bool
abbrev DA := Env → Res (List D)
abbrev DS := Env → SRes
abbrev EW := Str → List D → St → Hp → Prop
structure Cc where
  G : Gx
  lk : List (Nat × V)
  W : EW
def W0 : EW := fun _ _ _ _ => False

structure PostE (c : Cc) (Z H : Hp) (σ : St) (ρ : Env) (F : List Addr) (eff : Bool) (ρ' : Env) (Z' H' : Hp) (F' : List Addr) : Prop where
  st : Step Z H F Z' H' F'
  sta : State c.G c.lk Z' H' σ ρ' F'
  qui : eff = false → ρ' = ρ ∧ F' = F ∧ New Z H Z' H'
theorem PostE.refl {c : Cc} {Z H : Hp} {σ : St} {ρ : Env} {F : List Addr} (S : State c.G c.lk Z H σ ρ F) : PostE c Z H σ ρ F false ρ Z H F := ⟨Step.refl S.zh, S, fun _ => ⟨rfl, rfl, New.refl S.zh⟩⟩
theorem PostE.trans {c : Cc} {Z H Z1 H1 Z2 H2 : Hp} {σ : St} {ρ ρ1 ρ2 : Env} {F F1 F2 : List Addr} {e1 e2 : Bool} (a : PostE c Z H σ ρ F e1 ρ1 Z1 H1 F1) (b : PostE c Z1 H1 σ ρ1 F1 e2 ρ2 Z2 H2 F2) : PostE c Z H σ ρ F (e1 || e2) ρ2 Z2 H2 F2 :=
  ⟨a.st.trans b.st, b.sta, fun h => by
    rw [Bool.or_eq_false_iff] at h
    obtain ⟨p1, p2, p3⟩ := a.qui h.1
    obtain ⟨q1, q2, q3⟩ := b.qui h.2
    exact ⟨q1.trans p1, q2.trans p2, p3.trans q3⟩⟩
theorem PostE.new {c : Cc} {Z H Z' H' : Hp} {σ : St} {ρ : Env} {F : List Addr} (S : State c.G c.lk Z H σ ρ F) (n : New Z H Z' H') : PostE c Z H σ ρ F false ρ Z' H' F := ⟨n.step, S.new n, fun _ => ⟨rfl, rfl, n⟩⟩
/-- d, fresh or not, still stands behind another piece of code -/
theorem Rep.later {c : Cc} {H Z1 H1 Z2 H2 : Hp} {σ : St} {ρ1 ρ2 : Env} {F F1 F2 Gf : List Addr} {fr eff : Bool} {d : D} {v : V} (r : Rep c.G Z1 H1 d v Gf) (f : fr = true → Fresh H F Z1 F1 Gf) (b : PostE c Z1 H1 σ ρ1 F1 eff ρ2 Z2 H2 F2) (k : (!eff || fr || frz d) = true) : Rep c.G Z2 H2 d v Gf := by
  refine r.mono b.st.zz fun a ha o e => ?_
  cases eff with
  | false => exact (b.qui rfl).2.2.hh a o e
  | true =>
    cases fr with
    | true => exact b.st.fr a o e ((f rfl).nf a ha)
    | false =>
      have k' : frz d = true := by simpa using k
      rw [r.frz_nil k'] at ha
      cases ha
theorem RepL.later {c : Cc} {H Z1 H1 Z2 H2 : Hp} {σ : St} {ρ1 ρ2 : Env} {F F1 F2 Gf : List Addr} {eff : Bool} {ds : List D} {vs : List V} (r : RepL c.G Z1 H1 ds vs Gf) (f : Fresh H F Z1 F1 Gf) (b : PostE c Z1 H1 σ ρ1 F1 eff ρ2 Z2 H2 F2) : RepL c.G Z2 H2 ds vs Gf :=
  r.mono b.st.zz fun a ha o e => b.st.fr a o e (f.nf a ha)
theorem Fresh.later {c : Cc} {H Z1 H1 Z2 H2 : Hp} {σ : St} {ρ1 ρ2 : Env} {F F1 F2 Gf : List Addr} {eff : Bool} (f : Fresh H F Z1 F1 Gf) (hd : ∀ a ∈ Gf, H1 a ≠ none) (b : PostE c Z1 H1 σ ρ1 F1 eff ρ2 Z2 H2 F2) : Fresh H F Z2 F2 Gf :=
  ⟨f.nd, f.nh, fun a ha => b.st.zn a (f.nf a ha) (hd a ha) (f.nz a ha), fun a ha => b.st.notin (f.nf a ha) (hd a ha)⟩
theorem Fresh.step {Z H Z1 H1 Z2 : Hp} {F F1 F2 Gf : List Addr} (a : Step Z H F Z1 H1 F1) (f : Fresh H1 F1 Z2 F2 Gf) : Fresh H F Z2 F2 Gf :=
  ⟨f.nd, fun x hx => by
    rcases f.nh x hx with h | h
    · exact a.ff x h
    · refine .inr ?_
      cases q : H x with
      | none => rfl
      | some o => exact absurd h (a.dm x (ne_none q)), f.nz, f.nf⟩
theorem Fresh.earlier {c : Cc} {Z H Z1 H1 Z2 : Hp} {σ : St} {ρ ρ1 : Env} {F F1 F2 Gf : List Addr} {eff : Bool} (a : PostE c Z H σ ρ F eff ρ1 Z1 H1 F1) (f : Fresh H1 F1 Z2 F2 Gf) : Fresh H F Z2 F2 Gf := f.step a.st
theorem Fresh.append {H Z : Hp} {F0 F A B : List Addr} (f : Fresh H F0 Z F A) (g : Fresh H F0 Z F B) (d : ∀ a ∈ A, a ∉ B) : Fresh H F0 Z F (A ++ B) :=
  ⟨List.nodup_append.mpr ⟨f.nd, g.nd, fun a ha b hb e => d a ha (e ▸ hb)⟩, fun a ha => (List.mem_append.mp ha).elim (f.nh a) (g.nh a), fun a ha => (List.mem_append.mp ha).elim (f.nz a) (g.nz a), fun a ha => (List.mem_append.mp ha).elim (f.nf a) (g.nf a)⟩

def tE (c : Cc) (m : DE) : TE := fun σ H Q => ∃ Z ρ F, State c.G c.lk Z H σ ρ F ∧ match m ρ with
  | .ok fr d eff ρ' => ∀ Z' H' F' v Gf, PostE c Z H σ ρ F eff ρ' Z' H' F' → Rep c.G Z' H' d v Gf → (fr = true → Fresh H F Z' F' Gf) → Q v H'
  | .ex x xs ρ' => ∀ Z' H' F', Step Z H F Z' H' F' → State c.G c.lk Z' H' σ ρ' F' → c.W x xs σ H'
  | .bad => False
def tT (c : Cc) (m : DT) : TT := fun σ H Q => ∃ Z ρ F, State c.G c.lk Z H σ ρ F ∧ match m ρ with
  | .ok _ b eff ρ' => ∀ Z' H' F', PostE c Z H σ ρ F eff ρ' Z' H' F' → Q b H'
  | .ex x xs ρ' => ∀ Z' H' F', Step Z H F Z' H' F' → State c.G c.lk Z' H' σ ρ' F' → c.W x xs σ H'
  | .bad => False
/-- a list of values: each fresh or frozen -/
def tA (c : Cc) (m : DA) : TA := fun σ H Q => ∃ Z ρ F, State c.G c.lk Z H σ ρ F ∧ match m ρ with
  | .ok _ ds eff ρ' => ∀ Z' H' F' vs Gf, PostE c Z H σ ρ F eff ρ' Z' H' F' → RepL c.G Z' H' ds vs Gf → Fresh H F Z' F' Gf → Q vs H'
  | .ex x xs ρ' => ∀ Z' H' F', Step Z H F Z' H' F' → State c.G c.lk Z' H' σ ρ' F' → c.W x xs σ H'
  | .bad => False
def SOut (c : Cc) (Z H : Hp) (F : List Addr) (D : Ends) : SRes → Prop
  | .nx ρ' => ∀ Z' H' F' σ', Step Z H F Z' H' F' → State c.G c.lk Z' H' σ' ρ' F' → D.nx σ' H'
  | .bk ρ' => ∀ Z' H' F' σ', Step Z H F Z' H' F' → State c.G c.lk Z' H' σ' ρ' F' → D.bk σ' H'
  | .ct ρ' => ∀ Z' H' F' σ', Step Z H F Z' H' F' → State c.G c.lk Z' H' σ' ρ' F' → D.ct σ' H'
  | .rt d ρ' => ∀ Z' H' F' σ' v Gf, Step Z H F Z' H' F' → State c.G c.lk Z' H' σ' ρ' F' → Rep c.G Z' H' d v Gf → Fresh H F Z' F' Gf → D.rt v H'
  | .ex x xs ρ' => ∀ Z' H' F' σ', Step Z H F Z' H' F' → State c.G c.lk Z' H' σ' ρ' F' → c.W x xs σ' H'
  | .bad => False
def tS (c : Cc) (m : DS) : TS := fun D σ H => ∃ Z ρ F, State c.G c.lk Z H σ ρ F ∧ SOut c Z H F D (m ρ)

theorem _root_.L2.PE.imp {X : Cx} {e : Expr} {t u : TE} (h : PE X e t) (k : ∀ σ H Q, u σ H Q → t σ H Q) : PE X e u := ⟨fun pins s σ H Q I w => h.run pins s σ H Q I (k σ H Q w)⟩
theorem _root_.L2.PT.imp {X : Cx} {e : Expr} {t u : TT} (h : PT X e t) (k : ∀ σ H Q, u σ H Q → t σ H Q) : PT X e u := ⟨fun pins s σ H Q I w => h.run pins s σ H Q I (k σ H Q w)⟩
theorem _root_.L2.PW.imp {X : Cx} {e : Expr} {t u : TT} (h : PW X e t) (k : ∀ σ H Q, u σ H Q → t σ H Q) : PW X e u := ⟨fun wh pins s σ H Q I w => h.run wh pins s σ H Q I (k σ H Q w)⟩
theorem _root_.L2.PA.imp {X : Cx} {e : List Expr} {t u : TA} (h : PA X e t) (k : ∀ σ H Q, u σ H Q → t σ H Q) : PA X e u := ⟨fun pos pins s σ H Q I w => h.run pos pins s σ H Q I (k σ H Q w)⟩
theorem _root_.L2.PS.imp {X : Cx} {e : Stmt} {t u : TS} (h : PS X e t) (k : ∀ D σ H, u D σ H → t D σ H) : PS X e u := ⟨fun pins s σ H D I w => h.run pins s σ H D I (k D σ H w)⟩
theorem _root_.L2.PSs.imp {X : Cx} {e : List Stmt} {t u : TS} (h : PSs X e t) (k : ∀ D σ H, u D σ H → t D σ H) : PSs X e u := ⟨fun pins s σ H D I w => h.run pins s σ H D I (k D σ H w)⟩

section
variable {c : Cc} {Z H : Hp} {σ : St} {ρ : Env} {F : List Addr}
theorem tE.ok {m : DE} {Q : VK} {fr d eff ρ'} (S : State c.G c.lk Z H σ ρ F) (e : m ρ = .ok fr d eff ρ') (k : ∀ Z' H' F' v Gf, PostE c Z H σ ρ F eff ρ' Z' H' F' → Rep c.G Z' H' d v Gf → (fr = true → Fresh H F Z' F' Gf) → Q v H') : tE c m σ H Q :=
  ⟨Z, ρ, F, S, by rw [e]; exact k⟩
theorem tE.ex {m : DE} {Q : VK} {x xs ρ'} (S : State c.G c.lk Z H σ ρ F) (e : m ρ = .ex x xs ρ') (k : ∀ Z' H' F', Step Z H F Z' H' F' → State c.G c.lk Z' H' σ ρ' F' → c.W x xs σ H') : tE c m σ H Q :=
  ⟨Z, ρ, F, S, by rw [e]; exact k⟩
theorem tT.ok {m : DT} {Q : Bool → Hp → Prop} {fr d eff ρ'} (S : State c.G c.lk Z H σ ρ F) (e : m ρ = .ok fr d eff ρ') (k : ∀ Z' H' F', PostE c Z H σ ρ F eff ρ' Z' H' F' → Q d H') : tT c m σ H Q :=
  ⟨Z, ρ, F, S, by rw [e]; exact k⟩
theorem tT.ex {m : DT} {Q : Bool → Hp → Prop} {x xs ρ'} (S : State c.G c.lk Z H σ ρ F) (e : m ρ = .ex x xs ρ') (k : ∀ Z' H' F', Step Z H F Z' H' F' → State c.G c.lk Z' H' σ ρ' F' → c.W x xs σ H') : tT c m σ H Q :=
  ⟨Z, ρ, F, S, by rw [e]; exact k⟩
theorem tA.ok {m : DA} {Q : List V → Hp → Prop} {fr d eff ρ'} (S : State c.G c.lk Z H σ ρ F) (e : m ρ = .ok fr d eff ρ') (k : ∀ Z' H' F' vs Gf, PostE c Z H σ ρ F eff ρ' Z' H' F' → RepL c.G Z' H' d vs Gf → Fresh H F Z' F' Gf → Q vs H') : tA c m σ H Q :=
  ⟨Z, ρ, F, S, by rw [e]; exact k⟩
theorem tA.ex {m : DA} {Q : List V → Hp → Prop} {x xs ρ'} (S : State c.G c.lk Z H σ ρ F) (e : m ρ = .ex x xs ρ') (k : ∀ Z' H' F', Step Z H F Z' H' F' → State c.G c.lk Z' H' σ ρ' F' → c.W x xs σ H') : tA c m σ H Q :=
  ⟨Z, ρ, F, S, by rw [e]; exact k⟩
theorem tS.nx {m : DS} {D : Ends} {ρ'} (S : State c.G c.lk Z H σ ρ F) (e : m ρ = .nx ρ') (k : ∀ Z' H' F' σ', Step Z H F Z' H' F' → State c.G c.lk Z' H' σ' ρ' F' → D.nx σ' H') : tS c m D σ H := ⟨Z, ρ, F, S, by rw [e]; exact k⟩
theorem tS.bk {m : DS} {D : Ends} {ρ'} (S : State c.G c.lk Z H σ ρ F) (e : m ρ = .bk ρ') (k : ∀ Z' H' F' σ', Step Z H F Z' H' F' → State c.G c.lk Z' H' σ' ρ' F' → D.bk σ' H') : tS c m D σ H := ⟨Z, ρ, F, S, by rw [e]; exact k⟩
theorem tS.ct {m : DS} {D : Ends} {ρ'} (S : State c.G c.lk Z H σ ρ F) (e : m ρ = .ct ρ') (k : ∀ Z' H' F' σ', Step Z H F Z' H' F' → State c.G c.lk Z' H' σ' ρ' F' → D.ct σ' H') : tS c m D σ H := ⟨Z, ρ, F, S, by rw [e]; exact k⟩
theorem tS.rt {m : DS} {D : Ends} {d ρ'} (S : State c.G c.lk Z H σ ρ F) (e : m ρ = .rt d ρ') (k : ∀ Z' H' F' σ' v Gf, Step Z H F Z' H' F' → State c.G c.lk Z' H' σ' ρ' F' → Rep c.G Z' H' d v Gf → Fresh H F Z' F' Gf → D.rt v H') : tS c m D σ H := ⟨Z, ρ, F, S, by rw [e]; exact k⟩
theorem tS.ex {m : DS} {D : Ends} {x xs ρ'} (S : State c.G c.lk Z H σ ρ F) (e : m ρ = .ex x xs ρ') (k : ∀ Z' H' F' σ', Step Z H F Z' H' F' → State c.G c.lk Z' H' σ' ρ' F' → c.W x xs σ' H') : tS c m D σ H := ⟨Z, ρ, F, S, by rw [e]; exact k⟩
end
end Dd
/-! Rules for expressions. -/
namespace Dd
open PySem L2

/-! ### names and constants -/
def dVar (i : Nat) : DE := fun ρ => match ρ[i]? with
  | some (some d) => .ok false d false ρ
  | _ => .bad
/-- the name's data leaves the name's hands: frozen first -/
def dFz (i : Nat) : DE := fun ρ => match ρ[i]? with
  | some (some d) => if frz d = true then .ok true d false ρ else .ok true (fz d) true (ρ.set i (some (fz d)))
  | _ => .bad
/-- the name's data is handed on, the name is empty behind it -/
def dMv (i : Nat) : DE := fun ρ => match ρ[i]? with
  | some (some d) => .ok true d true (ρ.set i none)
  | _ => .bad
def dC (d : D) : DE := fun ρ => .ok true d false ρ
def dBad : DE := fun _ => .bad
section
variable {c : Cc} {X : Cx} {e : Expr}
theorem e_var {i : Nat} (h : PE X e (tVar i)) : PE X e (tE c (dVar i)) := h.imp fun σ H Q w => by
  obtain ⟨Z, ρ, F, S, w⟩ := w
  cases hi : ρ[i]? with
  | none => simp only [dVar, hi] at w
  | some o =>
    cases o with
    | none => simp only [dVar, hi] at w
    | some d =>
      simp only [dVar, hi] at w
      obtain ⟨v, A, F1, B, g1, g2, g3, g4⟩ := S.rs.get hi
      exact ⟨v, g1, w Z H F v F1 (PostE.refl S) g3 fun q => nomatch q⟩
theorem e_fz {i : Nat} (h : PE X e (tVar i)) : PE X e (tE c (dFz i)) := h.imp fun σ H Q w => by
  obtain ⟨Z, ρ, F, S, w⟩ := w
  cases hi : ρ[i]? with
  | none => simp only [dFz, hi] at w
  | some o =>
    cases o with
    | none => simp only [dFz, hi] at w
    | some d =>
      simp only [dFz, hi] at w
      by_cases hf : frz d = true
      · rw [if_pos hf] at w
        obtain ⟨v, A, F1, B, g1, g2, g3, g4⟩ := S.rs.get hi
        have e1 := g3.frz_nil hf
        subst e1
        exact ⟨v, g1, w Z H F v [] (PostE.refl S) g3 fun _ => Fresh.nil⟩
      · rw [if_neg hf] at w
        obtain ⟨v, Z', F', g1, g2, g3, g4⟩ := S.freeze hi
        exact ⟨v, g1, w Z' H F' v [] ⟨g4, g3, fun q => nomatch q⟩ g2 fun _ => Fresh.nil⟩
theorem e_mv {i : Nat} (h : PE X e (tVar i)) : PE X e (tE c (dMv i)) := h.imp fun σ H Q w => by
  obtain ⟨Z, ρ, F, S, w⟩ := w
  cases hi : ρ[i]? with
  | none => simp only [dMv, hi] at w
  | some o =>
    cases o with
    | none => simp only [dMv, hi] at w
    | some d =>
      simp only [dMv, hi] at w
      obtain ⟨v, A, F1, B, g1, g2, g3, g4⟩ := S.rs.get hi
      obtain ⟨n1, n2, n3⟩ := nodup_mid (by rw [← g2]; exact S.nd)
      have sub : ∀ a, a ∈ A ++ B → a ∈ F := fun a ha => by rw [g2]; exact mem_mid.mpr (.inr ha)
      refine ⟨v, g1, w Z H (A ++ B) v F1 ⟨(Step.refl S.zh).sub fun a ha => .inl (sub a ha), ⟨S.zh, g4, n1, fun a ha => S.fz a (sub a ha), S.lk⟩, fun q => nomatch q⟩ g3 fun _ => ⟨n2, fun a ha => .inl (by rw [g2]; exact mem_mid.mpr (.inl ha)), fun a ha => S.fz a (by rw [g2]; exact mem_mid.mpr (.inl ha)), n3⟩⟩
theorem e_con {d : D} {v : V} (h : PE X e (tC v)) (r : ∀ G Z H, Rep G Z H d v []) : PE X e (tE c (dC d)) := h.imp fun σ H Q w => by
  obtain ⟨Z, ρ, F, S, w⟩ := w
  exact w Z H F v [] (PostE.refl S) (r _ _ _) fun _ => Fresh.nil
theorem e_int {i j pos} : PE X (.Constant (.int i) j pos) (tE c (dC (.int i))) := e_con pe_int fun _ _ _ => ⟨rfl, rfl⟩
theorem e_bl {i j pos} : PE X (.Constant (.bool i) j pos) (tE c (dC (.bl i))) := e_con pe_bl fun _ _ _ => ⟨rfl, rfl⟩
theorem e_non {j pos} : PE X (.Constant .none j pos) (tE c (dC .non)) := e_con pe_non fun _ _ _ => ⟨rfl, rfl⟩
theorem e_str {x j pos} : PE X (.Constant (.str x) j pos) (tE c (dC (.str x))) := e_con pe_str fun _ _ _ => ⟨rfl, rfl⟩
end

/-! ### operations by values -/
/-- what a value operation promises -/
def Op2 (G : Gx) (r : R2) (f : D → D → Option (Bool × D)) : Prop := ∀ (Z H : Hp) (x y : D) (v w : V) (F1 F2 : List Addr) (fr : Bool) (z : D), Ex Z H → Rep G Z H x v F1 → Rep G Z H y w F2 → f x y = some (fr, z) →
  ∀ Q : VK, (∀ Z' H' u Gf, New Z H Z' H' → Rep G Z' H' z u Gf → (fr = true → Gf.Nodup ∧ ∀ a ∈ Gf, H a = none ∧ Z' a = none) → Q u H') → r v w H Q
def Op1 (G : Gx) (r : V → Hp → VK → Prop) (f : D → Option (Bool × D)) : Prop := ∀ (Z H : Hp) (x : D) (v : V) (F1 : List Addr) (fr : Bool) (z : D), Ex Z H → Rep G Z H x v F1 → f x = some (fr, z) →
  ∀ Q : VK, (∀ Z' H' u Gf, New Z H Z' H' → Rep G Z' H' z u Gf → (fr = true → Gf.Nodup ∧ ∀ a ∈ Gf, H a = none ∧ Z' a = none) → Q u H') → r v H Q
def bind2 (f : D → D → Option (Bool × D)) (a b : DE) : DE := fun ρ => match a ρ with
  | .ok f1 x e1 ρ1 => (match b ρ1 with
    | .ok f2 y e2 ρ2 => if (!e2 || f1 || frz x) = true then (match f x y with | some (fr, z) => .ok fr z (e1 || e2) ρ2 | none => .bad) else .bad
    | .ex c xs ρ2 => .ex c xs ρ2
    | .bad => .bad)
  | .ex c xs ρ1 => .ex c xs ρ1
  | .bad => .bad
def bind1 (f : D → Option (Bool × D)) (a : DE) : DE := fun ρ => match a ρ with
  | .ok f1 x e1 ρ1 => (match f x with | some (fr, z) => .ok fr z e1 ρ1 | none => .bad)
  | .ex c xs ρ1 => .ex c xs ρ1
  | .bad => .bad
theorem fresh_of {H Z : Hp} {Gf F0 F : List Addr} (p : Gf.Nodup ∧ ∀ a ∈ Gf, H a = none ∧ Z a = none) (hF : ∀ a ∈ F, H a ≠ none) : Fresh H F0 Z F Gf :=
  ⟨p.1, fun a ha => .inr (p.2 a ha).1, fun a ha => (p.2 a ha).2, fun a ha q => hF a q (p.2 a ha).1⟩
section
variable {c : Cc} {ma mb mc : DE} {σ : St} {H : Hp} {Q : VK}
theorem bind2_imp {r : R2} {f : D → D → Option (Bool × D)} (hr : Op2 c.G r f) (w : tE c (bind2 f ma mb) σ H Q) : tOp r (tE c ma) (tE c mb) σ H Q := by
  obtain ⟨Z, ρ, F, S, w⟩ := w
  show tE c ma σ H fun x H1 => tE c mb σ H1 fun y H2 => r x y H2 Q
  cases ha : ma ρ with
  | bad => simp only [bind2, ha] at w
  | ex x xs ρ1 =>
    simp only [bind2, ha] at w
    exact tE.ex S ha w
  | ok f1 x e1 ρ1 =>
    simp only [bind2, ha] at w
    refine tE.ok S ha fun Z1 H1 F1 v G1 P1 R1 f1h => ?_
    cases hb : mb ρ1 with
    | bad => simp only [hb] at w
    | ex x xs ρ2 =>
      simp only [hb] at w
      exact tE.ex P1.sta hb fun Z2 H2 F2 s2 S2 => w Z2 H2 F2 (P1.st.trans s2) S2
    | ok f2 y e2 ρ2 =>
      simp only [hb] at w
      refine tE.ok P1.sta hb fun Z2 H2 F2 u G2 P2 R2 f2h => ?_
      by_cases hk : (!e2 || f1 || frz x) = true
      · rw [if_pos hk] at w
        cases hf : f x y with
        | none => simp only [hf] at w
        | some p =>
          obtain ⟨fr, z⟩ := p
          simp only [hf] at w
          refine hr Z2 H2 x y v u G1 G2 fr z P2.sta.zh (R1.later f1h P2 hk) R2 hf Q fun Z3 H3 t G3 n3 R3 f3 => ?_
          have P3 := PostE.new P2.sta n3
          have P := (P1.trans P2).trans P3
          rw [Bool.or_false] at P
          refine w Z3 H3 F2 t G3 P R3 fun q => ?_
          exact Fresh.earlier (P1.trans P2) (fresh_of (f3 q) fun a ha => P2.sta.dom ha)
      · rw [if_neg hk] at w
        exact w.elim
theorem bind1_imp {r : V → Hp → VK → Prop} {f : D → Option (Bool × D)} (hr : Op1 c.G r f) (w : tE c (bind1 f ma) σ H Q) : tE c ma σ H fun x H1 => r x H1 Q := by
  obtain ⟨Z, ρ, F, S, w⟩ := w
  cases ha : ma ρ with
  | bad => simp only [bind1, ha] at w
  | ex x xs ρ1 =>
    simp only [bind1, ha] at w
    exact tE.ex S ha w
  | ok f1 x e1 ρ1 =>
    simp only [bind1, ha] at w
    refine tE.ok S ha fun Z1 H1 F1 v G1 P1 R1 f1h => ?_
    cases hf : f x with
    | none => simp only [hf] at w
    | some p =>
      obtain ⟨fr, z⟩ := p
      simp only [hf] at w
      refine hr Z1 H1 x v G1 fr z P1.sta.zh R1 hf Q fun Z3 H3 t G3 n3 R3 f3 => ?_
      have P := P1.trans (PostE.new P1.sta n3)
      rw [Bool.or_false] at P
      exact w Z3 H3 F1 t G3 P R3 fun q => Fresh.earlier P1 (fresh_of (f3 q) fun a ha => P1.sta.dom ha)
end
section
variable {c : Cc} {X : Cx} {a b o : Expr} {ma mb mc : DE} {pos : Pos}
theorem e_op {op : Operator} {r : R2} {f : D → D → Option (Bool × D)} (hr : OpR X (binaryOp op) r) (ho : Op2 c.G r f) (ha : PE X a (tE c ma)) (hb : PE X b (tE c mb)) : PE X (.BinOp a op b pos) (tE c (bind2 f ma mb)) := (pe_op hr ha hb).imp fun _ _ _ w => bind2_imp ho w
theorem e_un {op : UnaryOp} {r : V → Hp → VK → Prop} {f : D → Option (Bool × D)} (hr : UnR X (unaryOp op) r) (ho : Op1 c.G r f) (ha : PE X a (tE c ma)) : PE X (.UnaryOp op a pos) (tE c (bind1 f ma)) := (pe_un hr ha).imp fun _ _ _ w => bind1_imp ho w
theorem e_cmp {op : CmpOp} {r : R2} {f : D → D → Option (Bool × D)} (hr : OpR X (compareOp op) r) (ho : Op2 c.G r f) (ha : PE X a (tE c ma)) (hb : PE X b (tE c mb)) (hm : behindInMarks op b = false) : PE X (.Compare a [op] [b] pos) (tE c (bind2 f ma mb)) := (pe_cmpR hr ha hb hm).imp fun _ _ _ w => bind2_imp ho w
theorem e_ix {r : R2} {f : D → D → Option (Bool × D)} (hr : IxR X r) (ho : Op2 c.G r f) (ha : PE X a (tE c ma)) (hb : PE X b (tE c mb)) (hs : PlainIx b) : PE X (.Subscript a b pos) (tE c (bind2 f ma mb)) := (pe_ix hr ha hb hs).imp fun _ _ _ w => bind2_imp ho w
end

/-! ### what is scalar -/
def sv : D → Option V
  | .non => some .non
  | .bl b => some (.bl b)
  | .int i => some (.int i)
  | .str s => some (.str s)
  | .box _ _ _ => none
theorem sv_rep {G : Gx} {Z H : Hp} {d : D} {v : V} (h : sv d = some v) : Rep G Z H d v [] := by
  cases d <;> simp only [sv, Option.some.injEq, reduceCtorEq] at h <;> subst h <;> exact ⟨rfl, rfl⟩
theorem op2_sc {G : Gx} {r : R2} {f : D → D → Option (Bool × D)} (h : ∀ (Z H : Hp) (x y : D) (v w : V) (F1 F2 : List Addr) (fr : Bool) (z : D), Ex Z H → Rep G Z H x v F1 → Rep G Z H y w F2 → f x y = some (fr, z) → ∃ u, sv z = some u ∧ ∀ Q : VK, Q u H → r v w H Q) : Op2 G r f := by
  intro Z H x y v w F1 F2 fr z hz r1 r2 hf Q k
  obtain ⟨u, hu, q⟩ := h Z H x y v w F1 F2 fr z hz r1 r2 hf
  exact q Q (k Z H u [] (New.refl hz) (sv_rep hu) fun _ => ⟨List.nodup_nil, by simp⟩)
theorem op1_sc {G : Gx} {r : V → Hp → VK → Prop} {f : D → Option (Bool × D)} (h : ∀ (Z H : Hp) (x : D) (v : V) (F1 : List Addr) (fr : Bool) (z : D), Ex Z H → Rep G Z H x v F1 → f x = some (fr, z) → ∃ u, sv z = some u ∧ ∀ Q : VK, Q u H → r v H Q) : Op1 G r f := by
  intro Z H x v F1 fr z hz r1 hf Q k
  obtain ⟨u, hu, q⟩ := h Z H x v F1 fr z hz r1 hf
  exact q Q (k Z H u [] (New.refl hz) (sv_rep hu) fun _ => ⟨List.nodup_nil, by simp⟩)

/-! ### ints -/
def fInt (C : Int → Int → Bool) (g : Int → Int → D) : D → D → Option (Bool × D)
  | .int i, .int j => if C i j = true then some (true, g i j) else none
  | _, _ => none
theorem op_int {G : Gx} {C : Int → Int → Prop} {C' : Int → Int → Bool} {g : Int → Int → V} {g' : Int → Int → D} (hC : ∀ i j, C' i j = true → C i j) (hg : ∀ i j, sv (g' i j) = some (g i j)) : Op2 G (rI C g) (fInt C' g') := op2_sc fun Z H x y v w F1 F2 fr z _ r1 r2 hf => by
  cases x <;> cases y <;> simp only [fInt, reduceCtorEq] at hf
  rename_i i j
  split at hf
  · rename_i hc
    simp only [Option.some.injEq, Prod.mk.injEq] at hf
    obtain ⟨rfl, rfl⟩ := hf
    exact ⟨g i j, hg i j, fun Q q => ⟨i, j, r1.1, r2.1, hC i j hc, q⟩⟩
  · cases hf
theorem op_int0 {G : Gx} {g : Int → Int → V} {g' : Int → Int → D} (hg : ∀ i j, sv (g' i j) = some (g i j)) : Op2 G (rI0 g) (fInt (fun _ _ => true) g') := op2_sc fun Z H x y v w F1 F2 fr z _ r1 r2 hf => by
  cases x <;> cases y <;> simp only [fInt, reduceCtorEq, if_true] at hf
  rename_i i j
  simp only [Option.some.injEq, Prod.mk.injEq] at hf
  obtain ⟨rfl, rfl⟩ := hf
  exact ⟨g i j, hg i j, fun Q q => ⟨i, j, r1.1, r2.1, q⟩⟩
def fAdd := fInt (fun _ _ => true) fun i j => .int (i + j)
def fSub := fInt (fun _ _ => true) fun i j => .int (i - j)
def okMul (i j : Int) : Bool := decide (i.natAbs < 2 ^ 64) || decide (j.natAbs < 2 ^ 64)
def fMul := fInt okMul fun i j => .int (i * j)
def okDiv (j : Int) : Bool := decide (0 < j ∧ j < 1073741824)
def fDiv := fInt (fun _ j => okDiv j) fun i j => .int (i / j)
def fMod := fInt (fun _ j => decide (0 < j)) fun i j => .int (i % j)
def fPow := fInt (fun i j => decide (0 ≤ j ∧ j ≤ 1000000 ∧ i.natAbs < 2 ^ 64)) fun i j => .int (i ^ j.toNat)
def fNeg : D → Option (Bool × D)
  | .int i => some (true, .int (-i))
  | _ => none
def fCmp (p : Int → Int → Bool) := fInt (fun _ _ => true) fun i j => .bl (p i j)
section
variable {G : Gx}
theorem o_add : Op2 G (rI0 fun i j => .int (i + j)) fAdd := op_int0 fun _ _ => rfl
theorem o_sub : Op2 G (rI0 fun i j => .int (i - j)) fSub := op_int0 fun _ _ => rfl
theorem o_mul : Op2 G (rI CMul fun i j => .int (i * j)) fMul := op_int (fun i j h => by
  simp only [okMul, Bool.or_eq_true, decide_eq_true_eq] at h
  rcases h with h | h
  · exact .inl (by omega)
  · exact .inr (by omega)) fun _ _ => rfl
theorem o_div : Op2 G (rI CDiv fun i j => .int (i / j)) fDiv := op_int (fun i j h => (show 0 < j ∧ j < 1073741824 from of_decide_eq_true h)) fun _ _ => rfl
theorem o_mod : Op2 G (rI (fun _ j => 0 < j) fun i j => .int (i % j)) fMod := op_int (fun i j h => of_decide_eq_true h) fun _ _ => rfl
theorem o_pow : Op2 G (rI CPow fun i j => .int (i ^ j.toNat)) fPow := op_int (fun i j h => (show 0 ≤ j ∧ j ≤ 1000000 ∧ i.natAbs < 2 ^ 64 from of_decide_eq_true h)) fun _ _ => rfl
theorem o_neg : Op1 G (rU fun i => .int (-i)) fNeg := op1_sc fun Z H x v F1 fr z _ r1 hf => by
  cases x <;> simp only [fNeg, reduceCtorEq] at hf
  rename_i i
  simp only [Option.some.injEq, Prod.mk.injEq] at hf
  obtain ⟨rfl, rfl⟩ := hf
  exact ⟨_, rfl, fun Q q => ⟨i, r1.1, q⟩⟩
abbrev fLt := fCmp fun i j => decide (i < j)
abbrev fLe := fCmp fun i j => decide (i ≤ j)
abbrev fGt := fCmp fun i j => decide (j < i)
abbrev fGe := fCmp fun i j => decide (j ≤ i)
theorem o_lt : Op2 G (rI0 fun i j => .bl (decide (i < j))) fLt := op_int0 fun _ _ => rfl
theorem o_le : Op2 G (rI0 fun i j => .bl (decide (i ≤ j))) fLe := op_int0 fun _ _ => rfl
theorem o_gt : Op2 G (rI0 fun i j => .bl (decide (j < i))) fGt := op_int0 fun _ _ => rfl
theorem o_ge : Op2 G (rI0 fun i j => .bl (decide (j ≤ i))) fGe := op_int0 fun _ _ => rfl
end

/-! ### is None -/
def isNon : D → Bool
  | .non => true
  | _ => false
def fIs (x y : D) : Option (Bool × D) := match y with
  | .non => some (true, .bl (isNon x))
  | _ => none
def fIsNot (x y : D) : Option (Bool × D) := match y with
  | .non => some (true, .bl (!isNon x))
  | _ => none
section
variable {G : Gx} {Z H : Hp}
theorem isNon_rep {x : D} {v : V} {F : List Addr} (r : Rep G Z H x v F) : decide (v = .non) = isNon x := by
  cases x with
  | non => rw [r.1]; rfl
  | bl b => rw [r.1]; rfl
  | int b => rw [r.1]; rfl
  | str b => rw [r.1]; rfl
  | box o k ds =>
    obtain ⟨a, _, _, rfl, _⟩ := r
    rfl
theorem o_is : Op2 G (fun x y H Q => y = .non ∧ Q (.bl (decide (x = .non))) H) fIs := op2_sc fun Z H x y v w F1 F2 fr z _ r1 r2 hf => by
  cases y <;> simp only [fIs, reduceCtorEq] at hf
  simp only [Option.some.injEq, Prod.mk.injEq] at hf
  obtain ⟨rfl, rfl⟩ := hf
  exact ⟨_, rfl, fun Q q => ⟨r2.1, by rw [isNon_rep r1]; exact q⟩⟩
theorem o_isnot : Op2 G (fun x y H Q => y = .non ∧ Q (.bl (!decide (x = .non))) H) fIsNot := op2_sc fun Z H x y v w F1 F2 fr z _ r1 r2 hf => by
  cases y <;> simp only [fIsNot, reduceCtorEq] at hf
  simp only [Option.some.injEq, Prod.mk.injEq] at hf
  obtain ⟨rfl, rfl⟩ := hf
  exact ⟨_, rfl, fun Q q => ⟨r2.1, by rw [isNon_rep r1]; exact q⟩⟩
end

/-! ### == and != -/
mutual
def toPy : D → Option PyData
  | .non => some .none
  | .bl b => some (.bool b)
  | .int i => some (.int i)
  | .str s => some (.str s)
  | .box _ .tup ds => (toPyL ds).map .tuple
  | .box _ .lst ds => (toPyL ds).map .list
  | .box _ _ _ => none
def toPyL : List D → Option (List PyData)
  | [] => some []
  | d :: ds => (toPy d).bind fun x => (toPyL ds).map fun xs => x :: xs
end
section
variable {G : Gx} {Z H : Hp}
theorem own_sqL {a : Addr} {vs : List V} {o : HO} (h : HoIs G .lst vs o) (e : H a = some o) : SqL G.K H a vs := by
  obtain rfl : o = .lst vs := h
  exact SqL.of e
/-- a list's items, wherever it stands -/
theorem rep_lst (zh : Ex Z H) {own : Bool} {ds : List D} {v : V} {F : List Addr} (r : Rep G Z H (.box own .lst ds) v F) : ∃ a vs F', v = .ref a ∧ SqL G.K H a vs ∧ RepL G Z H ds vs F' ∧ (own = true → H a = some (.lst vs)) ∧ (own = false → F = [] ∧ F' = [] ∧ SqL G.K Z a vs) ∧ (own = true → F = a :: F') := by
  obtain ⟨a, vs, F', hv, hl, h1, h2⟩ := r
  refine ⟨a, vs, F', hv, ?_, hl, fun q => ?_, fun q => ?_, fun q => (h2 q).1⟩
  · cases own with
    | false => exact ex_l zh (h1 rfl).2.1
    | true =>
      obtain ⟨_, o, p1, p2⟩ := h2 rfl
      exact own_sqL p2 p1
  · obtain ⟨_, o, p1, p2⟩ := h2 q
    obtain rfl : o = .lst vs := p2
    exact p1
  · obtain ⟨p1, p2, p3⟩ := h1 q
    rcases p3 with p3 | p3
    · cases p3
    · exact ⟨by rw [p1, p3], p3, p2⟩
theorem rep_tup (zh : Ex Z H) {own : Bool} {ds : List D} {v : V} {F : List Addr} (r : Rep G Z H (.box own .tup ds) v F) : own = false ∧ ∃ a vs, v = .ref a ∧ SqT G.K Z a vs ∧ RepL G Z H ds vs F := by
  obtain ⟨a, vs, F', hv, hl, h1, h2⟩ := r
  cases own with
  | false => exact ⟨rfl, a, vs, hv, (h1 rfl).2.1, by rw [(h1 rfl).1]; exact hl⟩
  | true =>
    obtain ⟨_, o, p1, p2⟩ := h2 rfl
    exact p2.elim
mutual
theorem rep_dp (zh : Ex Z H) : ∀ {d : D} {v : V} {F : List Addr} {p : PyData}, Rep G Z H d v F → toPy d = some p → Dp G.K H v p
  | .non, _, _, _, r, e => by simp only [toPy, Option.some.injEq] at e; subst e; rw [r.1]; exact .non
  | .bl b, _, _, _, r, e => by simp only [toPy, Option.some.injEq] at e; subst e; rw [r.1]; exact .bl b
  | .int b, _, _, _, r, e => by simp only [toPy, Option.some.injEq] at e; subst e; rw [r.1]; exact .int b
  | .str b, _, _, _, r, e => by simp only [toPy, Option.some.injEq] at e; subst e; rw [r.1]; exact .str b
  | .box own .tup ds, v, F, p, r, e => by
    obtain ⟨_, a, vs, hv, ht, hl⟩ := rep_tup zh r
    cases hp : toPyL ds with
    | none => simp only [toPy, hp, Option.map_none, reduceCtorEq] at e
    | some ps =>
      simp only [toPy, hp, Option.map_some, Option.some.injEq] at e
      subst e
      rw [hv]
      exact .tup (ex_t zh ht) (repL_dp zh hl hp)
  | .box own .lst ds, v, F, p, r, e => by
    obtain ⟨a, vs, F', hv, ht, hl, _⟩ := rep_lst zh r
    cases hp : toPyL ds with
    | none => simp only [toPy, hp, Option.map_none, reduceCtorEq] at e
    | some ps =>
      simp only [toPy, hp, Option.map_some, Option.some.injEq] at e
      subst e
      rw [hv]
      exact .lst ht (repL_dp zh hl hp)
  | .box own (.dic _) ds, v, F, p, r, e => by simp only [toPy, reduceCtorEq] at e
  | .box own (.dit _) ds, v, F, p, r, e => by simp only [toPy, reduceCtorEq] at e
  | .box own (.obj _ _) ds, v, F, p, r, e => by simp only [toPy, reduceCtorEq] at e
theorem repL_dp (zh : Ex Z H) : ∀ {ds : List D} {vs : List V} {F : List Addr} {ps : List PyData}, RepL G Z H ds vs F → toPyL ds = some ps → DpAll G.K H vs ps
  | [], _, _, _, r, e => by simp only [toPyL, Option.some.injEq] at e; subst e; rw [r.1]; exact .nil
  | d :: ds, vs, F, ps, r, e => by
    obtain ⟨v, vs', F1, F2, e1, e2, h1, h2⟩ := r
    cases hp : toPy d with
    | none => simp only [toPyL, hp, Option.bind_none, reduceCtorEq] at e
    | some p =>
      cases hq : toPyL ds with
      | none => simp only [toPyL, hp, hq, Option.bind_some, Option.map_none, reduceCtorEq] at e
      | some qs =>
        simp only [toPyL, hp, hq, Option.bind_some, Option.map_some, Option.some.injEq] at e
        subst e
        rw [e1]
        exact .cons (rep_dp zh h1 hp) (repL_dp zh h2 hq)
end
end
def eqDeep (x y : D) : Option Bool := match toPy x, toPy y with
  | some p, some q => if (SeqAt.shaped p && SeqAt.shaped q) = true then some (PyData.eqv p q) else none
  | _, _ => none
def eqV' : D → D → Option Bool
  | .int i, .int j => some (decide (i = j))
  | .str i, .str j => some (decide (i = j))
  | .bl i, .bl j => some (decide (i = j))
  | .non, .non => some true
  | x, y => eqDeep x y
def fEq (x y : D) : Option (Bool × D) := (eqV' x y).map fun b => (true, .bl b)
def fNe (x y : D) : Option (Bool × D) := (eqV' x y).map fun b => (true, .bl (!b))
section
variable {G : Gx} {Z H : Hp}
theorem eq_cases {x y : D} {v w : V} {F1 F2 : List Addr} {b : Bool} (zh : Ex Z H) (r1 : Rep G Z H x v F1) (r2 : Rep G Z H y w F2) (h : eqV' x y = some b) :
    (scal v w = true ∧ decide (v = w) = b) ∨ ∃ d e, Dp G.K H v d ∧ Dp G.K H w e ∧ SeqAt.shaped d = true ∧ SeqAt.shaped e = true ∧ PyData.eqv d e = b := by
  have deep : eqDeep x y = some b → ∃ d e, Dp G.K H v d ∧ Dp G.K H w e ∧ SeqAt.shaped d = true ∧ SeqAt.shaped e = true ∧ PyData.eqv d e = b := fun h => by
    unfold eqDeep at h
    cases hp : toPy x with
    | none => simp only [hp, reduceCtorEq] at h
    | some p =>
      cases hq : toPy y with
      | none => simp only [hp, hq, reduceCtorEq] at h
      | some q =>
        simp only [hp, hq] at h
        split at h
        · rename_i hs
          rw [Bool.and_eq_true] at hs
          exact ⟨p, q, rep_dp zh r1 hp, rep_dp zh r2 hq, hs.1, hs.2, Option.some.inj h⟩
        · cases h
  cases x <;> cases y <;> first
    | (simp only [eqV'] at h; exact .inr (deep h))
    | (simp only [eqV', Option.some.injEq] at h; rw [r1.1, r2.1]; refine .inl ⟨rfl, ?_⟩; rw [← h]; first | rfl | simp)
theorem o_eq : Op2 G (fun x y H Q => rEq x y H Q ∨ rEqD G.K x y H Q) fEq := op2_sc fun Z H x y v w F1 F2 fr z zh r1 r2 hf => by
  unfold fEq at hf
  cases hb : eqV' x y with
  | none => rw [hb] at hf; cases hf
  | some b =>
    rw [hb] at hf
    simp only [Option.map_some, Option.some.injEq, Prod.mk.injEq] at hf
    obtain ⟨rfl, rfl⟩ := hf
    refine ⟨_, rfl, fun Q q => ?_⟩
    rcases eq_cases zh r1 r2 hb with ⟨h1, h2⟩ | ⟨d, e, h1, h2, h3, h4, h5⟩
    · exact .inl ⟨h1, by rw [h2]; exact q⟩
    · exact .inr ⟨d, e, h1, h2, h3, h4, by rw [h5]; exact q⟩
theorem o_ne : Op2 G (fun x y H Q => rNe x y H Q ∨ rNeD G.K x y H Q) fNe := op2_sc fun Z H x y v w F1 F2 fr z zh r1 r2 hf => by
  unfold fNe at hf
  cases hb : eqV' x y with
  | none => rw [hb] at hf; cases hf
  | some b =>
    rw [hb] at hf
    simp only [Option.map_some, Option.some.injEq, Prod.mk.injEq] at hf
    obtain ⟨rfl, rfl⟩ := hf
    refine ⟨_, rfl, fun Q q => ?_⟩
    rcases eq_cases zh r1 r2 hb with ⟨h1, h2⟩ | ⟨d, e, h1, h2, h3, h4, h5⟩
    · exact .inl ⟨h1, by rw [h2]; exact q⟩
    · exact .inr ⟨d, e, h1, h2, h3, h4, by rw [h5]; exact q⟩
end
end Dd
/-! Rules for expressions, further: displays, subscripts, slices, built-ins, tests. -/
namespace Dd
open PySem L2

theorem big_le {n : Nat} (h : n ≤ 1000000) : n ≤ sizeLine := Nat.le_trans h (by decide)
theorem big_lt {n : Nat} (h : n < 1000000) : n < sizeLine := Nat.lt_of_lt_of_le h (by decide)
theorem z_none {Z H : Hp} (zh : Ex Z H) {p : Addr} (h : H p = none) : Z p = none := by
  cases q : Z p with
  | none => rfl
  | some o => rw [zh p o q] at h; cases h
theorem upd_new {H : Hp} {p : Addr} {o : HO} (h : H p = none) {a : Addr} {u : HO} (e : H a = some u) : upd H p o a = some u := by
  rw [upd_ne (ne_of_none e h)]; exact e
/-- a new object, frozen at once -/
theorem New.fro {Z H : Hp} {p : Addr} {o : HO} (zh : Ex Z H) (h : H p = none) : New Z H (upd Z p o) (upd H p o) :=
  ⟨Ex.new (z_none zh h), Ex.new h, fun a u e => by
    by_cases q : a = p
    · subst q; rw [upd_same] at e ⊢; exact e
    · rw [upd_ne q] at e ⊢; exact zh a u e, fun a ha => upd_ne fun q => ha (by rw [q]; exact h)⟩
/-- a new object, owned -/
theorem New.own {Z H : Hp} {p : Addr} {o : HO} (zh : Ex Z H) (h : H p = none) : New Z H Z (upd H p o) :=
  ⟨Ex.refl _, Ex.new h, zh.trans (Ex.new h), fun _ _ => rfl⟩
section
variable {G : Gx} {Z H : Hp}
theorem rep_newT {ds : List D} {vs : List V} {F : List Addr} {p : Addr} (zh : Ex Z H) (h : H p = none) (r : RepL G Z H ds vs F) : Rep G (upd Z p (.tup vs)) (upd H p (.tup vs)) (.box false .tup ds) (.ref p) F :=
  ⟨p, vs, F, rfl, r.mono (Ex.new (z_none zh h)) fun a ha o e => upd_new h e, fun _ => ⟨rfl, .inl (.inl upd_same), .inl rfl⟩, fun q => nomatch q⟩
theorem rep_newL {ds : List D} {vs : List V} {F : List Addr} {p : Addr} (zh : Ex Z H) (h : H p = none) (r : RepL G Z H ds vs F) : Rep G Z (upd H p (.lst vs)) (.box true .lst ds) (.ref p) (p :: F) :=
  ⟨p, vs, F, rfl, r.mono (Ex.refl _) fun a ha o e => upd_new h e, fun q => (nomatch q), fun _ => ⟨rfl, _, upd_same, rfl⟩⟩
end

/-! ### argument lists -/
def dNil : DA := fun ρ => .ok true [] false ρ
def dCons (m : DE) (r : DA) : DA := fun ρ => match m ρ with
  | .ok f1 x e1 ρ1 => if (f1 || frz x) = true then (match r ρ1 with
    | .ok _ xs e2 ρ2 => .ok true (x :: xs) (e1 || e2) ρ2
    | .ex c ys ρ2 => .ex c ys ρ2
    | .bad => .bad) else .bad
  | .ex c xs ρ1 => .ex c xs ρ1
  | .bad => .bad
section
variable {c : Cc} {X : Cx} {e : Expr} {es : List Expr} {m : DE} {r : DA} {pos : Pos}
theorem a_nil : PA X [] (tA c dNil) := pa_nil.imp fun σ H Q w => by
  obtain ⟨Z, ρ, F, S, w⟩ := w
  exact w Z H F [] [] (PostE.refl S) ⟨rfl, rfl⟩ Fresh.nil
theorem cons_imp {σ : St} {H : Hp} {Q : List V → Hp → Prop} (w : tA c (dCons m r) σ H Q) : tCons (tE c m) (tA c r) σ H Q := by
  obtain ⟨Z, ρ, F, S, w⟩ := w
  show tE c m σ H fun x H1 => tA c r σ H1 fun xs H2 => Q (x :: xs) H2
  cases ha : m ρ with
  | bad => simp only [dCons, ha] at w
  | ex x xs ρ1 =>
    simp only [dCons, ha] at w
    exact tE.ex S ha w
  | ok f1 x e1 ρ1 =>
    simp only [dCons, ha] at w
    by_cases hk : (f1 || frz x) = true
    · rw [if_pos hk] at w
      refine tE.ok S ha fun Z1 H1 F1 v G1 P1 R1 f1h => ?_
      have fr1 : Fresh H F Z1 F1 G1 := by
        cases f1 with
        | true => exact f1h rfl
        | false =>
          have e1 := R1.frz_nil (by simpa using hk)
          subst e1
          exact Fresh.nil
      cases hb : r ρ1 with
      | bad => simp only [hb] at w
      | ex x xs ρ2 =>
        simp only [hb] at w
        exact tA.ex P1.sta hb fun Z2 H2 F2 s2 S2 => w Z2 H2 F2 (P1.st.trans s2) S2
      | ok f2 y e2 ρ2 =>
        simp only [hb] at w
        refine tA.ok P1.sta hb fun Z2 H2 F2 us G2 P2 R2 fr2 => ?_
        have dm : ∀ a ∈ G1, H1 a ≠ none := fun a ha => let ⟨_, h, _⟩ := R1.dom a ha; ne_none h
        refine w Z2 H2 F2 (v :: us) (G1 ++ G2) (P1.trans P2) ⟨v, us, G1, G2, rfl, rfl, R1.mono P2.st.zz fun a ha o e => P2.st.fr a o e (fr1.nf a ha), R2⟩ ?_
        exact (fr1.later dm P2).append (Fresh.earlier P1 fr2) fun a ha q => (fr2.nh a q).elim (fr1.nf a ha) (dm a ha)
    · rw [if_neg hk] at w
      exact w.elim
theorem a_cons (ha : PE X e (tE c m)) (hr : PA X es (tA c r)) (hs : starEach (e :: es) X.env = (false, eval e X.env) :: starEach es X.env := by rfl) : PA X (e :: es) (tA c (dCons m r)) := (pa_cons ha hr hs).imp fun _ _ _ w => cons_imp w
end

/-! ### displays -/
def dBox (own : Bool) (k : Kd) (a : DA) : DE := fun ρ => match a ρ with
  | .ok _ xs e ρ1 => if xs.length ≤ 1000000 then .ok true (.box own k xs) e ρ1 else .bad
  | .ex c xs ρ1 => .ex c xs ρ1
  | .bad => .bad
abbrev dTup := dBox false .tup
abbrev dLst := dBox true .lst
section
variable {c : Cc} {X : Cx} {e : Expr} {es : List Expr} {a : DA} {pos : Pos}
theorem e_tup {x1} (h : PA X es (tA c a)) : PE X (.Tuple es x1 pos) (tE c (dTup a)) := (pe_tup h).imp fun σ H Q w => by
  obtain ⟨Z, ρ, F, S, w⟩ := w
  show tA c a σ H fun xs H1 => xs.length ≤ sizeLine ∧ ∀ p, H1 p = none → Q (.ref p) (upd H1 p (.tup xs))
  cases ha : a ρ with
  | bad => simp only [dBox, ha] at w
  | ex x xs ρ1 =>
    simp only [dBox, ha] at w
    exact tA.ex S ha w
  | ok f1 xs e1 ρ1 =>
    simp only [dBox, ha] at w
    by_cases hl : xs.length ≤ 1000000
    · rw [if_pos hl] at w
      refine tA.ok S ha fun Z1 H1 F1 vs G1 P1 R1 f1h => ⟨by rw [← R1.length]; exact big_le hl, fun p hp => ?_⟩
      have n := New.fro (o := .tup vs) P1.sta.zh hp
      have P := P1.trans (PostE.new P1.sta n)
      rw [Bool.or_false] at P
      refine w _ _ F1 (.ref p) G1 P (rep_newT P1.sta.zh hp R1) fun _ => ⟨f1h.nd, f1h.nh, fun b hb => ?_, f1h.nf⟩
      have dm : H1 b ≠ none := let ⟨_, h, _⟩ := R1.dom b hb; ne_none h
      rw [n.nn b dm]
      exact f1h.nz b hb
    · rw [if_neg hl] at w
      exact w.elim
theorem e_lst (h : PA X es (tA c a)) : PE X (.List es pos) (tE c (dLst a)) := (pe_lst h).imp fun σ H Q w => by
  obtain ⟨Z, ρ, F, S, w⟩ := w
  show tA c a σ H fun xs H1 => xs.length ≤ sizeLine ∧ ∀ p, H1 p = none → Q (.ref p) (upd H1 p (.lst xs))
  cases ha : a ρ with
  | bad => simp only [dBox, ha] at w
  | ex x xs ρ1 =>
    simp only [dBox, ha] at w
    exact tA.ex S ha w
  | ok f1 xs e1 ρ1 =>
    simp only [dBox, ha] at w
    by_cases hl : xs.length ≤ 1000000
    · rw [if_pos hl] at w
      refine tA.ok S ha fun Z1 H1 F1 vs G1 P1 R1 f1h => ⟨by rw [← R1.length]; exact big_le hl, fun p hp => ?_⟩
      have n := New.own (o := .lst vs) P1.sta.zh hp
      have P := P1.trans (PostE.new P1.sta n)
      rw [Bool.or_false] at P
      have dm : ∀ b ∈ G1, H1 b ≠ none := fun b hb => let ⟨_, h, _⟩ := R1.dom b hb; ne_none h
      have fp : Fresh H F Z1 F1 [p] := Fresh.earlier P1 ⟨by simp, fun b hb => .inr (by rw [List.mem_singleton.mp hb]; exact hp), fun b hb => by rw [List.mem_singleton.mp hb]; exact z_none P1.sta.zh hp, fun b hb q => P1.sta.dom q (by rw [List.mem_singleton.mp hb]; exact hp)⟩
      refine w _ _ F1 (.ref p) (p :: G1) P (rep_newL P1.sta.zh hp R1) fun _ => ?_
      exact fp.append f1h fun b hb q => dm b q (by rw [List.mem_singleton.mp hb]; exact hp)
    · rw [if_neg hl] at w
      exact w.elim
end

/-! ### subscripts -/
def fIx : D → D → Option (Bool × D)
  | .box _ .tup ds, .int i => (atI ds i).map fun d => (frz d, d)
  | .box _ .lst ds, .int i => (atI ds i).map fun d => (frz d, d)
  | .str s, .int i => if s.length ≤ 1000000 then (atI s.cps.toList i).map fun c => (true, .str ⟨#[c]⟩) else none
  | _, _ => none
section
variable {G : Gx} {Z H : Hp}
theorem repL_at {ds : List D} {vs : List V} {F : List Addr} {i : Int} {d : D} (r : RepL G Z H ds vs F) (h : atI ds i = some d) : ∃ v F1, atI vs i = some v ∧ Rep G Z H d v F1 := by
  unfold atI at h ⊢
  rw [← r.length]
  cases hj : ixN ds.length i with
  | none => rw [hj] at h; cases h
  | some j =>
    rw [hj] at h
    obtain ⟨v, A, F1, B, g1, g2, g3⟩ := r.get (show ds[j]? = some d from h)
    exact ⟨v, F1, g1, g3⟩
theorem o_ix : Op2 G (rIx G.K) fIx := by
  intro Z H x y v w F1 F2 fr z zh r1 r2 hf Q k
  have fin : ∀ {d : D} {u : V} {Fd : List Addr}, Rep G Z H d u Fd → (frz d, d) = (fr, z) → Q u H := fun {d u Fd} rd e => by
    simp only [Prod.mk.injEq] at e
    obtain ⟨rfl, rfl⟩ := e
    exact k Z H u Fd (New.refl zh) rd fun q => by rw [rd.frz_nil q]; simp
  unfold fIx at hf
  split at hf
  · rename_i own ds i
    cases hd : atI ds i with
    | none => rw [hd] at hf; cases hf
    | some d =>
      rw [hd] at hf
      obtain ⟨_, a, vs, rfl, ht, hl⟩ := rep_tup zh r1
      obtain ⟨u, Fd, g1, g2⟩ := repL_at hl hd
      exact .inr (.inl ⟨a, vs, i, u, rfl, r2.1, ex_t zh ht, g1, fin g2 (Option.some.inj hf)⟩)
  · rename_i own ds i
    cases hd : atI ds i with
    | none => rw [hd] at hf; cases hf
    | some d =>
      rw [hd] at hf
      obtain ⟨a, vs, F', rfl, ht, hl, _⟩ := rep_lst zh r1
      obtain ⟨u, Fd, g1, g2⟩ := repL_at hl hd
      exact .inl ⟨a, vs, i, u, rfl, r2.1, ht, g1, fin g2 (Option.some.inj hf)⟩
  · rename_i s i
    split at hf
    · rename_i hs
      cases hd : atI s.cps.toList i with
      | none => rw [hd] at hf; cases hf
      | some d =>
        rw [hd] at hf
        simp only [Option.map_some, Option.some.injEq, Prod.mk.injEq] at hf
        obtain ⟨rfl, rfl⟩ := hf
        exact .inr (.inr ⟨s, i, d, r1.1, r2.1, big_le hs, hd, k Z H _ [] (New.refl zh) ⟨rfl, rfl⟩ fun _ => ⟨List.nodup_nil, by simp⟩⟩)
    · cases hf
  · cases hf
end

/-! ### slices -/
abbrev DO := Env → Res (Option Int)
def dNo : DO := fun ρ => .ok true none false ρ
def dAt (m : DE) : DO := fun ρ => match m ρ with
  | .ok _ (.int i) e ρ1 => .ok true (some i) e ρ1
  | .ok _ _ _ _ => .bad
  | .ex c xs ρ1 => .ex c xs ρ1
  | .bad => .bad
def tO (c : Cc) (m : DO) : TO := fun σ H Q => ∃ Z ρ F, State c.G c.lk Z H σ ρ F ∧ match m ρ with
  | .ok _ o eff ρ' => ∀ Z' H' F', PostE c Z H σ ρ F eff ρ' Z' H' F' → Q o H'
  | .ex x xs ρ' => ∀ Z' H' F', Step Z H F Z' H' F' → State c.G c.lk Z' H' σ ρ' F' → c.W x xs σ H'
  | .bad => False
theorem _root_.L2.PO.imp {X : Cx} {e : Option Expr} {t u : TO} (h : PO X e t) (k : ∀ σ H Q, u σ H Q → t σ H Q) : PO X e u := ⟨fun pins s σ H Q I w => h.run pins s σ H Q I (k σ H Q w)⟩
def cutG {α : Type} (xs : List α) (lo hi : Option Int) : List α := (xs.drop (HT.sIx xs.length 0 lo)).take (HT.sIx xs.length xs.length hi - HT.sIx xs.length 0 lo)
def fSl : D → Option Int → Option Int → Option (Bool × D)
  | .box _ .tup ds, lo, hi => if frzL ds = true then some (true, .box false .tup (cutG ds lo hi)) else none
  | .box _ .lst ds, lo, hi => if frzL ds = true then some (true, .box true .lst (cutG ds lo hi)) else none
  | _, _, _ => none
def dSl (m : DE) (lo hi : DO) : DE := fun ρ => match m ρ with
  | .ok f1 x e1 ρ1 => (match lo ρ1 with
    | .ok _ l e2 ρ2 => (match hi ρ2 with
      | .ok _ h e3 ρ3 => if (!(e2 || e3) || f1 || frz x) = true then (match fSl x l h with | some (fr, z) => .ok fr z (e1 || (e2 || e3)) ρ3 | none => .bad) else .bad
      | .ex c xs ρ3 => .ex c xs ρ3
      | .bad => .bad)
    | .ex c xs ρ2 => .ex c xs ρ2
    | .bad => .bad)
  | .ex c xs ρ1 => .ex c xs ρ1
  | .bad => .bad
section
variable {c : Cc} {X : Cx} {e : Expr} {lo hi : Option Expr} {m : DE} {ml mh : DO} {pos p2 : Pos}
theorem o_no : PO X none (tO c dNo) := po_none.imp fun σ H Q w => by
  obtain ⟨Z, ρ, F, S, w⟩ := w
  exact w Z H F (PostE.refl S)
theorem o_at (h : PE X e (tE c m)) : PO X (some e) (tO c (dAt m)) := (po_some h).imp fun σ H Q w => by
  obtain ⟨Z, ρ, F, S, w⟩ := w
  show tE c m σ H fun x H1 => ∃ i, x = .int i ∧ Q (some i) H1
  cases ha : m ρ with
  | bad => simp only [dAt, ha] at w
  | ex x xs ρ1 =>
    simp only [dAt, ha] at w
    exact tE.ex S ha w
  | ok f1 x e1 ρ1 =>
    cases x <;> simp only [dAt, ha] at w
    rename_i i
    exact tE.ok S ha fun Z1 H1 F1 v G1 P1 R1 _ => ⟨i, R1.1, w Z1 H1 F1 P1⟩
theorem repL_cut {G : Gx} {Z H : Hp} {ds : List D} {vs : List V} (r : RepL G Z H ds vs []) (lo hi : Option Int) : RepL G Z H (cutG ds lo hi) (cutV vs lo hi) [] := by
  unfold cutG cutV
  rw [r.length]
  exact RepL.take (F := []) _ (RepL.drop _ r rfl) rfl
theorem sl_imp {G : Gx} {Z H : Hp} {x d : D} {v : V} {F : List Addr} {l h : Option Int} {fr : Bool} (zh : Ex Z H) (r : Rep G Z H x v F) (hf : fSl x l h = some (fr, d)) (Q : VK)
    (k : ∀ Z' H' u Gf, New Z H Z' H' → Rep G Z' H' d u Gf → Gf.Nodup ∧ (∀ a ∈ Gf, H a = none ∧ Z' a = none) → Q u H') : rSlL G.K v l h H Q ∨ rSlA G.K v l h H Q := by
  cases x with
  | box own kd ds =>
    cases kd with
    | tup =>
      simp only [fSl] at hf
      split at hf
      · rename_i hz
        simp only [Option.some.injEq, Prod.mk.injEq] at hf
        obtain ⟨rfl, rfl⟩ := hf
        obtain ⟨_, a, vs, rfl, ht, hl⟩ := rep_tup zh r
        have e0 := hl.frz_nil hz
        subst e0
        have hc := repL_cut hl l h
        refine .inr ⟨a, vs, rfl, ex_t zh ht, fun hw => ?_, fun _ p hp => ?_⟩
        · refine k Z H (.ref a) [] (New.refl zh) ⟨a, vs, [], rfl, ?_, fun _ => ⟨rfl, ht, .inl rfl⟩, fun q => nomatch q⟩ ⟨List.nodup_nil, by simp⟩
          have e1 : cutG ds l h = ds := by
            unfold cutG
            rw [hl.length, hw.1, hw.2, List.drop_zero, Nat.sub_zero, ← hl.length, List.take_length]
          rw [e1]
          exact hl
        · exact k _ _ _ [] (New.fro zh hp) (rep_newT zh hp hc) ⟨List.nodup_nil, by simp⟩
      · cases hf
    | lst =>
      simp only [fSl] at hf
      split at hf
      · rename_i hz
        simp only [Option.some.injEq, Prod.mk.injEq] at hf
        obtain ⟨rfl, rfl⟩ := hf
        obtain ⟨a, vs, F', rfl, ht, hl, _⟩ := rep_lst zh r
        have e0 := hl.frz_nil hz
        subst e0
        have hc := repL_cut hl l h
        refine .inl ⟨a, vs, rfl, ht, fun p hp => ?_⟩
        exact k _ _ _ [p] (New.own zh hp) (rep_newL zh hp hc) ⟨by simp, fun b hb => by rw [List.mem_singleton.mp hb]; exact ⟨hp, z_none zh hp⟩⟩
      · cases hf
    | _ => simp only [fSl, reduceCtorEq] at hf
  | _ => simp only [fSl, reduceCtorEq] at hf
theorem e_sl (he : PE X e (tE c m)) (hl : PO X lo (tO c ml)) (hh : PO X hi (tO c mh)) (hK : X.K = c.G.K := by rfl) : PE X (.Subscript e (.Slice lo hi none p2) pos) (tE c (dSl m ml mh)) := (pe_slice (sl_list.or sl_tupA) he hl hh).imp fun σ H Q w => by
  rw [hK]
  obtain ⟨Z, ρ, F, S, w⟩ := w
  show tE c m σ H fun x H1 => tO c ml σ H1 fun l H2 => tO c mh σ H2 fun u H3 => (rSlL c.G.K x l u H3 Q ∨ rSlA c.G.K x l u H3 Q)
  cases ha : m ρ with
  | bad => simp only [dSl, ha] at w
  | ex x xs ρ1 =>
    simp only [dSl, ha] at w
    exact tE.ex S ha w
  | ok f1 x e1 ρ1 =>
    simp only [dSl, ha] at w
    refine tE.ok S ha fun Z1 H1 F1 v G1 P1 R1 f1h => ?_
    cases hb : ml ρ1 with
    | bad => simp only [hb] at w
    | ex x xs ρ2 =>
      simp only [hb] at w
      exact ⟨Z1, ρ1, F1, P1.sta, by rw [hb]; exact fun Z2 H2 F2 s2 S2 => w Z2 H2 F2 (P1.st.trans s2) S2⟩
    | ok f2 l e2 ρ2 =>
      simp only [hb] at w
      refine ⟨Z1, ρ1, F1, P1.sta, ?_⟩
      rw [hb]
      intro Z2 H2 F2 P2
      cases hc : mh ρ2 with
      | bad => simp only [hc] at w
      | ex x xs ρ3 =>
        simp only [hc] at w
        exact ⟨Z2, ρ2, F2, P2.sta, by rw [hc]; exact fun Z3 H3 F3 s3 S3 => w Z3 H3 F3 ((P1.st.trans P2.st).trans s3) S3⟩
      | ok f3 h e3 ρ3 =>
        simp only [hc] at w
        refine ⟨Z2, ρ2, F2, P2.sta, ?_⟩
        rw [hc]
        intro Z3 H3 F3 P3
        by_cases hk : (!(e2 || e3) || f1 || frz x) = true
        · rw [if_pos hk] at w
          cases hf : fSl x l h with
          | none => simp only [hf] at w
          | some p =>
            obtain ⟨fr, z⟩ := p
            simp only [hf] at w
            have P23 := P2.trans P3
            refine sl_imp P3.sta.zh (R1.later f1h P23 hk) hf Q fun Z4 H4 u G4 n4 R4 f4 => ?_
            have P := (P1.trans P23).trans (PostE.new P3.sta n4)
            rw [Bool.or_false] at P
            exact w Z4 H4 F3 u G4 P R4 fun _ => Fresh.earlier (P1.trans P23) (fresh_of f4 fun a ha => P3.sta.dom ha)
        · rw [if_neg hk] at w
          exact w.elim
end

/-! ### built-ins by name -/
section
variable {c : Cc} {X : Cx} {e : Expr} {ma mb : DE}
theorem e_b1 {r : List V → Hp → VK → Prop} {f : D → Option (Bool × D)} (h : PE X e (tCB r (tCons (tE c ma) tNil))) (ho : Op1 c.G (fun x => r [x]) f) : PE X e (tE c (bind1 f ma)) := h.imp fun _ _ _ w => bind1_imp (r := fun x => r [x]) ho w
theorem e_b2 {r : List V → Hp → VK → Prop} {f : D → D → Option (Bool × D)} (h : PE X e (tCB r (tCons (tE c ma) (tCons (tE c mb) tNil)))) (ho : Op2 c.G (fun x y => r [x, y]) f) : PE X e (tE c (bind2 f ma mb)) := h.imp fun _ _ _ w => bind2_imp (r := fun x y => r [x, y]) ho w
end
def lenD : D → Option Nat
  | .box _ .tup ds => some ds.length
  | .box _ .lst ds => some ds.length
  | .str s => if s.length ≤ 1000000 then some s.length else none
  | _ => none
def fLen (x : D) : Option (Bool × D) := (lenD x).map fun (n : Nat) => (true, D.int (n : Int))
def fInt1 : D → Option (Bool × D)
  | .int i => some (true, .int i)
  | .bl b => some (true, .int (if b then 1 else 0))
  | _ => none
def fMax2 : D → D → Option (Bool × D) := fInt (fun _ _ => true) fun i j => .int (if j > i then j else i)
def fMin2 : D → D → Option (Bool × D) := fInt (fun _ _ => true) fun i j => .int (if j < i then j else i)
def fAbs : D → Option (Bool × D)
  | .int i => some (true, .int (if i < 0 then -i else i))
  | _ => none
/-- tuple(x), list(x) -/
def fTupOf : D → Option (Bool × D)
  | .box _ .tup ds => if frzL ds = true then some (true, .box false .tup ds) else none
  | .box _ .lst ds => if frzL ds = true then some (true, .box false .tup ds) else none
  | _ => none
def fLstOf : D → Option (Bool × D)
  | .box _ .tup ds => if frzL ds = true then some (true, .box true .lst ds) else none
  | .box _ .lst ds => if frzL ds = true then some (true, .box true .lst ds) else none
  | _ => none
section
variable {G : Gx}
theorem o_len : Op1 G (fun x H Q => ∃ y n, [x] = [y] ∧ LenV G.K y H n ∧ Q (.int n) H) fLen := op1_sc fun Z H x v F1 fr z zh r1 hf => by
  unfold fLen at hf
  cases hb : lenD x with
  | none => rw [hb] at hf; cases hf
  | some n =>
    rw [hb] at hf
    simp only [Option.map_some, Option.some.injEq, Prod.mk.injEq] at hf
    obtain ⟨rfl, rfl⟩ := hf
    refine ⟨_, rfl, fun Q q => ⟨v, n, rfl, ?_, q⟩⟩
    unfold lenD at hb
    split at hb
    · obtain ⟨_, a, vs, rfl, ht, hl⟩ := rep_tup zh r1
      exact .inr ⟨vs, ex_t zh ht, by rw [← hl.length]; exact (Option.some.inj hb).symm⟩
    · obtain ⟨a, vs, F', rfl, ht, hl, _⟩ := rep_lst zh r1
      exact .inl ⟨vs, ht, by rw [← hl.length]; exact (Option.some.inj hb).symm⟩
    · split at hb
      · rename_i hs
        rw [r1.1]
        exact ⟨big_le hs, (Option.some.inj hb).symm⟩
      · cases hb
    · cases hb
theorem o_int1 : Op1 G (fun x H Q => (∃ i, [x] = [.int i] ∧ Q (.int i) H) ∨ ∃ k, [x] = [.bl k] ∧ Q (.int (if k then 1 else 0)) H) fInt1 := op1_sc fun Z H x v F1 fr z zh r1 hf => by
  cases x <;> simp only [fInt1, reduceCtorEq] at hf <;> simp only [Option.some.injEq, Prod.mk.injEq] at hf <;> obtain ⟨rfl, rfl⟩ := hf
  · exact ⟨_, rfl, fun Q q => .inr ⟨_, by rw [r1.1], q⟩⟩
  · exact ⟨_, rfl, fun Q q => .inl ⟨_, by rw [r1.1], q⟩⟩
theorem o_max2 : Op2 G (fun x y H Q => ∃ i j, [x, y] = [.int i, .int j] ∧ Q (.int (if j > i then j else i)) H) fMax2 := op2_sc fun Z H x y v w F1 F2 fr z _ r1 r2 hf => by
  cases x <;> cases y <;> simp only [fMax2, fInt, reduceCtorEq, if_true] at hf
  simp only [Option.some.injEq, Prod.mk.injEq] at hf
  obtain ⟨rfl, rfl⟩ := hf
  exact ⟨_, rfl, fun Q q => ⟨_, _, by rw [r1.1, r2.1], q⟩⟩
theorem o_min2 : Op2 G (fun x y H Q => ∃ i j, [x, y] = [.int i, .int j] ∧ Q (.int (if j < i then j else i)) H) fMin2 := op2_sc fun Z H x y v w F1 F2 fr z _ r1 r2 hf => by
  cases x <;> cases y <;> simp only [fMin2, fInt, reduceCtorEq, if_true] at hf
  simp only [Option.some.injEq, Prod.mk.injEq] at hf
  obtain ⟨rfl, rfl⟩ := hf
  exact ⟨_, rfl, fun Q q => ⟨_, _, by rw [r1.1, r2.1], q⟩⟩
theorem o_abs : Op1 G (fun x H Q => ∃ i, [x] = [.int i] ∧ Q (.int (if i < 0 then -i else i)) H) fAbs := op1_sc fun Z H x v F1 fr z zh r1 hf => by
  cases x <;> simp only [fAbs, reduceCtorEq] at hf
  simp only [Option.some.injEq, Prod.mk.injEq] at hf
  obtain ⟨rfl, rfl⟩ := hf
  exact ⟨_, rfl, fun Q q => ⟨_, by rw [r1.1], q⟩⟩
theorem rep_seq {Z H : Hp} {own : Bool} {k : Kd} {ds : List D} {v : V} {F : List Addr} (zh : Ex Z H) (hk : k = .tup ∨ k = .lst) (r : Rep G Z H (.box own k ds) v F) (hz : frzL ds = true) : ∃ a vs, v = .ref a ∧ (SqL G.K H a vs ∨ SqT G.K H a vs) ∧ (k = .tup → SqT G.K Z a vs) ∧ (k = .lst → SqL G.K H a vs) ∧ RepL G Z H ds vs [] := by
  rcases hk with rfl | rfl
  · obtain ⟨_, a, vs, rfl, ht, hl⟩ := rep_tup zh r
    have e0 := hl.frz_nil hz
    subst e0
    exact ⟨a, vs, rfl, .inr (ex_t zh ht), fun _ => ht, fun q => (nomatch q), hl⟩
  · obtain ⟨a, vs, F', rfl, ht, hl, _⟩ := rep_lst zh r
    have e0 := hl.frz_nil hz
    subst e0
    exact ⟨a, vs, rfl, .inl ht, fun q => (nomatch q), fun _ => ht, hl⟩
theorem o_lstOf : Op1 G (fun x H Q => ∃ p ys, [x] = [.ref p] ∧ (SqL G.K H p ys ∨ SqT G.K H p ys) ∧ ∀ l, H l = none → Q (.ref l) (upd H l (.lst ys))) fLstOf := by
  intro Z H x v F1 fr z zh r1 hf Q k
  unfold fLstOf at hf
  have fin : ∀ {own : Bool} {kd : Kd} {ds : List D}, (kd = .tup ∨ kd = .lst) → Rep G Z H (.box own kd ds) v F1 → (if frzL ds = true then some (true, D.box true .lst ds) else none) = some (fr, z) → ∃ p ys, [v] = [.ref p] ∧ (SqL G.K H p ys ∨ SqT G.K H p ys) ∧ ∀ l, H l = none → Q (.ref l) (upd H l (.lst ys)) := fun {own kd ds} hk r hf => by
    split at hf
    · rename_i hz
      simp only [Option.some.injEq, Prod.mk.injEq] at hf
      obtain ⟨rfl, rfl⟩ := hf
      obtain ⟨a, vs, rfl, hs, _, _, hl⟩ := rep_seq zh hk r hz
      exact ⟨a, vs, rfl, hs, fun l hp => k _ _ _ [l] (New.own zh hp) (rep_newL zh hp hl) fun _ => ⟨by simp, fun b hb => by rw [List.mem_singleton.mp hb]; exact ⟨hp, z_none zh hp⟩⟩⟩
    · cases hf
  split at hf
  · exact fin (.inl rfl) r1 hf
  · exact fin (.inr rfl) r1 hf
  · cases hf
theorem o_tupOf : Op1 G (fun x H Q => ∃ p ys, [x] = [.ref p] ∧ ((SqL G.K H p ys ∧ ∀ l, H l = none → Q (.ref l) (upd H l (.tup ys))) ∨ (SqT G.K H p ys ∧ Q (.ref p) H))) fTupOf := by
  intro Z H x v F1 fr z zh r1 hf Q k
  unfold fTupOf at hf
  split at hf
  · split at hf
    · rename_i own ds hz
      simp only [Option.some.injEq, Prod.mk.injEq] at hf
      obtain ⟨rfl, rfl⟩ := hf
      obtain ⟨a, vs, rfl, hs, ht, _, hl⟩ := rep_seq zh (.inl rfl) r1 hz
      exact ⟨a, vs, rfl, .inr ⟨ex_t zh (ht rfl), k Z H (.ref a) [] (New.refl zh) ⟨a, vs, [], rfl, hl, fun _ => ⟨rfl, ht rfl, .inl rfl⟩, fun q => nomatch q⟩ fun _ => ⟨List.nodup_nil, by simp⟩⟩⟩
    · cases hf
  · split at hf
    · rename_i own ds hz
      simp only [Option.some.injEq, Prod.mk.injEq] at hf
      obtain ⟨rfl, rfl⟩ := hf
      obtain ⟨a, vs, rfl, hs, _, ht, hl⟩ := rep_seq zh (.inr rfl) r1 hz
      exact ⟨a, vs, rfl, .inl ⟨ht rfl, fun l hp => k _ _ _ [] (New.fro zh hp) (rep_newT zh hp hl) fun _ => ⟨List.nodup_nil, by simp⟩⟩⟩
    · cases hf
  · cases hf
end

/-! ### isinstance of built-in types -/
inductive Ty where
  | non | bool | int | str | tup | lst | dict
def Ty.nm : Ty → String
  | .non => "NoneType" | .bool => "bool" | .int => "int" | .str => "str" | .tup => "tuple" | .lst => "list" | .dict => "dict"
def isi : Ty → Ty → Bool
  | .non, .non => true | .bool, .bool => true | .bool, .int => true | .int, .int => true | .str, .str => true | .tup, .tup => true | .lst, .lst => true | .dict, .dict => true
  | _, _ => false
theorem isi_kit : ∀ a b : Ty, kitB a.nm b.nm = some (isi a b) := by
  intro a b
  cases a <;> cases b <;> decide +kernel
def tyD : D → Option Ty
  | .non => some .non | .bl _ => some .bool | .int _ => some .int | .str _ => some .str
  | .box _ .tup _ => some .tup | .box _ .lst _ => some .lst
  | _ => none
def fIsi (n : Ty) (x : D) : Option (Bool × D) := (tyD x).map fun t => (true, .bl (isi t n))
section
variable {G : Gx} {Z H : Hp}
theorem ty_sqT {a : Addr} {vs : List V} (h : SqT G.K H a vs) : TyX G.K H (.ref a) (.type "tuple") := by
  rcases h with (h | ⟨o, h⟩) | ⟨o, its, n, h1, h2, _⟩
  · exact .base (.tup h)
  · exact .fTuple h
  · exact .kTuple h1 h2
theorem ty_sqL {a : Addr} {vs : List V} (h : SqL G.K H a vs) : TyX G.K H (.ref a) (.type "list") := by
  rcases h with (h | ⟨o, h⟩) | ⟨o, its, n, h1, h2, _⟩
  · exact .base (.lst h)
  · exact .base (.frz h)
  · exact .kList h1 h2
theorem tyD_rep (zh : Ex Z H) {x : D} {v : V} {F : List Addr} {t : Ty} (r : Rep G Z H x v F) (h : tyD x = some t) : TyX G.K H v (.type t.nm) := by
  unfold tyD at h
  split at h <;> simp only [Option.some.injEq, reduceCtorEq] at h <;> subst h
  · rw [r.1]; exact .base .non
  · rw [r.1]; exact .base (.bl _)
  · rw [r.1]; exact .base (.int _)
  · rw [r.1]; exact .base (.str _)
  · obtain ⟨_, a, vs, rfl, ht, hl⟩ := rep_tup zh r
    exact ty_sqT (ex_t zh ht)
  · obtain ⟨a, vs, F', rfl, ht, hl, _⟩ := rep_lst zh r
    exact ty_sqL ht
theorem o_isi (n : Ty) : Op1 G (fun x H Q => rIsi G.K [x, .ty n.nm] H Q) (fIsi n) := op1_sc fun Z H x v F1 fr z zh r1 hf => by
  unfold fIsi at hf
  cases hb : tyD x with
  | none => rw [hb] at hf; cases hf
  | some t =>
    rw [hb] at hf
    simp only [Option.map_some, Option.some.injEq, Prod.mk.injEq] at hf
    obtain ⟨rfl, rfl⟩ := hf
    exact ⟨_, rfl, fun Q q => ⟨v, .ty n.nm, .type t.nm, .type n.nm, isi t n, rfl, .ty _, tyD_rep zh r1 hb, kit_ty (isi_kit t n), q⟩⟩
end
section
variable {c : Cc} {X : Cx} {e : Expr} {ma : DE}
/-- isinstance(x, T) -/
theorem e_isi (n : Ty) (h : PE X e (tCB (rIsi c.G.K) (tCons (tE c ma) (tCons (tC (.ty n.nm)) tNil)))) : PE X e (tE c (bind1 (fIsi n) ma)) := h.imp fun _ _ _ w => bind1_imp (r := fun x H Q => rIsi c.G.K [x, .ty n.nm] H Q) (o_isi n) w
end

/-! ### tests -/
def truthD : D → Option Bool
  | .non => some false
  | .bl b => some b
  | .int i => some (i != 0)
  | .str s => if s.length ≤ 1000000 then some ((s.length : Int) != 0) else none
  | .box _ .tup ds => some (!ds.isEmpty)
  | .box _ .lst ds => some (!ds.isEmpty)
  | _ => none
def dT (m : DE) : DT := fun ρ => match m ρ with
  | .ok _ x e ρ1 => (match truthD x with | some b => .ok true b e ρ1 | none => .bad)
  | .ex c xs ρ1 => .ex c xs ρ1
  | .bad => .bad
def dAnd (a b : DT) : DT := fun ρ => match a ρ with
  | .ok _ x e ρ1 => if x = true then (match b ρ1 with
    | .ok _ y e2 ρ2 => .ok true y (e || e2) ρ2
    | .ex c xs ρ2 => .ex c xs ρ2
    | .bad => .bad) else .ok true false e ρ1
  | .ex c xs ρ1 => .ex c xs ρ1
  | .bad => .bad
def dOr (a b : DT) : DT := fun ρ => match a ρ with
  | .ok _ x e ρ1 => if x = true then .ok true true e ρ1 else (match b ρ1 with
    | .ok _ y e2 ρ2 => .ok true y (e || e2) ρ2
    | .ex c xs ρ2 => .ex c xs ρ2
    | .bad => .bad)
  | .ex c xs ρ1 => .ex c xs ρ1
  | .bad => .bad
def dNot (a : DT) : DT := fun ρ => match a ρ with
  | .ok _ x e ρ1 => .ok true (!x) e ρ1
  | .ex c xs ρ1 => .ex c xs ρ1
  | .bad => .bad
theorem isEmpty_repL {G : Gx} {Z H : Hp} {ds : List D} {vs : List V} {F : List Addr} (r : RepL G Z H ds vs F) : (!ds.isEmpty) = !vs.isEmpty := by
  cases ds with
  | nil => rw [r.1]; rfl
  | cons d ds =>
    obtain ⟨v, vs', F1, F2, e1, _⟩ := r
    rw [e1]; rfl
theorem truth_rep {G : Gx} {Z H : Hp} (zh : Ex Z H) {x : D} {v : V} {F : List Addr} {b : Bool} (r : Rep G Z H x v F) (h : truthD x = some b) : TruV G.K v H b := by
  unfold truthD at h
  split at h
  · rw [r.1]; exact (Option.some.inj h).symm
  · rw [r.1]; exact (Option.some.inj h).symm
  · rw [r.1]; exact (Option.some.inj h).symm
  · split at h
    · rename_i hs
      rw [r.1]; exact ⟨big_le hs, (Option.some.inj h).symm⟩
    · cases h
  · obtain ⟨_, a, vs, rfl, ht, hl⟩ := rep_tup zh r
    exact .inr (.inl ⟨vs, ex_t zh ht, by rw [← isEmpty_repL hl]; exact (Option.some.inj h).symm⟩)
  · obtain ⟨a, vs, F', rfl, ht, hl, _⟩ := rep_lst zh r
    exact .inl ⟨vs, ht, by rw [← isEmpty_repL hl]; exact (Option.some.inj h).symm⟩
  · cases h
section
variable {c : Cc} {X : Cx} {a b : Expr} {rest : List Expr} {m mb : DE} {ta tb : DT} {pos : Pos}
theorem t_any (h : PE X a (tE c m)) (he : ∀ whole, isTrue a X.env whole = (do let v ← whole; standAt a.pos; holding [v] (truthy v)) := by intro _; rfl) (hK : X.K = c.G.K := by rfl) : PT X a (tT c (dT m)) := (pt_truth h he).imp fun σ H Q w => by
  rw [hK]
  obtain ⟨Z, ρ, F, S, w⟩ := w
  cases ha : m ρ with
  | bad => simp only [dT, ha] at w
  | ex x xs ρ1 =>
    simp only [dT, ha] at w
    exact tE.ex S ha w
  | ok f1 x e1 ρ1 =>
    simp only [dT, ha] at w
    refine tE.ok S ha fun Z1 H1 F1 v G1 P1 R1 _ => ?_
    cases hb : truthD x with
    | none => simp only [hb] at w
    | some k =>
      simp only [hb] at w
      exact ⟨k, truth_rep P1.sta.zh R1 hb, w Z1 H1 F1 P1⟩
theorem tTest_imp {m : DE} {t : TE} {σ : St} {H : Hp} {Q : Bool → Hp → Prop} (h : ∀ Q : VK, tE c m σ H Q → t σ H Q) (w : tT c (dT m) σ H Q) (hb : ∀ ρ fr d eff ρ', m ρ = .ok fr d eff ρ' → ∃ b, d = .bl b) : tTest t σ H Q := by
  refine h _ ?_
  obtain ⟨Z, ρ, F, S, w⟩ := w
  cases ha : m ρ with
  | bad => simp only [dT, ha] at w
  | ex x xs ρ1 =>
    simp only [dT, ha] at w
    exact tE.ex S ha w
  | ok f1 x e1 ρ1 =>
    obtain ⟨b, rfl⟩ := hb _ _ _ _ _ ha
    simp only [dT, ha, truthD] at w
    exact tE.ok S ha fun Z1 H1 F1 v G1 P1 R1 _ => ⟨b, R1.1, w Z1 H1 F1 P1⟩
/-- an operation by values that gives truth values -/
def BlF (f : D → D → Option (Bool × D)) : Prop := ∀ x y fr d, f x y = some (fr, d) → ∃ b, d = .bl b
theorem bind2_bl {f : D → D → Option (Bool × D)} {ma mb : DE} (hf : BlF f) : ∀ ρ fr d eff ρ', bind2 f ma mb ρ = .ok fr d eff ρ' → ∃ b, d = .bl b := by
  intro ρ fr d eff ρ' h
  unfold bind2 at h
  split at h
  · split at h
    · split at h
      · split at h
        · rename_i e
          simp only [Res.ok.injEq] at h
          obtain ⟨rfl, rfl, _⟩ := h
          exact hf _ _ _ _ e
        · cases h
      · cases h
    · cases h
    · cases h
  · cases h
  · cases h
theorem t_cmp {op : CmpOp} {r : R2} {f : D → D → Option (Bool × D)} {ma mb : DE} (hr : OpR X (compareOp op) r) (ho : Op2 c.G r f) (hf : BlF f) (ha : PE X a (tE c ma)) (hb : PE X b (tE c mb)) (hm : behindInMarks op b = false) : PT X (.Compare a [op] [b] pos) (tT c (dT (bind2 f ma mb))) :=
  (pt_cmpR hr ha hb hm).imp fun σ H Q w => tTest_imp (fun Q w => bind2_imp ho w) w (bind2_bl hf)
theorem t_not (h : PT X a (tT c ta)) : PT X (.UnaryOp .Not a pos) (tT c (dNot ta)) := (pt_not h).imp fun σ H Q w => by
  obtain ⟨Z, ρ, F, S, w⟩ := w
  show tT c ta σ H fun b H1 => Q (!b) H1
  cases ha : ta ρ with
  | bad => simp only [dNot, ha] at w
  | ex x xs ρ1 =>
    simp only [dNot, ha] at w
    exact tT.ex S ha w
  | ok f1 x e1 ρ1 =>
    simp only [dNot, ha] at w
    exact tT.ok S ha w
theorem and_imp {σ : St} {H : Hp} {Q : Bool → Hp → Prop} (w : tT c (dAnd ta tb) σ H Q) : tAnd (tT c ta) (tT c tb) σ H Q := by
  obtain ⟨Z, ρ, F, S, w⟩ := w
  show tT c ta σ H fun b H1 => if b = true then tT c tb σ H1 Q else Q false H1
  cases ha : ta ρ with
  | bad => simp only [dAnd, ha] at w
  | ex x xs ρ1 =>
    simp only [dAnd, ha] at w
    exact tT.ex S ha w
  | ok f1 x e1 ρ1 =>
    simp only [dAnd, ha] at w
    refine tT.ok S ha fun Z1 H1 F1 P1 => ?_
    cases x with
    | false =>
      rw [if_neg Bool.false_ne_true] at w ⊢
      exact w Z1 H1 F1 P1
    | true =>
      rw [if_pos rfl] at w ⊢
      cases hb : tb ρ1 with
      | bad => simp only [hb] at w
      | ex x xs ρ2 =>
        simp only [hb] at w
        exact tT.ex P1.sta hb fun Z2 H2 F2 s2 S2 => w Z2 H2 F2 (P1.st.trans s2) S2
      | ok f2 y e2 ρ2 =>
        simp only [hb] at w
        exact tT.ok P1.sta hb fun Z2 H2 F2 P2 => w Z2 H2 F2 (P1.trans P2)
theorem or_imp {σ : St} {H : Hp} {Q : Bool → Hp → Prop} (w : tT c (dOr ta tb) σ H Q) : tOr (tT c ta) (tT c tb) σ H Q := by
  obtain ⟨Z, ρ, F, S, w⟩ := w
  show tT c ta σ H fun b H1 => if b = true then Q true H1 else tT c tb σ H1 Q
  cases ha : ta ρ with
  | bad => simp only [dOr, ha] at w
  | ex x xs ρ1 =>
    simp only [dOr, ha] at w
    exact tT.ex S ha w
  | ok f1 x e1 ρ1 =>
    simp only [dOr, ha] at w
    refine tT.ok S ha fun Z1 H1 F1 P1 => ?_
    cases x with
    | true =>
      rw [if_pos rfl] at w ⊢
      exact w Z1 H1 F1 P1
    | false =>
      rw [if_neg Bool.false_ne_true] at w ⊢
      cases hb : tb ρ1 with
      | bad => simp only [hb] at w
      | ex x xs ρ2 =>
        simp only [hb] at w
        exact tT.ex P1.sta hb fun Z2 H2 F2 s2 S2 => w Z2 H2 F2 (P1.st.trans s2) S2
      | ok f2 y e2 ρ2 =>
        simp only [hb] at w
        exact tT.ok P1.sta hb fun Z2 H2 F2 P2 => w Z2 H2 F2 (P1.trans P2)
theorem w_and1 (h : PT X a (tT c ta)) : PW X (.BoolOp .And [a] pos) (tT c ta) := pw_and1 h
theorem w_or1 (h : PT X a (tT c ta)) : PW X (.BoolOp .Or [a] pos) (tT c ta) := pw_or1 h
theorem w_and (ha : PT X a (tT c ta)) (hb : PW X (.BoolOp .And (b :: rest) pos) (tT c tb)) : PW X (.BoolOp .And (a :: b :: rest) pos) (tT c (dAnd ta tb)) := (pw_and ha hb).imp fun _ _ _ w => and_imp w
theorem w_or (ha : PT X a (tT c ta)) (hb : PW X (.BoolOp .Or (b :: rest) pos) (tT c tb)) : PW X (.BoolOp .Or (a :: b :: rest) pos) (tT c (dOr ta tb)) := (pw_or ha hb).imp fun _ _ _ w => or_imp w
/-! ### tests as values (all but the last are truth values) -/
def dAndV (a b : DE) : DE := fun ρ => match a ρ with
  | .ok _ (.bl true) e ρ1 => (match b ρ1 with
    | .ok f y e2 ρ2 => .ok f y (e || e2) ρ2
    | .ex c xs ρ2 => .ex c xs ρ2
    | .bad => .bad)
  | .ok _ (.bl false) e ρ1 => .ok true (.bl false) e ρ1
  | .ok _ _ _ _ => .bad
  | .ex c xs ρ1 => .ex c xs ρ1
  | .bad => .bad
def dOrV (a b : DE) : DE := fun ρ => match a ρ with
  | .ok _ (.bl false) e ρ1 => (match b ρ1 with
    | .ok f y e2 ρ2 => .ok f y (e || e2) ρ2
    | .ex c xs ρ2 => .ex c xs ρ2
    | .bad => .bad)
  | .ok _ (.bl true) e ρ1 => .ok true (.bl true) e ρ1
  | .ok _ _ _ _ => .bad
  | .ex c xs ρ1 => .ex c xs ρ1
  | .bad => .bad
def dNotV (a : DE) : DE := fun ρ => match a ρ with
  | .ok _ (.bl b) e ρ1 => .ok true (.bl (!b)) e ρ1
  | .ok _ _ _ _ => .bad
  | .ex c xs ρ1 => .ex c xs ρ1
  | .bad => .bad
theorem e_one {op} (h : PE X a (tE c m)) : PE X (.BoolOp op [a] pos) (tE c m) := pe_one h
theorem andV_imp {σ : St} {H : Hp} {Q : VK} (w : tE c (dAndV m mb) σ H Q) : tAndV (tE c m) (tE c mb) σ H Q := by
  obtain ⟨Z, ρ, F, S, w⟩ := w
  show tE c m σ H fun x H1 => ∃ k, x = .bl k ∧ if k = true then tE c mb σ H1 Q else Q (.bl false) H1
  cases ha : m ρ with
  | bad => simp only [dAndV, ha] at w
  | ex x xs ρ1 =>
    simp only [dAndV, ha] at w
    exact tE.ex S ha w
  | ok f1 x e1 ρ1 =>
    cases x with
    | bl k =>
      refine tE.ok S ha fun Z1 H1 F1 v G1 P1 R1 _ => ⟨k, R1.1, ?_⟩
      cases k with
      | false =>
        simp only [dAndV, ha] at w
        rw [if_neg Bool.false_ne_true]
        exact w Z1 H1 F1 _ [] P1 ⟨rfl, rfl⟩ fun _ => Fresh.nil
      | true =>
        simp only [dAndV, ha] at w
        rw [if_pos rfl]
        cases hb : mb ρ1 with
        | bad => simp only [hb] at w
        | ex x xs ρ2 =>
          simp only [hb] at w
          exact tE.ex P1.sta hb fun Z2 H2 F2 s2 S2 => w Z2 H2 F2 (P1.st.trans s2) S2
        | ok f2 y e2 ρ2 =>
          simp only [hb] at w
          exact tE.ok P1.sta hb fun Z2 H2 F2 u G2 P2 R2 f2h => w Z2 H2 F2 u G2 (P1.trans P2) R2 fun q => Fresh.earlier P1 (f2h q)
    | _ => simp only [dAndV, ha] at w
theorem orV_imp {σ : St} {H : Hp} {Q : VK} (w : tE c (dOrV m mb) σ H Q) : tOrV (tE c m) (tE c mb) σ H Q := by
  obtain ⟨Z, ρ, F, S, w⟩ := w
  show tE c m σ H fun x H1 => ∃ k, x = .bl k ∧ if k = true then Q (.bl true) H1 else tE c mb σ H1 Q
  cases ha : m ρ with
  | bad => simp only [dOrV, ha] at w
  | ex x xs ρ1 =>
    simp only [dOrV, ha] at w
    exact tE.ex S ha w
  | ok f1 x e1 ρ1 =>
    cases x with
    | bl k =>
      refine tE.ok S ha fun Z1 H1 F1 v G1 P1 R1 _ => ⟨k, R1.1, ?_⟩
      cases k with
      | true =>
        simp only [dOrV, ha] at w
        rw [if_pos rfl]
        exact w Z1 H1 F1 _ [] P1 ⟨rfl, rfl⟩ fun _ => Fresh.nil
      | false =>
        simp only [dOrV, ha] at w
        rw [if_neg Bool.false_ne_true]
        cases hb : mb ρ1 with
        | bad => simp only [hb] at w
        | ex x xs ρ2 =>
          simp only [hb] at w
          exact tE.ex P1.sta hb fun Z2 H2 F2 s2 S2 => w Z2 H2 F2 (P1.st.trans s2) S2
        | ok f2 y e2 ρ2 =>
          simp only [hb] at w
          exact tE.ok P1.sta hb fun Z2 H2 F2 u G2 P2 R2 f2h => w Z2 H2 F2 u G2 (P1.trans P2) R2 fun q => Fresh.earlier P1 (f2h q)
    | _ => simp only [dOrV, ha] at w
theorem e_and (ha : PE X a (tE c m)) (hb : PE X (.BoolOp .And (b :: rest) pos) (tE c mb)) : PE X (.BoolOp .And (a :: b :: rest) pos) (tE c (dAndV m mb)) := (pe_and ha hb).imp fun _ _ _ w => andV_imp w
theorem e_or (ha : PE X a (tE c m)) (hb : PE X (.BoolOp .Or (b :: rest) pos) (tE c mb)) : PE X (.BoolOp .Or (a :: b :: rest) pos) (tE c (dOrV m mb)) := (pe_or ha hb).imp fun _ _ _ w => orV_imp w
theorem e_not (ha : PE X a (tE c m)) : PE X (.UnaryOp .Not a pos) (tE c (dNotV m)) := (pe_not ha).imp fun σ H Q w => by
  obtain ⟨Z, ρ, F, S, w⟩ := w
  show tE c m σ H fun x H1 => ∃ k, x = .bl k ∧ Q (.bl (!k)) H1
  cases ha : m ρ with
  | bad => simp only [dNotV, ha] at w
  | ex x xs ρ1 =>
    simp only [dNotV, ha] at w
    exact tE.ex S ha w
  | ok f1 x e1 ρ1 =>
    cases x with
    | bl k =>
      simp only [dNotV, ha] at w
      exact tE.ok S ha fun Z1 H1 F1 v G1 P1 R1 _ => ⟨k, R1.1, w Z1 H1 F1 _ [] P1 ⟨rfl, rfl⟩ fun _ => Fresh.nil⟩
    | _ => simp only [dNotV, ha] at w
end
end Dd
/-! Calls of defs, statements, a def's promise. -/
namespace Dd
open PySem L2

/-! ### chains of comparisons -/
def dChain (f g : D → D → Option (Bool × D)) (a b k : DE) : DE := fun ρ => match a ρ with
  | .ok f1 x e1 ρ1 => (match b ρ1 with
    | .ok f2 y e2 ρ2 => if (!e2 || f1 || frz x) = true then (match f x y with
      | some (_, .bl true) => (match k ρ2 with
        | .ok f3 z e3 ρ3 => if (!e3 || f2 || frz y) = true then (match g y z with | some (fr, d) => .ok fr d ((e1 || e2) || e3) ρ3 | none => .bad) else .bad
        | .ex c xs ρ3 => .ex c xs ρ3
        | .bad => .bad)
      | some (_, .bl false) => .ok true (.bl false) (e1 || e2) ρ2
      | _ => .bad) else .bad
    | .ex c xs ρ2 => .ex c xs ρ2
    | .bad => .bad)
  | .ex c xs ρ1 => .ex c xs ρ1
  | .bad => .bad
/-- an operation by values that gives truth values and makes nothing -/
def OpB (G : Gx) (r : R2) (f : D → D → Option (Bool × D)) : Prop := ∀ (Z H : Hp) (x y : D) (v w : V) (F1 F2 : List Addr) (fr : Bool) (z : D), Ex Z H → Rep G Z H x v F1 → Rep G Z H y w F2 → f x y = some (fr, z) → ∃ b, z = .bl b ∧ ∀ Q : VK, Q (.bl b) H → r v w H Q
theorem b_int {G : Gx} (p : Int → Int → Bool) : OpB G (rI0 fun i j => .bl (p i j)) (fCmp p) := fun Z H x y v w F1 F2 fr z _ r1 r2 hf => by
  cases x <;> cases y <;> simp only [fCmp, fInt, reduceCtorEq, if_true] at hf
  rename_i i j
  simp only [Option.some.injEq, Prod.mk.injEq] at hf
  obtain ⟨rfl, rfl⟩ := hf
  exact ⟨_, rfl, fun Q q => ⟨i, j, r1.1, r2.1, q⟩⟩
theorem chain_imp {c : Cc} {ma mb mc : DE} {σ : St} {H : Hp} {Q : VK} {r r' : R2} {f g : D → D → Option (Bool × D)} (hf : OpB c.G r f) (hg : OpB c.G r' g) (w : tE c (dChain f g ma mb mc) σ H Q) : tChain r r' (tE c ma) (tE c mb) (tE c mc) σ H Q := by
  obtain ⟨Z, ρ, F, S, w⟩ := w
  show tE c ma σ H fun x H1 => tE c mb σ H1 fun y H2 => r x y H2 fun z H3 => ∃ k, z = .bl k ∧ (if k = true then tE c mc σ H3 fun w' H4 => r' y w' H4 Q else Q (.bl false) H3)
  cases ha : ma ρ with
  | bad => simp only [dChain, ha] at w
  | ex x xs ρ1 =>
    simp only [dChain, ha] at w
    exact tE.ex S ha w
  | ok f1 x e1 ρ1 =>
    simp only [dChain, ha] at w
    refine tE.ok S ha fun Z1 H1 F1 v G1 P1 R1 f1h => ?_
    cases hb : mb ρ1 with
    | bad => simp only [hb] at w
    | ex x xs ρ2 =>
      simp only [hb] at w
      exact tE.ex P1.sta hb fun Z2 H2 F2 s2 S2 => w Z2 H2 F2 (P1.st.trans s2) S2
    | ok f2 y e2 ρ2 =>
      simp only [hb] at w
      refine tE.ok P1.sta hb fun Z2 H2 F2 u G2 P2 R2 f2h => ?_
      by_cases hk : (!e2 || f1 || frz x) = true
      · rw [if_pos hk] at w
        cases hq : f x y with
        | none => simp only [hq] at w
        | some p =>
          obtain ⟨fr, z⟩ := p
          obtain ⟨b, rfl, kr⟩ := hf Z2 H2 x y v u G1 G2 fr z P2.sta.zh (R1.later f1h P2 hk) R2 hq
          refine kr _ ⟨b, rfl, ?_⟩
          cases b with
          | false =>
            simp only [hq] at w
            rw [if_neg Bool.false_ne_true]
            exact w Z2 H2 F2 _ [] (P1.trans P2) ⟨rfl, rfl⟩ fun _ => Fresh.nil
          | true =>
            simp only [hq] at w
            rw [if_pos rfl]
            cases hc : mc ρ2 with
            | bad => simp only [hc] at w
            | ex x xs ρ3 =>
              simp only [hc] at w
              exact tE.ex P2.sta hc fun Z3 H3 F3 s3 S3 => w Z3 H3 F3 ((P1.st.trans P2.st).trans s3) S3
            | ok f3 t e3 ρ3 =>
              simp only [hc] at w
              refine tE.ok P2.sta hc fun Z3 H3 F3 u3 G3 P3 R3 f3h => ?_
              by_cases hk2 : (!e3 || f2 || frz y) = true
              · rw [if_pos hk2] at w
                cases hg2 : g y t with
                | none => simp only [hg2] at w
                | some p2 =>
                  obtain ⟨fr2, d2⟩ := p2
                  simp only [hg2] at w
                  obtain ⟨b2, rfl, kr2⟩ := hg Z3 H3 y t u u3 G2 G3 fr2 d2 P3.sta.zh (R2.later f2h P3 hk2) R3 hg2
                  exact kr2 _ (w Z3 H3 F3 _ [] ((P1.trans P2).trans P3) ⟨rfl, rfl⟩ fun _ => Fresh.nil)
              · rw [if_neg hk2] at w
                exact w.elim
      · rw [if_neg hk] at w
        exact w.elim
section
variable {c : Cc} {X : Cx} {a b e : Expr} {ma mb mc : DE} {pos : Pos} {op op' : CmpOp} {r r' : R2} {f g : D → D → Option (Bool × D)}
theorem e_chain (hr : OpR X (compareOp op) r) (hr' : OpR X (compareOp op') r') (hf : OpB c.G r f) (hg : OpB c.G r' g) (ha : PE X a (tE c ma)) (hb : PE X b (tE c mb)) (hc : PE X e (tE c mc)) (hm : lastMarks [op, op'] [b, e] = false := by with_unfolding_all rfl) : PE X (.Compare a [op, op'] [b, e] pos) (tE c (dChain f g ma mb mc)) :=
  (pe_chain hr hr' ha hb hc hm).imp fun _ _ _ w => chain_imp hf hg w
theorem chain_bl (hg : BlF g) : ∀ ρ fr d eff ρ', dChain f g ma mb mc ρ = .ok fr d eff ρ' → ∃ b, d = .bl b := by
  intro ρ fr d eff ρ' h
  unfold dChain at h
  split at h
  · split at h
    · split at h
      · split at h
        · split at h
          · split at h
            · split at h
              · rename_i q
                simp only [Res.ok.injEq] at h
                obtain ⟨rfl, rfl, _⟩ := h
                exact hg _ _ _ _ q
              · cases h
            · cases h
          · cases h
          · cases h
        · simp only [Res.ok.injEq] at h
          exact ⟨false, h.2.1.symm⟩
        · cases h
      · cases h
    · cases h
    · cases h
  · cases h
  · cases h
theorem t_chain (hr : OpR X (compareOp op) r) (hr' : OpR X (compareOp op') r') (hf : OpB c.G r f) (hg : OpB c.G r' g) (hgb : BlF g) (ha : PE X a (tE c ma)) (hb : PE X b (tE c mb)) (hc : PE X e (tE c mc)) (hm : lastMarks [op, op'] [b, e] = false := by with_unfolding_all rfl) : PT X (.Compare a [op, op'] [b, e] pos) (tT c (dT (dChain f g ma mb mc))) :=
  (pt_chain hr hr' ha hb hc hm).imp fun σ H Q w => tTest_imp (fun Q w => chain_imp hf hg w) w (chain_bl hgb)
end
theorem bl_cmp (p : Int → Int → Bool) : BlF (fCmp p) := by
  intro x y fr d h
  cases x <;> cases y <;> simp only [fCmp, fInt, reduceCtorEq, if_true] at h
  simp only [Option.some.injEq, Prod.mk.injEq] at h
  exact ⟨_, h.2.symm⟩
theorem bl_eq : BlF fEq := by
  intro x y fr d h
  unfold fEq at h
  cases q : eqV' x y with
  | none => rw [q] at h; cases h
  | some b => rw [q] at h; simp only [Option.map_some, Option.some.injEq, Prod.mk.injEq] at h; exact ⟨_, h.2.symm⟩
theorem bl_ne : BlF fNe := by
  intro x y fr d h
  unfold fNe at h
  cases q : eqV' x y with
  | none => rw [q] at h; cases h
  | some b => rw [q] at h; simp only [Option.map_some, Option.some.injEq, Prod.mk.injEq] at h; exact ⟨_, h.2.symm⟩
theorem bl_is : BlF fIs := by
  intro x y fr d h
  unfold fIs at h
  split at h
  · simp only [Option.some.injEq, Prod.mk.injEq] at h; exact ⟨_, h.2.symm⟩
  · cases h
theorem bl_isnot : BlF fIsNot := by
  intro x y fr d h
  unfold fIsNot at h
  split at h
  · simp only [Option.some.injEq, Prod.mk.injEq] at h; exact ⟨_, h.2.symm⟩
  · cases h

/-! ### conditional expressions -/
def dIfE (t : DT) (a b : DE) : DE := fun ρ => match t ρ with
  | .ok _ x e ρ1 => (match (if x = true then a else b) ρ1 with
    | .ok f y e2 ρ2 => .ok f y (e || e2) ρ2
    | .ex c xs ρ2 => .ex c xs ρ2
    | .bad => .bad)
  | .ex c xs ρ1 => .ex c xs ρ1
  | .bad => .bad
theorem e_if {c : Cc} {X : Cx} {t a b : Expr} {mt : DT} {ma mb : DE} {pos : Pos} (ht : PT X t (tT c mt)) (ha : PE X a (tE c ma)) (hb : PE X b (tE c mb)) : PE X (.IfExp t a b pos) (tE c (dIfE mt ma mb)) := (pe_ifExp ht ha hb).imp fun σ H Q w => by
  obtain ⟨Z, ρ, F, S, w⟩ := w
  show tT c mt σ H fun k H1 => if k = true then tE c ma σ H1 Q else tE c mb σ H1 Q
  cases ha : mt ρ with
  | bad => simp only [dIfE, ha] at w
  | ex x xs ρ1 =>
    simp only [dIfE, ha] at w
    exact tT.ex S ha w
  | ok f1 x e1 ρ1 =>
    simp only [dIfE, ha] at w
    refine tT.ok S ha fun Z1 H1 F1 P1 => ?_
    have key : ∀ m : DE, (match (match m ρ1 with
        | .ok f y e2 ρ2 => Res.ok f y (e1 || e2) ρ2
        | .ex c xs ρ2 => .ex c xs ρ2
        | .bad => .bad) with
      | .ok fr d eff ρ' => ∀ Z' H' F' v Gf, PostE c Z H σ ρ F eff ρ' Z' H' F' → Rep c.G Z' H' d v Gf → (fr = true → Fresh H F Z' F' Gf) → Q v H'
      | .ex x xs ρ' => ∀ Z' H' F', Step Z H F Z' H' F' → State c.G c.lk Z' H' σ ρ' F' → c.W x xs σ H'
      | .bad => False) → tE c m σ H1 Q := fun m w => by
      cases hm : m ρ1 with
      | bad => simp only [hm] at w
      | ex x xs ρ2 =>
        simp only [hm] at w
        exact tE.ex P1.sta hm fun Z2 H2 F2 s2 S2 => w Z2 H2 F2 (P1.st.trans s2) S2
      | ok f2 y e2 ρ2 =>
        simp only [hm] at w
        exact tE.ok P1.sta hm fun Z2 H2 F2 u G2 P2 R2 f2h => w Z2 H2 F2 u G2 (P1.trans P2) R2 fun q => Fresh.earlier P1 (f2h q)
    cases x with
    | true =>
      rw [if_pos rfl]
      simp only [if_true] at w
      exact key ma w
    | false =>
      rw [if_neg Bool.false_ne_true]
      simp only [Bool.false_eq_true, if_false] at w
      exact key mb w

/-! ### a def's promise -/
inductive FRes where
  | ok (d : D) (out : List D) | ex (x : Str) (out : List D) | bad
abbrev DF := List D → FRes
def lentV (ln : Bool) (vs : List V) : List V := if ln = true then vs.take 1 else []
def spD (G : Gx) (n : Nat) (ln : Bool) (F : DF) : Sp := fun vs H Q E => vs.length = n ∧ ∃ Z ds Fp, Ex Z H ∧ RepL G Z H ds vs Fp ∧ Fp.Nodup ∧ (∀ a ∈ Fp, Z a = none) ∧ match F ds with
  | .ok d out => ∀ Z' H' Fo v Gr, Step Z H Fp Z' H' Fo → RepL G Z' H' out (lentV ln vs) Fo → Fo.Nodup → (∀ a ∈ Fo, Z' a = none) → Rep G Z' H' d v Gr → Fresh H Fp Z' Fo Gr → Q v H'
  | .ex x out => ∀ Z' H' Fo, Step Z H Fp Z' H' Fo → RepL G Z' H' out (lentV ln vs) Fo → Fo.Nodup → (∀ a ∈ Fo, Z' a = none) → ∀ C, G.cn x = some C → E (.ref C) none H'
  | .bad => False
theorem spD_len {G : Gx} {n : Nat} {ln : Bool} {F : DF} : ∀ vs H Q E, spD G n ln F vs H Q E → vs.length = n := fun _ _ _ _ h => h.1
/-- the wish as the hand layer has it -/
def wxOf (c : Cc) : WX := fun cls d σ H => ∃ x C, c.G.cn x = some C ∧ cls = .ref C ∧ d = none ∧ c.W x [] σ H
/-- f(e, ..) of a def that takes all for itself -/
def dCall (F : DF) (a : DA) : DE := fun ρ => match a ρ with
  | .ok _ ds e ρ1 => (match F ds with
    | .ok d [] => .ok true d e ρ1
    | .ok _ _ => .bad
    | .ex x [] => .ex x [] ρ1
    | .ex _ _ => .bad
    | .bad => .bad)
  | .ex c xs ρ1 => .ex c xs ρ1
  | .bad => .bad
/-- f(x, e, ..) of a def that changes what stands at x -/
def dCallL (F : DF) (i : Nat) (a : DA) : DE := fun ρ => match ρ[i]? with
  | some (some _) => (match a ρ with
    | .ok _ ds e ρ1 => (match ρ1[i]? with
      | some (some d0) => (match F (d0 :: ds) with
        | .ok d [d1] => .ok true d true (ρ1.set i (some d1))
        | .ok _ _ => .bad
        | .ex x [d1] => .ex x [] (ρ1.set i (some d1))
        | .ex _ _ => .bad
        | .bad => .bad)
      | _ => .bad)
    | .ex c xs ρ1 => .ex c xs ρ1
    | .bad => .bad)
  | _ => .bad
section
variable {G : Gx} {lk : List (Nat × V)} {Z H Z1 H1 Z2 H2 : Hp} {σ : St} {ρ ρ1 : Env} {Fs F1 G1 Fp Fo F' : List Addr}
theorem State.frame (S : State G lk Z1 H1 σ ρ F1) (s : Step Z1 H1 Fp Z2 H2 Fo) (dis : ∀ a ∈ F1, a ∉ Fp) : State G lk Z2 H2 σ ρ F1 :=
  ⟨s.zh, S.rs.mono s.zz fun a ha o e => s.fr a o e (dis a ha), S.nd, fun a ha => s.zn a (dis a ha) (S.dom ha) (S.fz a ha), S.lk⟩
theorem Step.call (P : Step Z H Fs Z1 H1 F1) (fr : Fresh H Fs Z1 F1 G1) (s : Step Z1 H1 Fp Z2 H2 Fo) (hp : ∀ a ∈ Fp, a ∈ F1 ∨ a ∈ G1) (hf : ∀ a ∈ F', a ∈ F1 ∨ a ∈ Fo) : Step Z H Fs Z2 H2 F' := by
  have out : ∀ a, a ∉ Fs → H a ≠ none → a ∉ Fp := fun a hn h q => by
    rcases hp a q with q | q
    · exact P.notin hn h q
    · exact (fr.nh a q).elim hn h
  refine ⟨P.zz.trans s.zz, s.zh, fun a h => s.dm a (P.dm a h), fun a o h hn => s.fr a o (P.fr a o h hn) (out a hn (ne_none h)), fun a ha => ?_, fun a hn h z => s.zn a (out a hn h) (P.dm a h) (P.zn a hn h z)⟩
  rcases hf a ha with h | h
  · exact P.ff a h
  · rcases s.ff a h with h | h
    · rcases hp a h with h | h
      · exact P.ff a h
      · exact fr.nh a h
    · refine .inr ?_
      cases q : H a with
      | none => rfl
      | some o => exact absurd h (P.dm a (ne_none q))
theorem New.call (n : New Z H Z1 H1) (fr : Fresh H F1 Z1 F1 G1) (s : Step Z1 H1 G1 Z2 H2 Fo) : New Z H Z2 H2 := by
  have out : ∀ a, H a ≠ none → a ∉ G1 := fun a h q => (fr.nh a q).elim (fr.nf a q) h
  refine ⟨n.zz.trans s.zz, fun a o h => s.fr a o (n.hh a o h) (out a (ne_none h)), s.zh, fun a h => ?_⟩
  cases q : Z a with
  | some o => exact (n.zz.trans s.zz) a o q
  | none => exact s.zn a (out a h) (n.dm h) ((n.nn a h).trans q)
theorem Fresh.call (P : Step Z H Fs Z1 H1 F1) (fr : Fresh H Fs Z1 F1 G1) (dom : ∀ a ∈ F1, H1 a ≠ none) {Gr : List Addr} (g : Fresh H1 Fp Z2 Fo Gr) (hp : ∀ a ∈ Fp, a ∈ F1 ∨ a ∈ G1) (hf : ∀ a ∈ F', (a ∈ F1 ∧ a ∉ Fp) ∨ a ∈ Fo) : Fresh H Fs Z2 F' Gr := by
  refine ⟨g.nd, fun a ha => ?_, g.nz, fun a ha q => ?_⟩
  · rcases g.nh a ha with h | h
    · rcases hp a h with h | h
      · exact P.ff a h
      · exact fr.nh a h
    · refine .inr ?_
      cases q : H a with
      | none => rfl
      | some o => exact absurd h (P.dm a (ne_none q))
  · rcases hf a q with ⟨q1, q2⟩ | q
    · exact (g.nh a ha).elim q2 (dom a q1)
    · exact g.nf a ha q
end
section
variable {c : Cc} {σ : St} {H : Hp} {Q : VK} {F : DF} {n : Nat} {ma : DA}
theorem call_imp (hn : ∀ ρ fr ds e ρ', ma ρ = .ok fr ds e ρ' → ds.length = n) (w : tE c (dCall F ma) σ H Q) : tCallS (spD c.G n false F) (WE (wxOf c)) (tA c ma) σ H Q := by
  obtain ⟨Z, ρ, Fs, S, w⟩ := w
  show tA c ma σ H fun vs H1 => spD c.G n false F vs H1 Q (WE (wxOf c) σ)
  cases ha : ma ρ with
  | bad => simp only [dCall, ha] at w
  | ex x xs ρ1 =>
    simp only [dCall, ha] at w
    exact tA.ex S ha w
  | ok f1 ds e1 ρ1 =>
    simp only [dCall, ha] at w
    refine tA.ok S ha fun Z1 H1 F1 vs G1 P1 R1 fr1 => ⟨by rw [← R1.length]; exact hn _ _ _ _ _ ha, Z1, ds, G1, P1.sta.zh, R1, fr1.nd, fr1.nz, ?_⟩
    have dis : ∀ a ∈ F1, a ∉ G1 := fun a ha q => fr1.nf a q ha
    cases hF : F ds with
    | bad => simp only [hF] at w
    | ok d out =>
      cases out with
      | cons o os => simp only [hF] at w
      | nil =>
        simp only [hF] at w
        intro Z2 H2 Fo v Gr s2 ro _ _ rr fr2
        obtain ⟨_, rfl⟩ := ro
        refine w Z2 H2 F1 v Gr ⟨P1.st.call fr1 s2 (fun a h => .inr h) fun a h => .inl h, P1.sta.frame s2 dis, fun he => ?_⟩ rr fun _ => Fresh.call P1.st fr1 (fun a ha => P1.sta.dom ha) fr2 (fun a h => .inr h) fun a h => .inl ⟨h, dis a h⟩
        obtain ⟨q1, q2, q3⟩ := P1.qui he
        subst q2
        exact ⟨q1, rfl, q3.call fr1 s2⟩
    | ex x out =>
      cases out with
      | cons o os => simp only [hF] at w
      | nil =>
        simp only [hF] at w
        intro Z2 H2 Fo s2 ro _ _ C hC
        exact ⟨x, C, hC, rfl, rfl, w Z2 H2 F1 (P1.st.call fr1 s2 (fun a h => .inr h) fun a h => .inl h) (P1.sta.frame s2 dis)⟩
theorem callL_imp {i : Nat} (hn : ∀ ρ fr ds e ρ', ma ρ = .ok fr ds e ρ' → ds.length + 1 = n) (w : tE c (dCallL F i ma) σ H Q) : tCallS (spD c.G n true F) (WE (wxOf c)) (tCons (tVar i) (tA c ma)) σ H Q := by
  obtain ⟨Z, ρ, Fs, S, w⟩ := w
  cases hi : ρ[i]? with
  | none => simp only [dCallL, hi] at w
  | some o =>
    cases o with
    | none => simp only [dCallL, hi] at w
    | some dz =>
      obtain ⟨v, _, _, _, gv, _⟩ := S.rs.get hi
      simp only [dCallL, hi] at w
      show ∃ v, σ[i]? = some (some v) ∧ tA c ma σ H fun vs H1 => spD c.G n true F (v :: vs) H1 Q (WE (wxOf c) σ)
      refine ⟨v, gv, ?_⟩
      cases ha : ma ρ with
      | bad => simp only [ha] at w
      | ex x xs ρ1 =>
        simp only [ha] at w
        exact tA.ex S ha w
      | ok f1 ds e1 ρ1 =>
        simp only [ha] at w
        refine tA.ok S ha fun Z1 H1 F1 vs G1 P1 R1 fr1 => ?_
        cases hj : ρ1[i]? with
        | none => simp only [hj] at w
        | some o =>
          cases o with
          | none => simp only [hj] at w
          | some d0 =>
            simp only [hj] at w
            have hlt : i < ρ1.length := by
              rcases Nat.lt_or_ge i ρ1.length with h | h
              · exact h
              · rw [List.getElem?_eq_none h] at hj; cases hj
            obtain ⟨v1, A, Fi, B, g1, g2, g3, g4⟩ := P1.sta.rs.get hj
            have ev : v1 = v := by
              rw [gv] at g1
              exact (Option.some.inj (Option.some.inj g1)).symm
            subst ev
            obtain ⟨n1, n2, n3⟩ := nodup_mid (by rw [← g2]; exact P1.sta.nd)
            have inF : ∀ a, a ∈ Fi → a ∈ F1 := fun a h => by rw [g2]; exact mem_mid.mpr (.inl h)
            have inF2 : ∀ a, a ∈ A ++ B → a ∈ F1 := fun a h => by rw [g2]; exact mem_mid.mpr (.inr h)
            have hp : ∀ a ∈ Fi ++ G1, a ∈ F1 ∨ a ∈ G1 := fun a h => (List.mem_append.mp h).imp (inF a) id
            have rest : State c.G c.lk Z1 H1 σ (ρ1.set i none) (A ++ B) := ⟨P1.sta.zh, g4, n1, fun a h => P1.sta.fz a (inF2 a h), P1.sta.lk⟩
            have dis : ∀ a ∈ A ++ B, a ∉ Fi ++ G1 := fun a h q => (List.mem_append.mp q).elim (fun q => n3 a q h) fun q => fr1.nf a q (inF2 a h)
            refine ⟨by rw [List.length_cons, ← R1.length]; exact hn _ _ _ _ _ ha, Z1, d0 :: ds, Fi ++ G1, P1.sta.zh, ⟨v1, vs, Fi, G1, rfl, rfl, g3, R1⟩, List.nodup_append.mpr ⟨n2, fr1.nd, fun a h b h2 e => fr1.nf b h2 (inF b (e ▸ h))⟩, fun a h => (List.mem_append.mp h).elim (fun h => P1.sta.fz a (inF a h)) (fr1.nz a), ?_⟩
            -- behind the call: slot i filled again
            have back : ∀ {Z2 H2 : Hp} {Fo : List Addr} {d1 : D}, Step Z1 H1 (Fi ++ G1) Z2 H2 Fo → RepL c.G Z2 H2 [d1] (lentV true (v1 :: vs)) Fo → Fo.Nodup → (∀ a ∈ Fo, Z2 a = none) →
                ∃ F2, State c.G c.lk Z2 H2 σ (ρ1.set i (some d1)) F2 ∧ Step Z H Fs Z2 H2 F2 ∧ ∀ a ∈ F2, (a ∈ F1 ∧ a ∉ Fi ++ G1) ∨ a ∈ Fo := fun {Z2 H2 Fo d1} s2 ro no zo => by
              obtain ⟨v2, vs2, F3, F4, e3, e4, r3, r4⟩ := ro
              obtain ⟨rfl, rfl⟩ := r4
              have ev : v1 = v2 := by
                have e3' : [v1] = [v2] := e3
                exact (List.cons.inj e3').1
              subst ev
              rw [List.append_nil] at e4
              subst e4
              have rf := rest.frame s2 dis
              obtain ⟨A', B', p1, p2⟩ := RepS.put (i := i) rf.rs (by rw [List.getElem?_set_self hlt]) r3
              rw [List.set_set] at p2
              have es : σ.set i (some v1) = σ := by
                have hs : i < σ.length := by rw [← P1.sta.rs.length]; exact hlt
                rw [List.getElem?_eq_getElem hs] at gv
                rw [← Option.some.inj gv, List.set_getElem_self]
              rw [es] at p2
              have hf : ∀ a ∈ A' ++ Fo ++ B', (a ∈ F1 ∧ a ∉ Fi ++ G1) ∨ a ∈ Fo := fun a h => by
                rcases mem_mid.mp h with h | h
                · exact .inr h
                · rw [← p1] at h
                  exact .inl ⟨inF2 a h, dis a h⟩
              refine ⟨A' ++ Fo ++ B', ⟨s2.zh, p2, nodup_put (by rw [← p1]; exact n1) no fun a h q => ?_, fun a h => ?_, P1.sta.lk⟩, P1.st.call fr1 s2 hp fun a h => (hf a h).imp And.left id, hf⟩
              · rw [← p1] at q
                exact (s2.ff a h).elim (dis a q) (P1.sta.dom (inF2 a q))
              · rcases mem_mid.mp h with h | h
                · exact zo a h
                · rw [← p1] at h
                  exact rf.fz a h
            cases hF : F (d0 :: ds) with
            | bad => simp only [hF] at w
            | ok d out =>
              match out, hF with
              | [], hF => simp only [hF] at w
              | _ :: _ :: _, hF => simp only [hF] at w
              | [d1], hF =>
                simp only [hF] at w
                intro Z2 H2 Fo v' Gr s2 ro no zo rr fr2
                obtain ⟨F2, S2, st2, hf⟩ := back s2 ro no zo
                exact w Z2 H2 F2 v' Gr ⟨st2, S2, fun q => nomatch q⟩ rr fun _ => Fresh.call P1.st fr1 (fun a ha => P1.sta.dom ha) fr2 hp hf
            | ex x out =>
              match out, hF with
              | [], hF => simp only [hF] at w
              | _ :: _ :: _, hF => simp only [hF] at w
              | [d1], hF =>
                simp only [hF] at w
                intro Z2 H2 Fo s2 ro no zo C hC
                obtain ⟨F2, S2, st2, hf⟩ := back s2 ro no zo
                exact ⟨x, C, hC, rfl, rfl, w Z2 H2 F2 st2 S2⟩
end
end Dd
/-! Calls as expressions; statements; bodies. -/
namespace Dd
open PySem L2

def LenA (m : DA) (n : Nat) : Prop := ∀ ρ fr ds e ρ', m ρ = .ok fr ds e ρ' → ds.length = n
theorem len_nil : LenA dNil 0 := fun ρ fr ds e ρ' h => by
  simp only [dNil, Res.ok.injEq] at h
  rw [← h.2.1]; rfl
theorem len_cons {m : DE} {r : DA} {n : Nat} (h : LenA r n) : LenA (dCons m r) (n + 1) := fun ρ fr ds e ρ' q => by
  unfold dCons at q
  split at q
  · split at q
    · split at q
      · rename_i hr
        simp only [Res.ok.injEq] at q
        rw [← q.2.1, List.length_cons, h _ _ _ _ _ hr]
      · cases q
      · cases q
    · cases q
  · cases q
  · cases q
section
variable {c : Cc} {X : Cx} {x : Str} {p pos kpos : Pos} {e : Expr} {es : List Expr} {m : DE} {a : DA} {f : Addr} {fd : FuncData} {ps : List Str} {F : DF} {n k : Nat}
/-- f(e, ..) -/
theorem e_call (G : FnOk X.prog X.w X.K X.mg X.base (L2.CX X.prog X.w) k f fd ps (spD c.G n false F)) (hr : Room k X.A) (hg : Gl X x) (hm : X.mg x = some (.ref f)) (hk : PySem.W.keepIn X.K (.ref f) = true) (hb : Binds X.K fd ps []) (tk : Takes X (wxOf c))
    (ha : PA X (e :: es) (tA c a)) (hn : LenA a n) (hdb : (x == ("__debug__" : Str)) = false := by decide) (he : starEach (e :: es) X.env = (false, eval e X.env) :: starEach es X.env := by rfl) (hpl : (backTo pos (starEach es X.env)).any (·.1) = false := by rfl) :
    PE X (.Call (.Name x p) (e :: es) [] pos) (tE c (dCall F a)) := (pe_callS G hr hg hm hk hb (fun σ => passAt tk σ) ha hdb he hpl).imp fun _ _ _ w => call_imp hn w
/-- f(x, e, ..), what stands at x is changed -/
theorem e_callL {i : Nat} (G : FnOk X.prog X.w X.K X.mg X.base (L2.CX X.prog X.w) k f fd ps (spD c.G n true F)) (hr : Room k X.A) (hg : Gl X x) (hm : X.mg x = some (.ref f)) (hk : PySem.W.keepIn X.K (.ref f) = true) (hb : Binds X.K fd ps []) (tk : Takes X (wxOf c))
    (hv : PE X e (tVar i)) (ha : PA X es (tA c a)) (hn : LenA a (n - 1)) (h1 : 0 < n := by decide) (hdb : (x == ("__debug__" : Str)) = false := by decide) (he : starEach (e :: es) X.env = (false, eval e X.env) :: starEach es X.env := by rfl) (hpl : (backTo pos (starEach es X.env)).any (·.1) = false := by rfl) :
    PE X (.Call (.Name x p) (e :: es) [] pos) (tE c (dCallL F i a)) := (pe_callS G hr hg hm hk hb (fun σ => passAt tk σ) (pa_cons hv ha he) hdb he hpl).imp fun _ _ _ w => callL_imp (fun ρ fr ds e ρ' q => by rw [hn _ _ _ _ _ q]; omega) w
end

/-! ### statements -/
def dDrop (m : DE) : DS := fun ρ => match m ρ with
  | .ok _ _ _ ρ1 => .nx ρ1
  | .ex c xs ρ1 => .ex c xs ρ1
  | .bad => .bad
def dAsg (i : Nat) (m : DE) : DS := fun ρ => match m ρ with
  | .ok f d _ ρ1 => if (f || frz d) = true then (if i < ρ1.length then .nx (ρ1.set i (some d)) else .bad) else .bad
  | .ex c xs ρ1 => .ex c xs ρ1
  | .bad => .bad
def dRet (m : DE) : DS := fun ρ => match m ρ with
  | .ok f d _ ρ1 => if (f || frz d) = true then .rt d ρ1 else .bad
  | .ex c xs ρ1 => .ex c xs ρ1
  | .bad => .bad
def dRetN : DS := fun ρ => .rt .non ρ
def dPass : DS := fun ρ => .nx ρ
def dBrk : DS := fun ρ => .bk ρ
def dCnt : DS := fun ρ => .ct ρ
def dSeq (a b : DS) : DS := fun ρ => match a ρ with
  | .nx ρ1 => b ρ1
  | r => r
def dIf (t : DT) (a b : DS) : DS := fun ρ => match t ρ with
  | .ok _ x _ ρ1 => if x = true then a ρ1 else b ρ1
  | .ex c xs ρ1 => .ex c xs ρ1
  | .bad => .bad
def dRaise (x : Str) : DS := fun ρ => .ex x [] ρ
/-- x += e of ints -/
def dAug (i : Nat) (g : Int → Int → Int) (m : DE) : DS := fun ρ => match ρ[i]? with
  | some (some (.int a)) => (match m ρ with
    | .ok _ (.int b) _ ρ1 => if i < ρ1.length then .nx (ρ1.set i (some (.int (g a b)))) else .bad
    | .ok _ _ _ _ => .bad
    | .ex c xs ρ1 => .ex c xs ρ1
    | .bad => .bad)
  | _ => .bad
def setAll : List Nat → List D → Env → Option Env
  | [], [], ρ => some ρ
  | i :: is, d :: ds, ρ => if i < ρ.length then setAll is ds (ρ.set i (some d)) else none
  | _, _, _ => none
/-- a, b = e -/
def dAsgT (is : List Nat) (m : DE) : DS := fun ρ => match m ρ with
  | .ok f d _ ρ1 => if (f || frz d) = true then (match d with
    | .box _ .tup ds => (match setAll is ds ρ1 with | some ρ2 => .nx ρ2 | none => .bad)
    | _ => .bad) else .bad
  | .ex c xs ρ1 => .ex c xs ρ1
  | .bad => .bad
section
variable {G : Gx} {lk : List (Nat × V)} {Z H : Hp}
def setV : List Nat → List V → St → St
  | i :: is, v :: vs, σ => setV is vs (σ.set i (some v))
  | _, _, σ => σ
theorem State.setAll : ∀ {is : List Nat} {ds : List D} {vs : List V} {σ : St} {ρ ρ' : Env} {F Gf : List Addr}, State G lk Z H σ ρ F → RepL G Z H ds vs Gf → Gf.Nodup → (∀ a ∈ Gf, Z a = none) → (∀ a ∈ Gf, a ∉ F) → (∀ i ∈ is, ∀ p ∈ lk, p.1 ≠ i) → setAll is ds ρ = some ρ' →
    ∃ F', State G lk Z H (setV is vs σ) ρ' F' ∧ ∀ a ∈ F', a ∈ F ∨ a ∈ Gf
  | [], [], vs, σ, ρ, ρ', F, Gf, S, r, _, _, _, _, h => by
    simp only [Dd.setAll, Option.some.injEq] at h
    subst h
    exact ⟨F, by simpa [setV] using S, fun a h => .inl h⟩
  | [], _ :: _, _, _, _, _, _, _, _, _, _, _, _, _, h => by simp only [Dd.setAll, reduceCtorEq] at h
  | _ :: _, [], _, _, _, _, _, _, _, _, _, _, _, _, h => by simp only [Dd.setAll, reduceCtorEq] at h
  | i :: is, d :: ds, vs, σ, ρ, ρ', F, Gf, S, r, nd, nz, nf, hl, h => by
    obtain ⟨v, vs', G1, G2, rfl, rfl, r1, r2⟩ := r
    simp only [Dd.setAll] at h
    split at h
    · rename_i hi
      obtain ⟨n1, n2, n3⟩ := List.nodup_append.mp nd
      obtain ⟨F1, S1, h1⟩ := S.set hi r1 n1 (fun a ha => nz a (List.mem_append_left _ ha)) (fun a ha => nf a (List.mem_append_left _ ha)) (hl i List.mem_cons_self)
      obtain ⟨F2, S2, h2⟩ := State.setAll S1 r2 n2 (fun a ha => nz a (List.mem_append_right _ ha)) (fun a ha q => (h1 a q).elim (nf a (List.mem_append_right _ ha)) fun q => n3 a q a ha rfl) (fun j hj => hl j (List.mem_cons_of_mem _ hj)) h
      exact ⟨F2, S2, fun a ha => (h2 a ha).elim (fun q => (h1 a q).imp id (List.mem_append_left _)) fun q => .inr (List.mem_append_right _ q)⟩
    · cases h
end
def lkOk (lk : List (Nat × V)) (i : Nat) : Bool := lk.all fun p => p.1 != i
theorem lkOk.ne {lk : List (Nat × V)} {i : Nat} (h : lkOk lk i = true) : ∀ p ∈ lk, p.1 ≠ i := fun p hp => by
  have q := List.all_eq_true.mp h p hp
  simpa using q
section
variable {c : Cc} {X : Cx} {e t : Expr} {st : Stmt} {rest sa sb : List Stmt} {m : DE} {mt : DT} {a b : DS} {pos : Pos}
theorem s_drop (he : PE X e (tE c m)) (hs : swapsWith e none pos.line X.env = pure false := by rfl) : PS X (.Expr e pos) (tS c (dDrop m)) := (ps_expr he hs).imp fun D σ H w => by
  obtain ⟨Z, ρ, F, S, w⟩ := w
  show tE c m σ H fun _ H1 => D.nx σ H1
  cases ha : m ρ with
  | bad => simp only [dDrop, ha, SOut] at w
  | ex x xs ρ1 =>
    simp only [dDrop, ha, SOut] at w
    exact tE.ex S ha fun Z' H' F' => w Z' H' F' σ
  | ok f1 x e1 ρ1 =>
    simp only [dDrop, ha, SOut] at w
    exact tE.ok S ha fun Z1 H1 F1 v G1 P1 R1 _ => w Z1 H1 F1 σ P1.st P1.sta
theorem fresh_or {H Z1 : Hp} {F F1 G1 : List Addr} {G : Gx} {H1 : Hp} {d : D} {v : V} {f : Bool} (h : (f || frz d) = true) (r : Rep G Z1 H1 d v G1) (q : f = true → Fresh H F Z1 F1 G1) : Fresh H F Z1 F1 G1 := by
  cases f with
  | true => exact q rfl
  | false =>
    have e0 := r.frz_nil (by simpa using h)
    subst e0
    exact Fresh.nil
theorem Step.sub' {Z H Z1 H1 : Hp} {F F1 F2 G1 : List Addr} (a : Step Z H F Z1 H1 F1) (f : Fresh H F Z1 F1 G1) (h : ∀ x ∈ F2, x ∈ F1 ∨ x ∈ G1) : Step Z H F Z1 H1 F2 :=
  ⟨a.zz, a.zh, a.dm, a.fr, fun x hx => (h x hx).elim (a.ff x) (f.nh x), a.zn⟩
theorem asg_imp {i : Nat} {D : Ends} {σ : St} {H : Hp} (hl : lkOk c.lk i = true) (w : tS c (dAsg i m) D σ H) : tAsg (tE c m) (gName i) D σ H := by
  obtain ⟨Z, ρ, F, S, w⟩ := w
  show tE c m σ H fun x H1 => D.nx (σ.set i (some x)) H1
  cases ha : m ρ with
  | bad => simp only [dAsg, ha, SOut] at w
  | ex x xs ρ1 =>
    simp only [dAsg, ha, SOut] at w
    exact tE.ex S ha fun Z' H' F' => w Z' H' F' σ
  | ok f1 d e1 ρ1 =>
    simp only [dAsg, ha, SOut] at w
    by_cases hk : (f1 || frz d) = true
    · rw [if_pos hk] at w
      by_cases hi : i < ρ1.length
      · rw [if_pos hi] at w
        refine tE.ok S ha fun Z1 H1 F1 v G1 P1 R1 f1h => ?_
        have fr := fresh_or hk R1 f1h
        obtain ⟨F2, S2, h2⟩ := P1.sta.set hi R1 fr.nd fr.nz fr.nf (lkOk.ne hl)
        exact w Z1 H1 F2 _ (P1.st.sub' fr h2) S2
      · rw [if_neg hi] at w
        exact w.elim
    · rw [if_neg hk] at w
      exact w.elim

theorem s_asg {i : Nat} {x : Str} {pos' : Pos} (hN : X.N.Nodup) (hi : X.N[i]? = some x) (hx : Loc X.env.scope x) (he : PE X e (tE c m)) (hs : swapsWith e (some (.Name x pos')) pos.line X.env = pure false := by rfl) (hf : X.fn x = true ∨ X.env.scope.names.lookup x = some .local := by first | exact .inl rfl | exact .inr rfl | assumption)
    (hl : lkOk c.lk i = true := by rfl) : PS X (.Assign [.Name x pos'] e pos) (tS c (dAsg i m)) := (ps_set hN hi hx he hs hf).imp fun _ _ _ w => asg_imp hl w
theorem ret_imp {D : Ends} {σ : St} {H : Hp} (w : tS c (dRet m) D σ H) : tRet (tE c m) D σ H := by
  obtain ⟨Z, ρ, F, S, w⟩ := w
  show tE c m σ H D.rt
  cases ha : m ρ with
  | bad => simp only [dRet, ha, SOut] at w
  | ex x xs ρ1 =>
    simp only [dRet, ha, SOut] at w
    exact tE.ex S ha fun Z' H' F' => w Z' H' F' σ
  | ok f1 d e1 ρ1 =>
    simp only [dRet, ha, SOut] at w
    by_cases hk : (f1 || frz d) = true
    · rw [if_pos hk] at w
      exact tE.ok S ha fun Z1 H1 F1 v G1 P1 R1 f1h => w Z1 H1 F1 σ v G1 P1.st P1.sta R1 (fresh_or hk R1 f1h)
    · rw [if_neg hk] at w
      exact w.elim
theorem s_ret (he : PE X e (tE c m)) : PS X (.Return (some e) pos) (tS c (dRet m)) := (ps_ret he).imp fun _ _ _ w => ret_imp w
theorem s_retN : PS X (.Return none pos) (tS c dRetN) := ps_retN.imp fun D σ H w => by
  obtain ⟨Z, ρ, F, S, w⟩ := w
  exact w Z H F σ .non [] (Step.refl S.zh) S ⟨rfl, rfl⟩ Fresh.nil
theorem s_pass : PS X (.Pass pos) (tS c dPass) := ps_pass.imp fun D σ H w => by
  obtain ⟨Z, ρ, F, S, w⟩ := w
  exact w Z H F σ (Step.refl S.zh) S
theorem s_break : PS X (.Break pos) (tS c dBrk) := ps_break.imp fun D σ H w => by
  obtain ⟨Z, ρ, F, S, w⟩ := w
  exact w Z H F σ (Step.refl S.zh) S
theorem s_continue : PS X (.Continue pos) (tS c dCnt) := ps_continue.imp fun D σ H w => by
  obtain ⟨Z, ρ, F, S, w⟩ := w
  exact w Z H F σ (Step.refl S.zh) S
/-- a piece behind a step -/
theorem tS.after {Z H Z1 H1 : Hp} {σ1 : St} {ρ1 : Env} {F F1 : List Addr} {D : Ends} {r : SRes} (st : Step Z H F Z1 H1 F1) (S1 : State c.G c.lk Z1 H1 σ1 ρ1 F1) (e : b ρ1 = r)
    (w : SOut c Z H F D r) : tS c b D σ1 H1 := by
  refine ⟨Z1, ρ1, F1, S1, ?_⟩
  rw [e]
  cases r with
  | nx ρ' => exact fun Z' H' F' σ' s S' => w Z' H' F' σ' (st.trans s) S'
  | bk ρ' => exact fun Z' H' F' σ' s S' => w Z' H' F' σ' (st.trans s) S'
  | ct ρ' => exact fun Z' H' F' σ' s S' => w Z' H' F' σ' (st.trans s) S'
  | rt d ρ' => exact fun Z' H' F' σ' v Gf s S' r f => w Z' H' F' σ' v Gf (st.trans s) S' r (f.step st)
  | ex x xs ρ' => exact fun Z' H' F' σ' s S' => w Z' H' F' σ' (st.trans s) S'
  | bad => exact w
theorem seq_imp {D : Ends} {σ : St} {H : Hp} (w : tS c (dSeq a b) D σ H) : tSeq (tS c a) (tS c b) D σ H := by
  obtain ⟨Z, ρ, F, S, w⟩ := w
  show tS c a { D with nx := tS c b D } σ H
  refine ⟨Z, ρ, F, S, ?_⟩
  cases ha : a ρ with
  | nx ρ1 =>
    simp only [dSeq, ha, SOut] at w
    exact fun Z' H' F' σ' s S' => tS.after s S' rfl w
  | bk ρ1 => simp only [dSeq, ha, SOut] at w; exact w
  | ct ρ1 => simp only [dSeq, ha, SOut] at w; exact w
  | rt d ρ1 => simp only [dSeq, ha, SOut] at w; exact w
  | ex x xs ρ1 => simp only [dSeq, ha, SOut] at w; exact w
  | bad => simp only [dSeq, ha, SOut] at w
theorem b_nil : PSs X [] (tS c dPass) := pss_nil.imp fun D σ H w => by
  obtain ⟨Z, ρ, F, S, w⟩ := w
  exact w Z H F σ (Step.refl S.zh) S
theorem b_one (h : PS X st (tS c a)) : PSs X [st] (tS c a) := pss_one h
theorem b_cons (h1 : PS X st (tS c a)) (h2 : PSs X rest (tS c b)) : PSs X (st :: rest) (tS c (dSeq a b)) := (pss_cons h1 h2).imp fun _ _ _ w => seq_imp w
theorem s_if (ht : PT X t (tT c mt)) (ha : PSs X sa (tS c a)) (hb : PSs X sb (tS c b)) : PS X (.If t sa sb pos) (tS c (dIf mt a b)) := (ps_if ht ha hb).imp fun D σ H w => by
  obtain ⟨Z, ρ, F, S, w⟩ := w
  show tT c mt σ H fun k H1 => if k = true then tS c a D σ H1 else tS c b D σ H1
  cases ha : mt ρ with
  | bad => simp only [dIf, ha, SOut] at w
  | ex x xs ρ1 =>
    simp only [dIf, ha, SOut] at w
    exact tT.ex S ha fun Z' H' F' => w Z' H' F' σ
  | ok f1 x e1 ρ1 =>
    simp only [dIf, ha, SOut] at w
    refine tT.ok S ha fun Z1 H1 F1 P1 => ?_
    cases x with
    | true =>
      rw [if_pos rfl] at w ⊢
      exact tS.after P1.st P1.sta rfl w
    | false =>
      rw [if_neg Bool.false_ne_true] at w ⊢
      exact tS.after P1.st P1.sta rfl w
/-- raise X('..') -/
theorem s_raise {x : Str} {C : Addr} {t : St → Hp → XK → Prop} (hc : X.calm = true) (tk : Takes X (wxOf c)) (he : PMk X e t) (ht : ∀ σ H (Q : XK), Q (.ref C) none H → t σ H Q) (hx : c.G.cn x = some C) : PS X (.Raise (some e) none pos) (tS c (dRaise x)) := (ps_raise hc tk he).imp fun D σ H w => by
  obtain ⟨Z, ρ, F, S, w⟩ := w
  exact ht σ H _ ⟨x, C, hx, rfl, rfl, w Z H F σ (Step.refl S.zh) S⟩
theorem aug_imp {i : Nat} {g : Int → Int → Int} {D : Ends} {σ : St} {H : Hp} (hl : lkOk c.lk i = true) (w : tS c (dAug i g m) D σ H) : tAug i (tE c m) (ipI g) D σ H := by
  obtain ⟨Z, ρ, F, S, w⟩ := w
  cases hi : ρ[i]? with
  | none => simp only [dAug, hi, SOut] at w
  | some o =>
    cases o with
    | none => simp only [dAug, hi, SOut] at w
    | some d =>
      cases d with
      | int n =>
        simp only [dAug, hi, SOut] at w
        obtain ⟨v, A, F1, B, g1, g2, g3, g4⟩ := S.rs.get hi
        refine ⟨v, g1, ?_⟩
        cases ha : m ρ with
        | bad => simp only [ha, SOut] at w
        | ex x xs ρ1 =>
          simp only [ha, SOut] at w
          exact tE.ex S ha fun Z' H' F' => w Z' H' F' σ
        | ok f1 d e1 ρ1 =>
          cases d with
          | int k =>
            simp only [ha, SOut] at w
            by_cases hlt : i < ρ1.length
            · rw [if_pos hlt] at w
              refine tE.ok S ha fun Z1 H1 F1 u G1 P1 R1 f1h => ⟨n, k, g3.1, R1.1, ?_⟩
              obtain ⟨F2, S2, h2⟩ := P1.sta.set (d := .int (g n k)) (v := .int (g n k)) (Gf := []) hlt ⟨rfl, rfl⟩ List.nodup_nil (by simp) (by simp) (lkOk.ne hl)
              exact w Z1 H1 F2 _ (P1.st.sub fun x hx => .inl ((h2 x hx).elim id fun q => by cases q)) S2
            · rw [if_neg hlt] at w
              exact w.elim
          | _ => simp only [ha, SOut] at w
      | _ => simp only [dAug, hi, SOut] at w
theorem s_aug {i : Nat} {x : Str} {op : Operator} {g : Int → Int → Int} {pos' : Pos} (hN : X.N.Nodup) (hi : X.N[i]? = some x) (hx : Loc X.env.scope x) (he : PE X e (tE c m)) (ho : PIp X op (ipI g)) (hf : X.fn x = true ∨ X.env.scope.names.lookup x = some .local := by first | exact .inl rfl | exact .inr rfl | assumption)
    (hl : lkOk c.lk i = true := by rfl) (hv : Vis X.env.scope x := by first | exact Or.inl rfl | exact Or.inr (Or.inl rfl) | exact Or.inr (Or.inr rfl)) : PS X (.AugAssign (.Name x pos') op e pos) (tS c (dAug i g m)) := (ps_aug hN hi hx he ho).imp fun _ _ _ w => aug_imp hl w
/-! ### a, b = e -/
end
def gNames : List Nat → TGs
  | [] => gNil
  | i :: is => gCons (gName i) (gNames is)
theorem gNames_of {is : List Nat} : ∀ {vs : List V} {σ : St} {H : Hp} {Q : St → Hp → Prop}, vs.length = is.length → Q (setV is vs σ) H → gNames is vs σ H Q := by
  induction is with
  | nil =>
    intro vs σ H Q hl q
    have e : vs = [] := List.length_eq_zero_iff.mp hl
    subst e
    exact ⟨rfl, q⟩
  | cons i is ih =>
    intro vs σ H Q hl q
    cases vs with
    | nil => cases hl
    | cons v vs => exact ⟨v, vs, rfl, ih (by simpa using hl) q⟩
theorem setAll_len : ∀ {is : List Nat} {ds : List D} {ρ ρ' : Env}, setAll is ds ρ = some ρ' → ds.length = is.length
  | [], [], _, _, _ => rfl
  | [], _ :: _, _, _, h => by simp only [setAll, reduceCtorEq] at h
  | _ :: _, [], _, _, h => by simp only [setAll, reduceCtorEq] at h
  | i :: is, d :: ds, ρ, ρ', h => by
    simp only [setAll] at h
    split at h
    · rw [List.length_cons, List.length_cons, setAll_len h]
    · cases h
section
variable {c : Cc} {X : Cx} {e : Expr} {es : List Expr} {m : DE} {pos : Pos} {is : List Nat}
theorem asgT_imp {n : Nat} {D : Ends} {σ : St} {H : Hp} (hn : is.length = n) (hl : ∀ i ∈ is, lkOk c.lk i = true) (w : tS c (dAsgT is m) D σ H) : tAsg (tE c m) (gTup c.G.K n (gNames is)) D σ H := by
  obtain ⟨Z, ρ, F, S, w⟩ := w
  show tE c m σ H fun x H1 => gTup c.G.K n (gNames is) x σ H1 D.nx
  cases ha : m ρ with
  | bad => simp only [dAsgT, ha, SOut] at w
  | ex x xs ρ1 =>
    simp only [dAsgT, ha, SOut] at w
    exact tE.ex S ha fun Z' H' F' => w Z' H' F' σ
  | ok f1 d e1 ρ1 =>
    simp only [dAsgT, ha, SOut] at w
    by_cases hk : (f1 || frz d) = true
    · rw [if_pos hk] at w
      refine tE.ok S ha fun Z1 H1 F1 v G1 P1 R1 f1h => ?_
      have fr := fresh_or hk R1 f1h
      cases d with
      | box own kd ds =>
        cases kd with
        | tup =>
          simp only [SOut] at w
          cases hs : setAll is ds ρ1 with
          | none => simp only [hs, SOut] at w
          | some ρ2 =>
            simp only [hs, SOut] at w
            obtain ⟨_, a, vs, rfl, ht, hr⟩ := rep_tup P1.sta.zh R1
            obtain ⟨F2, S2, h2⟩ := P1.sta.setAll hr fr.nd fr.nz fr.nf (fun i hi => lkOk.ne (hl i hi)) hs
            have hlen : vs.length = is.length := by rw [← hr.length]; exact setAll_len hs
            exact ⟨a, vs, rfl, ex_t P1.sta.zh ht, hlen.trans hn, gNames_of hlen (w Z1 H1 F2 _ (P1.st.sub' fr h2) S2)⟩
        | _ => simp only [SOut] at w
      | _ => simp only [SOut] at w
    · rw [if_neg hk] at w
      exact w.elim
theorem s_asgT {k : Nat} {n : Nat} (hc : X.calm = true) (he : PE X e (tE c m)) (hg : PGs X es (gNames is)) (hn : is.length = n) (hK : X.K = c.G.K := by rfl) (hl : is.all (lkOk c.lk) = true := by rfl) (hn1 : (assignEach es X.env).length = n := by rfl) (hst : (assignEach es X.env).findIdx? (·.1) = none := by rfl)
    (hs : swapsWithSole [.Tuple es k p0] e pos.line X.env = pure false := by rfl) (hw : swappedStores [.Tuple es k p0] e X.env = pure none := by rfl) : PS X (.Assign [.Tuple es k p0] e pos) (tS c (dAsgT is m)) := (ps_asg he (pg_tup hc hg hn1 hst) hs hw).imp fun D σ H w => by
  rw [hK]
  exact asgT_imp hn (List.all_eq_true.mp hl) w
end
end Dd
/-! What changes a list in its slot. -/
namespace Dd
open PySem L2

section
variable {G : Gx} {lk : List (Nat × V)} {Z H : Hp} {σ : St} {ρ : Env} {F : List Addr}
theorem RepL.split : ∀ {ds : List D} {vs : List V} {F : List Addr} {j : Nat} {d : D}, RepL G Z H ds vs F → ds[j]? = some d → ∃ v A F1 B, vs[j]? = some v ∧ F = A ++ F1 ++ B ∧ Rep G Z H d v F1 ∧
    (∀ e u Ge, Rep G Z H e u Ge → RepL G Z H (ds.set j e) (vs.set j u) (A ++ Ge ++ B)) ∧ RepL G Z H (ds.eraseIdx j) (vs.eraseIdx j) (A ++ B)
  | [], _, _, _, _, _, e => by simp at e
  | c :: ds, vs, F, 0, d, h, e => by
    obtain ⟨v, vs', F1, F2, e1, e2, h1, h2⟩ := h
    simp only [List.getElem?_cons_zero, Option.some.injEq] at e
    subst e
    exact ⟨v, [], F1, F2, by rw [e1]; rfl, by rw [e2]; rfl, h1, fun e u Ge r => ⟨u, vs', Ge, F2, by rw [e1]; rfl, rfl, r, h2⟩, by rw [e1]; exact h2⟩
  | c :: ds, vs, F, j + 1, d, h, e => by
    obtain ⟨v, vs', F1, F2, e1, e2, h1, h2⟩ := h
    simp only [List.getElem?_cons_succ] at e
    obtain ⟨w, A, F3, B, g1, g2, g3, g4, g5⟩ := RepL.split h2 e
    exact ⟨w, F1 ++ A, F3, B, by rw [e1]; exact g1, by rw [e2, g2]; simp, g3, fun e u Ge r => ⟨v, vs'.set j u, F1, A ++ Ge ++ B, by rw [e1]; rfl, by simp, h1, g4 e u Ge r⟩, ⟨v, vs'.eraseIdx j, F1, A ++ B, by rw [e1]; rfl, by simp, h1, g5⟩⟩
/-- a list in its slot is written -/
theorem State.write {i : Nat} {ds : List D} (S : State G lk Z H σ ρ F) (hi : ρ[i]? = some (some (.box true .lst ds))) : ∃ a vs A Fi B, σ[i]? = some (some (.ref a)) ∧ H a = some (.lst vs) ∧ F = A ++ (a :: Fi) ++ B ∧ RepL G Z H ds vs Fi ∧ Fi.Nodup ∧ (∀ b ∈ Fi, b ≠ a ∧ b ∉ A ++ B) ∧
    ∀ ds' vs' F2, RepL G Z H ds' vs' F2 → F2.Nodup → (∀ b ∈ F2, Z b = none ∧ b ≠ a ∧ b ∉ A ++ B) →
      ∃ F', State G lk Z (upd H a (.lst vs')) σ (ρ.set i (some (.box true .lst ds'))) F' ∧ Step Z H (F ++ F2) Z (upd H a (.lst vs')) F' ∧ ∀ b ∈ F', b = a ∨ b ∈ A ++ B ∨ b ∈ F2 := by
  obtain ⟨v, A, F1, B, g1, g2, g3, g4⟩ := S.rs.get hi
  have hlt : i < ρ.length := by
    rcases Nat.lt_or_ge i ρ.length with h | h
    · exact h
    · rw [List.getElem?_eq_none h] at hi; cases hi
  obtain ⟨a, vs, Fi, rfl, _, hl, ho, _, hF⟩ := rep_lst S.zh g3
  have hF := hF rfl
  subst hF
  have ho := ho rfl
  obtain ⟨n1, n2, n3⟩ := nodup_mid (by rw [← g2]; exact S.nd)
  obtain ⟨n4, n5⟩ := List.nodup_cons.mp n2
  have za : Z a = none := S.fz a (by rw [g2]; exact mem_mid.mpr (.inl List.mem_cons_self))
  have na : a ∉ A ++ B := n3 a List.mem_cons_self
  refine ⟨a, vs, A, Fi, B, g1, ho, g2, hl, n5, fun b hb => ⟨fun q => n4 (q ▸ hb), n3 b (List.mem_cons_of_mem _ hb)⟩, fun ds' vs' F2 r nd p => ?_⟩
  have keep : ∀ b o, b ≠ a → H b = some o → upd H a (.lst vs') b = some o := fun b o q e => by rw [upd_ne q]; exact e
  have zh : Ex Z (upd H a (.lst vs')) := fun b o e => keep b o (fun q => by rw [q, za] at e; cases e) (S.zh b o e)
  have rr : Rep G Z (upd H a (.lst vs')) (.box true .lst ds') (.ref a) (a :: F2) := ⟨a, vs', F2, rfl, r.mono (Ex.refl _) fun b hb o e => keep b o (p b hb).2.1 e, fun q => (nomatch q), fun _ => ⟨rfl, _, upd_same, rfl⟩⟩
  have rest : RepS G Z (upd H a (.lst vs')) (ρ.set i none) σ (A ++ B) := g4.mono (Ex.refl _) fun b hb o e => keep b o (fun q => na (q ▸ hb)) e
  obtain ⟨A', B', p1, p2⟩ := RepS.put (i := i) rest (by rw [List.getElem?_set_self hlt]) rr
  rw [List.set_set] at p2
  have es : σ.set i (some (.ref a)) = σ := by
    have hs : i < σ.length := by rw [← S.rs.length]; exact hlt
    rw [List.getElem?_eq_getElem hs] at g1
    rw [← Option.some.inj g1, List.set_getElem_self]
  rw [es] at p2
  have hF : ∀ b ∈ A' ++ (a :: F2) ++ B', b ∈ F ∨ b ∈ F2 := fun b h => by
    rcases mem_mid.mp h with h | h
    · rcases List.mem_cons.mp h with h | h
      · exact .inl (by rw [g2, h]; exact mem_mid.mpr (.inl List.mem_cons_self))
      · exact .inr h
    · rw [← p1] at h
      exact .inl (by rw [g2]; exact mem_mid.mpr (.inr h))
  have hF2 : ∀ b ∈ A' ++ (a :: F2) ++ B', b = a ∨ b ∈ A ++ B ∨ b ∈ F2 := fun b h => by
    rcases mem_mid.mp h with h | h
    · exact (List.mem_cons.mp h).imp id .inr
    · rw [← p1] at h
      exact .inr (.inl h)
  refine ⟨A' ++ (a :: F2) ++ B', ⟨zh, p2, nodup_put (by rw [← p1]; exact n1) (List.nodup_cons.mpr ⟨fun q => (p a q).2.1 rfl, nd⟩) fun b hb q => ?_, fun b hb => ?_, S.lk⟩, ⟨Ex.refl _, zh, fun b h => ?_, fun b o e hn => keep b o (fun q => hn (List.mem_append_left _ (by rw [g2, q]; exact mem_mid.mpr (.inl List.mem_cons_self)))) e, fun b hb => .inl (List.mem_append.mpr (hF b hb)), fun b _ _ z => z⟩, hF2⟩
  · rw [← p1] at q
    rcases List.mem_cons.mp hb with h | h
    · exact na (h ▸ q)
    · exact (p b h).2.2 q
  · rcases mem_mid.mp hb with h | h
    · rcases List.mem_cons.mp h with h | h
      · rw [h]; exact za
      · exact (p b h).1
    · rw [← p1] at h
      exact S.fz b (by rw [g2]; exact mem_mid.mpr (.inr h))
  · by_cases q : b = a
    · rw [q, upd_same]; exact Option.some_ne_none _
    · rw [upd_ne q]; exact h
end

def dApp (i : Nat) (m : DE) : DS := fun ρ => match ρ[i]? with
  | some (some (.box true .lst _)) => (match m ρ with
    | .ok f d _ ρ1 => if (f || frz d) = true then (match ρ1[i]? with
      | some (some (.box true .lst ds)) => if ds.length < 1000000 then .nx (ρ1.set i (some (.box true .lst (ds ++ [d])))) else .bad
      | _ => .bad) else .bad
    | .ex c xs ρ1 => .ex c xs ρ1
    | .bad => .bad)
  | _ => .bad
/-- x[k] = e -/
def dSetI (i : Nat) (mk me : DE) : DS := fun ρ => match ρ[i]? with
  | some (some _) => (match me ρ with
    | .ok f d e1 ρ1 => if (f || frz d) = true then (match mk ρ1 with
      | .ok _ (.int k) e2 ρ2 => (match ρ2[i]? with
        | some (some (.box true .lst ds)) => (match ixN ds.length k with
          | some j => .nx (ρ2.set i (some (.box true .lst (ds.set j d))))
          | none => .bad)
        | _ => .bad)
      | .ok _ _ _ _ => .bad
      | .ex c xs ρ2 => .ex c xs ρ2
      | .bad => .bad) else .bad
    | .ex c xs ρ1 => .ex c xs ρ1
    | .bad => .bad)
  | _ => .bad
/-- x.pop(k) -/
def dPopAt (i : Nat) (mk : DE) : DE := fun ρ => match ρ[i]? with
  | some (some (.box true .lst _)) => (match mk ρ with
    | .ok _ (.int k) _ ρ1 => (match ρ1[i]? with
      | some (some (.box true .lst ds)) => if ds.length < 1000000 then (match ixN ds.length k with
        | some j => (match ds[j]? with
          | some d => .ok true d true (ρ1.set i (some (.box true .lst (ds.eraseIdx j))))
          | none => .bad)
        | none => .bad) else .bad
      | _ => .bad)
    | .ok _ _ _ _ => .bad
    | .ex c xs ρ1 => .ex c xs ρ1
    | .bad => .bad)
  | _ => .bad
section
variable {c : Cc} {X : Cx} {e : Expr} {st : Stmt} {m mk me : DE} {i : Nat}
theorem app_imp {D : Ends} {σ : St} {H : Hp} (w : tS c (dApp i m) D σ H) : tDrop (tBM c.G.K "list" rAppend (tVar i) (tCons (tE c m) tNil)) D σ H := by
  obtain ⟨Z, ρ, F, S, w⟩ := w
  show ∃ v, σ[i]? = some (some v) ∧ tyV c.G.K "list" v H ∧ tE c m σ H fun x H1 => rAppend v [x] H1 fun _ H2 => D.nx σ H2
  unfold dApp at w
  split at w
  · rename_i ds0 hi
    obtain ⟨a0, vs0, A0, F0, B0, g1, g2, _⟩ := S.write hi
    refine ⟨.ref a0, g1, .inl ⟨rfl, _, SqL.of g2⟩, ?_⟩
    split at w
    · rename_i f d eff ρ1 ha
      split at w
      · rename_i hk
        split at w
        · rename_i ds hj
          split at w
          · rename_i hlen
            refine tE.ok S ha fun Z1 H1 F1 u G1 P1 R1 f1h => ?_
            have fr := fresh_or hk R1 f1h
            obtain ⟨a, vs, A, Fi, B, q1, q2, q3, q4, q5, q6, q7⟩ := P1.sta.write hj
            have ea : a0 = a := by
              rw [g1] at q1
              have z := Option.some.inj (Option.some.inj q1)
              exact V.ref.inj z
            subst ea
            have inFi : ∀ b ∈ Fi, b ∈ F1 := fun b hb => by rw [q3]; exact mem_mid.mpr (.inl (List.mem_cons_of_mem _ hb))
            have r2 : RepL c.G Z1 H1 (ds ++ [d]) (vs ++ [u]) (Fi ++ (G1 ++ [])) := q4.append ⟨u, [], G1, [], rfl, rfl, R1, rfl, rfl⟩
            rw [List.append_nil] at r2
            obtain ⟨F', S', st', hF⟩ := q7 _ _ _ r2 (List.nodup_append.mpr ⟨q5, fr.nd, fun b hb b2 hb2 e => fr.nf b2 hb2 (e ▸ inFi b hb)⟩) fun b hb => by
              rcases List.mem_append.mp hb with hb | hb
              · exact ⟨P1.sta.fz b (inFi b hb), q6 b hb⟩
              · exact ⟨fr.nz b hb, fun q => fr.nf b hb (by rw [q3, q]; exact mem_mid.mpr (.inl List.mem_cons_self)), fun q => fr.nf b hb (by rw [q3]; exact mem_mid.mpr (.inr q))⟩
            refine ⟨a0, vs, u, rfl, rfl, q2, by rw [← q4.length]; exact big_lt hlen, w Z1 _ F' σ (P1.st.call fr st' (fun b hb => ?_) fun b hb => .inr hb) S'⟩
            rcases List.mem_append.mp hb with hb | hb
            · exact .inl hb
            · exact (List.mem_append.mp hb).imp (inFi b) id
          · exact w.elim
        · exact w.elim
      · exact w.elim
    · rename_i x xs ρ1 ha
      exact tE.ex S ha fun Z' H' F' => w Z' H' F' σ
    · exact w.elim
  · exact w.elim
theorem s_app (h : PS X st (tDrop (tBM c.G.K "list" rAppend (tVar i) (tCons (tE c m) tNil)))) : PS X st (tS c (dApp i m)) := h.imp fun _ _ _ w => app_imp w
theorem setI_imp {D : Ends} {σ : St} {H : Hp} (w : tS c (dSetI i mk me) D σ H) : tAsg (tE c me) (gSub (tVar i) (tE c mk) rSetL) D σ H := by
  obtain ⟨Z, ρ, F, S, w⟩ := w
  show tE c me σ H fun x H1 => ∃ v, σ[i]? = some (some v) ∧ tE c mk σ H1 fun k H2 => rSetL v k x H2 fun H3 => D.nx σ H3
  unfold dSetI at w
  split at w
  · rename_i d0 hi
    obtain ⟨v0, _, _, _, g1, _⟩ := S.rs.get hi
    split at w
    · rename_i f d eff ρ1 ha
      split at w
      · rename_i hk
        refine tE.ok S ha fun Z1 H1 F1 u G1 P1 R1 f1h => ⟨v0, g1, ?_⟩
        have fr := fresh_or hk R1 f1h
        split at w
        · rename_i f2 k e2 ρ2 hb
          split at w
          · rename_i ds hj
            split at w
            · rename_i j hx
              refine tE.ok P1.sta hb fun Z2 H2 F2 kv G2 P2 R2 _ => ?_
              have dm : ∀ b ∈ G1, H1 b ≠ none := fun b hb => let ⟨_, h, _⟩ := R1.dom b hb; ne_none h
              have R1' : Rep c.G Z2 H2 d u G1 := R1.mono P2.st.zz fun b hb o e => P2.st.fr b o e (fr.nf b hb)
              have fr2 := fr.later dm P2
              have P := P1.trans P2
              obtain ⟨a, vs, A, Fi, B, q1, q2, q3, q4, q5, q6, q7⟩ := P.sta.write hj
              have ea : v0 = .ref a := by
                rw [g1] at q1
                exact Option.some.inj (Option.some.inj q1)
              subst ea
              have hjl : j < ds.length := (ixN_seq hx).2.1
              obtain ⟨w0, A2, F3, B2, p1, p2, p3, p4, _⟩ := q4.split (List.getElem?_eq_getElem hjl)
              obtain ⟨n1, n2, n3⟩ := nodup_mid (by rw [← p2]; exact q5)
              have inFi : ∀ b ∈ A2 ++ B2, b ∈ Fi := fun b hb => by rw [p2]; exact mem_mid.mpr (.inr hb)
              have inF : ∀ b ∈ Fi, b ∈ F2 := fun b hb => by rw [q3]; exact mem_mid.mpr (.inl (List.mem_cons_of_mem _ hb))
              obtain ⟨F', S', st', hF⟩ := q7 _ _ _ (p4 d u G1 R1') (nodup_put n1 fr.nd fun b hb q => fr2.nf b hb (inF b (inFi b q))) fun b hb => by
                rcases mem_mid.mp hb with hb | hb
                · exact ⟨fr2.nz b hb, fun q => fr2.nf b hb (by rw [q3, q]; exact mem_mid.mpr (.inl List.mem_cons_self)), fun q => fr2.nf b hb (by rw [q3]; exact mem_mid.mpr (.inr q))⟩
                · exact ⟨P.sta.fz b (inF b (inFi b hb)), q6 b (inFi b hb)⟩
              refine ⟨a, vs, k, j, rfl, R2.1, q2, by rw [← q4.length]; exact hx, w Z2 _ F' σ (P.st.call fr2 st' (fun b hb => ?_) fun b hb => .inr hb) S'⟩
              rcases List.mem_append.mp hb with hb | hb
              · exact .inl hb
              · rcases mem_mid.mp hb with hb | hb
                · exact .inr hb
                · exact .inl (inF b (inFi b hb))
            · exact w.elim
          · exact w.elim
        · exact w.elim
        · rename_i x xs ρ2 hb
          exact tE.ex P1.sta hb fun Z2 H2 F2 s2 S2 => w Z2 H2 F2 σ (P1.st.trans s2) S2
        · exact w.elim
      · exact w.elim
    · rename_i x xs ρ1 ha
      exact tE.ex S ha fun Z' H' F' => w Z' H' F' σ
    · exact w.elim
  · exact w.elim
theorem s_setI (h : PS X st (tAsg (tE c me) (gSub (tVar i) (tE c mk) rSetL))) : PS X st (tS c (dSetI i mk me)) := h.imp fun _ _ _ w => setI_imp w
theorem popAt_imp {Q : VK} {σ : St} {H : Hp} (w : tE c (dPopAt i mk) σ H Q) : tBM c.G.K "list" rPopAt (tVar i) (tCons (tE c mk) tNil) σ H Q := by
  obtain ⟨Z, ρ, F, S, w⟩ := w
  show ∃ v, σ[i]? = some (some v) ∧ tyV c.G.K "list" v H ∧ tE c mk σ H fun x H1 => rPopAt v [x] H1 Q
  generalize hr : dPopAt i mk ρ = r at w
  unfold dPopAt at hr
  split at hr
  · rename_i ds0 hi
    obtain ⟨a0, vs0, A0, F0, B0, g1, g2, _⟩ := S.write hi
    refine ⟨.ref a0, g1, .inl ⟨rfl, _, SqL.of g2⟩, ?_⟩
    split at hr
    · rename_i f k eff ρ1 ha
      split at hr
      · rename_i ds hj
        split at hr
        · rename_i hlen
          split at hr
          · rename_i j hx
            split at hr
            · rename_i d hd
              subst hr
              refine tE.ok S ha fun Z1 H1 F1 u G1 P1 R1 f1h => ?_
              obtain ⟨a, vs, A, Fi, B, q1, q2, q3, q4, q5, q6, q7⟩ := P1.sta.write hj
              have ea : a0 = a := by
                rw [g1] at q1
                exact V.ref.inj (Option.some.inj (Option.some.inj q1))
              subst ea
              obtain ⟨w0, A2, F3, B2, p1, p2, p3, _, p5⟩ := q4.split hd
              obtain ⟨n1, n2, n3⟩ := nodup_mid (by rw [← p2]; exact q5)
              have inFi : ∀ b ∈ A2 ++ B2, b ∈ Fi := fun b hb => by rw [p2]; exact mem_mid.mpr (.inr hb)
              have inF3 : ∀ b ∈ F3, b ∈ Fi := fun b hb => by rw [p2]; exact mem_mid.mpr (.inl hb)
              have inF : ∀ b ∈ Fi, b ∈ F1 := fun b hb => by rw [q3]; exact mem_mid.mpr (.inl (List.mem_cons_of_mem _ hb))
              obtain ⟨F', S', st', hF⟩ := q7 _ _ _ p5 n1 fun b hb => ⟨P1.sta.fz b (inF b (inFi b hb)), q6 b (inFi b hb)⟩
              obtain ⟨h1, h2, h3, h4⟩ := ixN_seq hx
              have hvl : vs.length < 1000000 := by rw [← q4.length]; exact hlen
              have r3 : Rep c.G Z1 (upd H1 a0 (.lst (vs.eraseIdx j))) d w0 F3 := p3.mono (Ex.refl _) fun b hb o e => by rw [upd_ne (q6 b (inF3 b hb)).1]; exact e
              have st2 : Step Z H F Z1 (upd H1 a0 (.lst (vs.eraseIdx j))) F' := P1.st.call (G1 := []) Fresh.nil st' (fun b hb => ?_) fun b hb => .inr hb
              · refine ⟨a0, vs, k, j, w0, rfl, by rw [R1.1], q2, by rw [← q4.length] at hvl; omega, by rw [← q4.length] at hvl; omega, by rw [← q4.length]; exact h1, p1, w Z1 _ F' w0 F3 ⟨st2, S', fun q => nomatch q⟩ r3 fun _ => ⟨n2, fun b hb => P1.st.ff b (inF b (inF3 b hb)), fun b hb => P1.sta.fz b (inF b (inF3 b hb)), fun b hb q => ?_⟩⟩
                rcases hF b q with h | h | h
                · exact (q6 b (inF3 b hb)).1 h
                · exact (q6 b (inF3 b hb)).2 h
                · exact n3 b hb h
              · exact .inl ((List.mem_append.mp hb).elim id fun h => inF b (inFi b h))
            · subst hr; exact w.elim
          · subst hr; exact w.elim
        · subst hr; exact w.elim
      · subst hr; exact w.elim
    · subst hr; exact w.elim
    · rename_i x xs ρ1 ha
      subst hr
      exact tE.ex S ha fun Z' H' F' => w Z' H' F'
    · subst hr; exact w.elim
  · subst hr; exact w.elim
theorem e_popAt (h : PE X e (tBM c.G.K "list" rPopAt (tVar i) (tCons (tE c mk) tNil))) : PE X e (tE c (dPopAt i mk)) := h.imp fun _ _ _ w => popAt_imp w
end
end Dd
/-! Loops. -/
namespace Dd
open PySem L2

/-- an iterator that hands out ds; it reads what stands at Gk -/
structure IterOk (G : Gx) (J : It) (Z H : Hp) (ds : List D) (Gk : List Addr) : Prop where
  go : ∀ Z2 H2, Ex Z Z2 → Ex Z2 H2 → (∀ a ∈ Gk, ∀ o, H a = some o → H2 a = some o) → ∀ i d, ds[i]? = some d → J.go i H2 ∧ ∀ x H3, J.yld i H2 x H3 → ∃ Z3, New Z2 H2 Z3 H3 ∧ Rep G Z3 H3 d x []
  stop : ∀ Z2 H2, Ex Z Z2 → Ex Z2 H2 → (∀ a ∈ Gk, ∀ o, H a = some o → H2 a = some o) → J.stop ds.length H2
abbrev DI := Env → Res (List D)
def tI (c : Cc) (m : DI) : TI := fun σ H R => ∃ Z ρ F, State c.G c.lk Z H σ ρ F ∧ match m ρ with
  | .ok _ ds eff ρ' => ∀ Z' H' F' Gk J, PostE c Z H σ ρ F eff ρ' Z' H' F' → Fresh H F Z' F' Gk → (∀ a ∈ Gk, H' a ≠ none) → IterOk c.G J Z' H' ds Gk → R J H'
  | .ex x xs ρ' => ∀ Z' H' F', Step Z H F Z' H' F' → State c.G c.lk Z' H' σ ρ' F' → c.W x xs σ H'
  | .bad => False
theorem _root_.L2.PI.imp {X : Cx} {tg e : Expr} {t u : TI} (h : PI X tg e t) (k : ∀ σ H R, u σ H R → t σ H R) : PI X tg e u := ⟨fun pins s σ H R I w => h.run pins s σ H R I (k σ H R w)⟩

/-! ### what is walked -/
def dItems (m : DE) : DI := fun ρ => match m ρ with
  | .ok f (.box own .lst ds) e ρ1 => if ((f || !own) && frzL ds) = true then .ok true ds e ρ1 else .bad
  | .ok _ (.box _ .tup ds) e ρ1 => if frzL ds = true then .ok true ds e ρ1 else .bad
  | .ok _ _ _ _ => .bad
  | .ex c xs ρ1 => .ex c xs ρ1
  | .bad => .bad
def rangeD (lo : Int) (n : Nat) : List D := (List.range n).map fun (i : Nat) => D.int (lo + (i : Int))
def okR (i : Int) : Bool := decide (i.natAbs < 2 ^ 62)
def dRange1 (a : DA) : DI := fun ρ => match a ρ with
  | .ok _ [.int n] e ρ1 => if okR n = true then .ok true (rangeD 0 n.toNat) e ρ1 else .bad
  | .ok _ _ _ _ => .bad
  | .ex c xs ρ1 => .ex c xs ρ1
  | .bad => .bad
def dRange2 (a : DA) : DI := fun ρ => match a ρ with
  | .ok _ [.int i, .int n] e ρ1 => if (okR i && okR n) = true then .ok true (rangeD i (n - i).toNat) e ρ1 else .bad
  | .ok _ _ _ _ => .bad
  | .ex c xs ρ1 => .ex c xs ρ1
  | .bad => .bad
section
variable {G : Gx} {Z H : Hp}
theorem it_list {a : Addr} {vs : List V} {ds : List D} {Gk : List Addr} (zh : Ex Z H) (h : SqL G.K Z a vs ∨ (a ∈ Gk ∧ H a = some (.lst vs))) (r : RepL G Z H ds vs []) : IterOk G (Itl G.K a) Z H ds Gk := by
  have sq : ∀ Z2 H2, Ex Z Z2 → Ex Z2 H2 → (∀ a ∈ Gk, ∀ o, H a = some o → H2 a = some o) → SqL G.K H2 a vs := fun Z2 H2 e1 e2 k => by
    rcases h with h | ⟨h1, h2⟩
    · exact ex_l e2 (ex_l e1 h)
    · exact SqL.of (k a h1 _ h2)
  refine ⟨fun Z2 H2 e1 e2 k i d hd => ?_, fun Z2 H2 e1 e2 k => ⟨vs, sq Z2 H2 e1 e2 k, by rw [r.length]; exact Nat.le_refl _⟩⟩
  obtain ⟨v, A, F1, B, g1, g2, g3⟩ := r.get hd
  have hs := sq Z2 H2 e1 e2 k
  refine ⟨⟨vs, v, hs, g1⟩, fun x H3 hy => ?_⟩
  obtain ⟨rfl, hx⟩ := hy
  have ev : v = x := Option.some.inj (g1.symm.trans (hx vs hs))
  subst ev
  obtain ⟨h1, rfl⟩ := List.append_eq_nil_iff.mp g2.symm
  obtain ⟨rfl, rfl⟩ := List.append_eq_nil_iff.mp h1
  exact ⟨Z2, New.refl e2, g3.mono e1 fun a ha => by cases ha⟩
theorem it_tup {a : Addr} {vs : List V} {ds : List D} {Gk : List Addr} (zh : Ex Z H) (h : SqT G.K Z a vs) (r : RepL G Z H ds vs []) : IterOk G (Itt G.K a) Z H ds Gk := by
  refine ⟨fun Z2 H2 e1 e2 k i d hd => ?_, fun Z2 H2 e1 e2 k => ⟨vs, ex_t e2 (ex_t e1 h), by rw [r.length]; exact Nat.le_refl _⟩⟩
  obtain ⟨v, A, F1, B, g1, g2, g3⟩ := r.get hd
  have hs := ex_t e2 (ex_t e1 h)
  refine ⟨⟨vs, v, hs, g1⟩, fun x H3 hy => ?_⟩
  obtain ⟨rfl, hx⟩ := hy
  have ev : v = x := Option.some.inj (g1.symm.trans (hx vs hs))
  subst ev
  obtain ⟨h1, rfl⟩ := List.append_eq_nil_iff.mp g2.symm
  obtain ⟨rfl, rfl⟩ := List.append_eq_nil_iff.mp h1
  exact ⟨Z2, New.refl e2, g3.mono e1 fun a ha => by cases ha⟩
theorem it_range {lo : Int} {n : Nat} {Gk : List Addr} : IterOk G (Itr lo n) Z H (rangeD lo n) Gk := by
  have hl : (rangeD lo n).length = n := by simp [rangeD]
  refine ⟨fun Z2 H2 e1 e2 k i d hd => ?_, fun Z2 H2 e1 e2 k => by rw [hl]; exact Nat.le_refl n⟩
  have hi : i < n := by
    have := (List.getElem?_eq_some_iff.mp hd).1
    rwa [hl] at this
  have ed : d = .int (lo + (i : Int)) := by
    unfold rangeD at hd
    rw [List.getElem?_map, List.getElem?_range hi] at hd
    exact (Option.some.inj hd).symm
  subst ed
  refine ⟨hi, fun x H3 hy => ?_⟩
  obtain ⟨rfl, rfl⟩ := hy
  exact ⟨Z2, New.refl e2, rfl, rfl⟩
end
theorem pi_or {X : Cx} {tg e : Expr} {t u : TI} (h : PI X tg e t) (h' : PI X tg e u) : PI X tg e (fun σ H R => t σ H R ∨ u σ H R) := ⟨fun pins s σ H R I w => w.elim (h.run pins s σ H R I) (h'.run pins s σ H R I)⟩
section
variable {c : Cc} {X : Cx} {tg e a b : Expr} {es : List Expr} {m : DE} {ma : DA} {p pos : Pos}
theorem i_items (h : PE X e (tE c m)) (hK : X.K = c.G.K := by rfl) : PI X tg e (tI c (dItems m)) := (pi_or (pi_list (tg := tg) h) (pi_tup h)).imp fun σ H R w => by
  rw [hK]
  obtain ⟨Z, ρ, F, S, w⟩ := w
  generalize hr : dItems m ρ = r at w
  unfold dItems at hr
  split at hr
  · rename_i f own ds eff ρ1 ha
    split at hr
    · rename_i hk
      subst hr
      rw [Bool.and_eq_true] at hk
      refine .inl (tE.ok S ha fun Z1 H1 F1 v G1 P1 R1 f1h => ?_)
      obtain ⟨a, vs, F', rfl, hs, hl, ho, hz, hF⟩ := rep_lst P1.sta.zh R1
      have e0 := hl.frz_nil hk.2
      subst e0
      refine ⟨a, rfl, ⟨vs, hs⟩, ?_⟩
      cases own with
      | false =>
        obtain ⟨rfl, _, hz⟩ := hz rfl
        exact w Z1 H1 F1 [] _ P1 Fresh.nil (by simp) (it_list P1.sta.zh (.inl hz) hl)
      | true =>
        have hF := hF rfl
        subst hF
        have hf : f = true := by simpa using hk.1
        exact w Z1 H1 F1 [a] _ P1 (f1h hf) (fun b hb => by rw [List.mem_singleton.mp hb, ho rfl]; exact Option.some_ne_none _) (it_list P1.sta.zh (.inr ⟨List.mem_singleton_self a, ho rfl⟩) hl)
    · subst hr; exact w.elim
  · rename_i f own ds eff ρ1 ha
    split at hr
    · rename_i hk
      subst hr
      refine .inr (tE.ok S ha fun Z1 H1 F1 v G1 P1 R1 f1h => ?_)
      obtain ⟨_, a, vs, rfl, ht, hl⟩ := rep_tup P1.sta.zh R1
      have e0 := hl.frz_nil hk
      subst e0
      exact ⟨a, rfl, ⟨vs, ex_t P1.sta.zh ht⟩, w Z1 H1 F1 [] _ P1 Fresh.nil (by simp) (it_tup P1.sta.zh ht hl)⟩
    · subst hr; exact w.elim
  · subst hr; exact w.elim
  · rename_i ha
    subst hr
    exact .inl (tE.ex S ha w)
  · subst hr; exact w.elim
theorem okR_of {i : Int} (h : okR i = true) : -(2 ^ 62) ≤ i ∧ i < 2 ^ 62 := by
  have h : i.natAbs < 2 ^ 62 := of_decide_eq_true h
  omega
theorem i_range1 (hg : Gl X "range") (hm : X.mg "range" = none) (ha : PA X [a] (tA c ma)) (hs : starEach [a] X.env = [(false, eval a X.env)] := by rfl) : PI X tg (.Call (.Name "range" p) [a] [] pos) (tI c (dRange1 ma)) := (pi_range1 hg hm ha hs).imp fun σ H R w => by
  obtain ⟨Z, ρ, F, S, w⟩ := w
  generalize hr : dRange1 ma ρ = r at w
  unfold dRange1 at hr
  split at hr
  · rename_i f n eff ρ1 ha
    split at hr
    · rename_i hk
      subst hr
      refine tA.ok S ha fun Z1 H1 F1 vs G1 P1 R1 f1h => ?_
      obtain ⟨v, vs', F2, F3, rfl, _, r1, r2⟩ := R1
      exact ⟨n, by rw [r1.1, r2.1], (okR_of hk).1, (okR_of hk).2, w Z1 H1 F1 [] _ P1 Fresh.nil (by simp) it_range⟩
    · subst hr; exact w.elim
  · subst hr; exact w.elim
  · rename_i ha
    subst hr
    exact tA.ex S ha w
  · subst hr; exact w.elim
theorem i_range2 (hg : Gl X "range") (hm : X.mg "range" = none) (ha : PA X [a, b] (tA c ma)) (hs : starEach [a, b] X.env = [(false, eval a X.env), (false, eval b X.env)] := by rfl) (hs2 : starEach [b] X.env = [(false, eval b X.env)] := by rfl) : PI X tg (.Call (.Name "range" p) [a, b] [] pos) (tI c (dRange2 ma)) := (pi_range2 hg hm ha hs hs2).imp fun σ H R w => by
  obtain ⟨Z, ρ, F, S, w⟩ := w
  generalize hr : dRange2 ma ρ = r at w
  unfold dRange2 at hr
  split at hr
  · rename_i f i n eff ρ1 ha
    split at hr
    · rename_i hk
      subst hr
      rw [Bool.and_eq_true] at hk
      refine tA.ok S ha fun Z1 H1 F1 vs G1 P1 R1 f1h => ?_
      obtain ⟨v, vs', F2, F3, rfl, _, r1, v2, vs2, F4, F5, rfl, _, r2, r3⟩ := R1
      exact ⟨i, n, by rw [r1.1, r2.1, r3.1], ⟨(okR_of hk.1).1, (okR_of hk.1).2, (okR_of hk.2).1, (okR_of hk.2).2⟩, w Z1 H1 F1 [] _ P1 Fresh.nil (by simp) it_range⟩
    · subst hr; exact w.elim
  · subst hr; exact w.elim
  · rename_i ha
    subst hr
    exact tA.ex S ha w
  · subst hr; exact w.elim
end

/-! ### targets -/
abbrev Tg := D → Env → Option Env
def tgN (i : Nat) : Tg := fun d ρ => if i < ρ.length then some (ρ.set i (some d)) else none
def tgT (is : List Nat) : Tg := fun d ρ => match d with
  | .box _ .tup ds => setAll is ds ρ
  | _ => none
/-- a target's reading, for items that own nothing -/
def TgOk (G : Gx) (lk : List (Nat × V)) (g : TG) (t : Tg) : Prop := ∀ (Z H : Hp) (σ : St) (ρ ρ' : Env) (F : List Addr) (d : D) (x : V) (Q : St → Hp → Prop), State G lk Z H σ ρ F → Rep G Z H d x [] → t d ρ = some ρ' →
  (∀ σ' F', State G lk Z H σ' ρ' F' → (∀ a ∈ F', a ∈ F) → Q σ' H) → g x σ H Q
theorem tgN_ok {G : Gx} {lk : List (Nat × V)} {i : Nat} (hl : lkOk lk i = true) : TgOk G lk (gName i) (tgN i) := fun Z H σ ρ ρ' F d x Q S r h k => by
  unfold tgN at h
  split at h
  · rename_i hi
    obtain rfl := Option.some.inj h
    obtain ⟨F2, S2, h2⟩ := S.set hi r List.nodup_nil (by simp) (by simp) (lkOk.ne hl)
    exact k _ F2 S2 fun a ha => (h2 a ha).elim id fun q => by cases q
  · cases h
theorem tgT_ok {G : Gx} {lk : List (Nat × V)} {is : List Nat} {n : Nat} (hn : is.length = n) (hl : is.all (lkOk lk) = true) : TgOk G lk (gTup G.K n (gNames is)) (tgT is) := fun Z H σ ρ ρ' F d x Q S r h k => by
  cases d with
  | box own kd ds =>
    cases kd with
    | tup =>
      have h : setAll is ds ρ = some ρ' := h
      obtain ⟨_, a, vs, rfl, ht, hr⟩ := rep_tup S.zh r
      obtain ⟨F2, S2, h2⟩ := S.setAll hr List.nodup_nil (by simp) (by simp) (fun i hi => lkOk.ne (List.all_eq_true.mp hl i hi)) h
      have hlen : vs.length = is.length := by rw [← hr.length]; exact setAll_len h
      exact ⟨a, vs, rfl, ex_t S.zh ht, hlen.trans hn, gNames_of hlen (k _ F2 S2 fun a ha => (h2 a ha).elim id fun q => by cases q)⟩
    | _ => cases h
  | _ => cases h

/-! ### for -/
def forLoop (t : Tg) (body : DS) : List D → DS
  | [], ρ => .nx ρ
  | d :: ds, ρ => match t d ρ with
    | none => .bad
    | some ρ1 => match body ρ1 with
      | .nx ρ2 => forLoop t body ds ρ2
      | .ct ρ2 => forLoop t body ds ρ2
      | .bk ρ2 => .nx ρ2
      | r => r
def dFor (it : DI) (t : Tg) (body : DS) : DS := fun ρ => match it ρ with
  | .ok _ ds _ ρ1 => forLoop t body ds ρ1
  | .ex c xs ρ1 => .ex c xs ρ1
  | .bad => .bad
section
variable {c : Cc} {it : DI} {t : Tg} {g : TG} {body : DS}
theorem SOut.trans {Z H Z1 H1 : Hp} {F F1 : List Addr} {D : Ends} {r : SRes} (st : Step Z H F Z1 H1 F1) (w : SOut c Z H F D r) : SOut c Z1 H1 F1 D r := by
  cases r with
  | nx ρ' => exact fun Z' H' F' σ' s S' => w Z' H' F' σ' (st.trans s) S'
  | bk ρ' => exact fun Z' H' F' σ' s S' => w Z' H' F' σ' (st.trans s) S'
  | ct ρ' => exact fun Z' H' F' σ' s S' => w Z' H' F' σ' (st.trans s) S'
  | rt d ρ' => exact fun Z' H' F' σ' v Gf s S' r f => w Z' H' F' σ' v Gf (st.trans s) S' r (f.step st)
  | ex x xs ρ' => exact fun Z' H' F' σ' s S' => w Z' H' F' σ' (st.trans s) S'
  | bad => exact w
theorem for_imp {D : Ends} {σ : St} {H : Hp} (hg : TgOk c.G c.lk g t) (w : tS c (dFor it t body) D σ H) : tFor (tI c it) g (tS c body) D σ H := by
  obtain ⟨Z, ρ, F, S, w⟩ := w
  generalize hr : dFor it t body ρ = r at w
  unfold dFor at hr
  show tI c it σ H _
  split at hr
  · rename_i f ds eff ρ1 ha
    subst hr
    refine ⟨Z, ρ, F, S, ?_⟩
    rw [ha]
    intro Z1 H1 F1 Gk J P1 fk dk io
    let W : Nat → Nat → St → Hp → Prop := fun i m σ2 H2 => m = ds.length - i ∧ i ≤ ds.length ∧ ∃ Z2 ρ2 F2, State c.G c.lk Z2 H2 σ2 ρ2 F2 ∧ Step Z1 H1 F1 Z2 H2 F2 ∧ SOut c Z2 H2 F2 D (forLoop t body (ds.drop i) ρ2)
    refine ⟨W, ⟨ds.length, rfl, Nat.zero_le _, Z1, ρ1, F1, P1.sta, Step.refl P1.sta.zh, w.trans P1.st⟩, ?_⟩
    rintro i m σ2 H2 ⟨hm, hi, Z2, ρ2, F2, S2, st2, w2⟩
    have kept : ∀ a ∈ Gk, ∀ o, H1 a = some o → H2 a = some o := fun a ha o e => st2.fr a o e (fk.nf a ha)
    by_cases hlt : i < ds.length
    · obtain ⟨go, yl⟩ := io.go Z2 H2 st2.zz S2.zh kept i _ (List.getElem?_eq_getElem hlt)
      rw [List.drop_eq_getElem_cons hlt] at w2
      refine .inr ⟨go, fun σ' H' => W (i + 1) (ds.length - (i + 1)) σ' H', fun σ' H' n => ⟨_, by omega, n⟩, fun x H3 hy => ?_⟩
      obtain ⟨Z3, n3, r3⟩ := yl x H3 hy
      cases ht : t ds[i] ρ2 with
      | none => simp only [forLoop, ht, SOut] at w2
      | some ρ3 =>
        simp only [forLoop, ht] at w2
        refine hg Z3 H3 σ2 ρ2 ρ3 F2 _ x _ (S2.new n3) r3 ht fun σ3 F3 S3 h3 => ?_
        have st3 : Step Z2 H2 F2 Z3 H3 F3 := (n3.step (F := F2)).sub fun a ha => .inl (h3 a ha)
        refine ⟨Z3, ρ3, F3, S3, ?_⟩
        have nextW : ∀ {ρ4 : Env}, SOut c Z2 H2 F2 D (forLoop t body (ds.drop (i + 1)) ρ4) → ∀ Z' H' F' σ', Step Z3 H3 F3 Z' H' F' → State c.G c.lk Z' H' σ' ρ4 F' → W (i + 1) (ds.length - (i + 1)) σ' H' := fun {ρ4} w4 Z' H' F' σ' s S' =>
          ⟨rfl, hlt, Z', ρ4, F', S', (st2.trans st3).trans s, w4.trans (st3.trans s)⟩
        cases hb : body ρ3 with
        | nx ρ4 => simp only [hb] at w2; exact nextW w2
        | ct ρ4 => simp only [hb] at w2; exact nextW w2
        | bk ρ4 => simp only [hb] at w2; exact w2.trans st3
        | rt d ρ4 => simp only [hb] at w2; exact w2.trans st3
        | ex x xs ρ4 => simp only [hb] at w2; exact w2.trans st3
        | bad => simp only [hb] at w2; exact w2
    · have ei : i = ds.length := by omega
      subst ei
      rw [List.drop_length] at w2
      exact .inl ⟨io.stop Z2 H2 st2.zz S2.zh kept, w2 Z2 H2 F2 σ2 (Step.refl S2.zh) S2⟩
  · rename_i ha
    subst hr
    exact ⟨Z, ρ, F, S, by rw [ha]; exact fun Z' H' F' => w Z' H' F' σ⟩
  · subst hr; exact w.elim
theorem s_for {X : Cx} {tg iter : Expr} {bs : List Stmt} {pos : Pos} (hp : PassesOwn (model X.prog X.w) X.A X.env X.xe) (hc : X.calm = true) (hi : PI X tg iter (tI c it)) (hg : PG X tg g) (ht : TgOk c.G c.lk g t) (hb : PSs X bs (tS c body))
    (hs : ∀ x, foldedSetIterable iter X.env x = pure x := by intro _; rfl) : PS X (.For tg iter bs [] pos) (tS c (dFor it t body)) := (ps_for hp hc hi hg hb hs).imp fun _ _ _ w => for_imp ht w
end

/-! ### while, at most so many turns -/
def whLoop (t : DT) (body : DS) : Nat → DS
  | 0, _ => .bad
  | n + 1, ρ => match t ρ with
    | .ok _ true _ ρ1 => (match body ρ1 with
      | .nx ρ2 => whLoop t body n ρ2
      | .ct ρ2 => whLoop t body n ρ2
      | .bk ρ2 => .nx ρ2
      | r => r)
    | .ok _ false _ ρ1 => .nx ρ1
    | .ex c xs ρ1 => .ex c xs ρ1
    | .bad => .bad
def dWhile (fuel : Env → Nat) (t : DT) (body : DS) : DS := fun ρ => whLoop t body (fuel ρ) ρ
end Dd
/-! List comprehensions; a def's body. -/
namespace Dd
open PySem L2

def wipeE (ρ : Env) : List Nat → Env
  | [] => ρ
  | v :: vs => (wipeE ρ vs).set v none
def lcLoop (t : Tg) (test : DT) (elt : DE) (vs : List Nat) : List D → List D → Bool → Env → Res (List D)
  | [], acc, eff, ρ => .ok true acc eff ρ
  | d :: ds, acc, eff, ρ => match t d ρ with
    | none => .bad
    | some ρ1 => match test ρ1 with
      | .ok _ true e1 ρ2 => (match elt ρ2 with
        | .ok f x e2 ρ3 => if (f || frz x) = true then (if acc.length < 1000000 then lcLoop t test elt vs ds (acc ++ [x]) (eff || e1 || e2) (wipeE ρ3 vs) else .bad) else .bad
        | _ => .bad)
      | .ok _ false e1 ρ2 => lcLoop t test elt vs ds acc (eff || e1) (wipeE ρ2 vs)
      | _ => .bad
def dLc (it : DI) (t : Tg) (test : DT) (elt : DE) (vs : List Nat) : DE := fun ρ => match it ρ with
  | .ok _ ds e ρ1 => (match lcLoop t test elt vs ds [] false (wipeE ρ1 vs) with
    | .ok _ acc eff ρ2 => .ok true (.box true .lst acc) (e || eff) (if eff = true then ρ2 else ρ1)
    | _ => .bad)
  | .ex c xs ρ1 => .ex c xs ρ1
  | .bad => .bad
def dYes : DT := fun ρ => .ok true true false ρ
section
variable {G : Gx} {lk : List (Nat × V)} {Z H : Hp} {σ : St} {ρ : Env} {F : List Addr}
theorem RepS.wipe : ∀ {vs : List Nat}, RepS G Z H ρ σ F → ∃ F', RepS G Z H (wipeE ρ vs) (wipe σ vs) F' ∧ F'.Sublist F
  | [], h => ⟨F, h, List.Sublist.refl _⟩
  | v :: vs, h => by
    obtain ⟨F1, h1, h2⟩ := RepS.wipe (vs := vs) h
    obtain ⟨F2, h3, h4⟩ := h1.drop v none
    exact ⟨F2, h3, h4.trans h2⟩
theorem wipe_ne {σ : St} {i : Nat} : ∀ {vs : List Nat}, i ∉ vs → (wipe σ vs)[i]? = σ[i]?
  | [], _ => rfl
  | v :: vs, h => by
    unfold wipe
    rw [List.getElem?_set_ne fun q => h (by rw [q]; exact List.mem_cons_self)]
    exact wipe_ne fun q => h (List.mem_cons_of_mem _ q)
theorem State.wipe (S : State G lk Z H σ ρ F) {vs : List Nat} (hl : ∀ v ∈ vs, lkOk lk v = true) : ∃ F', State G lk Z H (wipe σ vs) (wipeE ρ vs) F' ∧ F'.Sublist F := by
  obtain ⟨F1, h1, h2⟩ := S.rs.wipe (vs := vs)
  refine ⟨F1, ⟨S.zh, h1, h2.nodup S.nd, fun a ha => S.fz a (h2.subset ha), fun p hp => ?_⟩, h2⟩
  rw [wipe_ne fun q => lkOk.ne (hl _ q) p hp rfl]
  exact S.lk p hp
theorem wipe_get {σ : St} {i : Nat} : ∀ {vs : List Nat}, i ∈ vs → (wipe σ vs)[i]? = if i < σ.length then some none else none
  | [], h => by cases h
  | v :: vs, h => by
    unfold wipe
    by_cases q : v = i
    · subst q
      by_cases hl : v < σ.length
      · rw [List.getElem?_set_self (by rw [wipe_length]; exact hl), if_pos hl]
      · rw [List.getElem?_eq_none (by rw [List.length_set, wipe_length]; omega), if_neg hl]
    · rw [List.getElem?_set_ne q]
      exact wipe_get ((List.mem_cons.mp h).resolve_left fun e => q e.symm)
theorem wipe_congr {σ τ : St} {vs : List Nat} (hl : σ.length = τ.length) (h : ∀ i, i ∉ vs → σ[i]? = τ[i]?) : wipe σ vs = wipe τ vs := by
  refine List.ext_getElem? fun i => ?_
  by_cases q : i ∈ vs
  · rw [wipe_get q, wipe_get q, hl]
  · rw [wipe_ne q, wipe_ne q, h i q]
theorem wipeE_length (ρ : Env) : ∀ vs : List Nat, (wipeE ρ vs).length = ρ.length
  | [] => rfl
  | v :: vs => by unfold wipeE; rw [List.length_set, wipeE_length ρ vs]
theorem wipeE_ne {ρ : Env} {i : Nat} : ∀ {vs : List Nat}, i ∉ vs → (wipeE ρ vs)[i]? = ρ[i]?
  | [], _ => rfl
  | v :: vs, h => by
    unfold wipeE
    rw [List.getElem?_set_ne fun q => h (by rw [q]; exact List.mem_cons_self)]
    exact wipeE_ne fun q => h (List.mem_cons_of_mem _ q)
theorem wipeE_get {ρ : Env} {i : Nat} : ∀ {vs : List Nat}, i ∈ vs → (wipeE ρ vs)[i]? = if i < ρ.length then some none else none
  | [], h => by cases h
  | v :: vs, h => by
    unfold wipeE
    by_cases q : v = i
    · subst q
      by_cases hl : v < ρ.length
      · rw [List.getElem?_set_self (by rw [wipeE_length]; exact hl), if_pos hl]
      · rw [List.getElem?_eq_none (by rw [List.length_set, wipeE_length]; omega), if_neg hl]
    · rw [List.getElem?_set_ne q]
      exact wipeE_get ((List.mem_cons.mp h).resolve_left fun e => q e.symm)
theorem wipeE_congr {σ τ : Env} {vs : List Nat} (hl : σ.length = τ.length) (h : ∀ i, i ∉ vs → σ[i]? = τ[i]?) : wipeE σ vs = wipeE τ vs := by
  refine List.ext_getElem? fun i => ?_
  by_cases q : i ∈ vs
  · rw [wipeE_get q, wipeE_get q, hl]
  · rw [wipeE_ne q, wipeE_ne q, h i q]
theorem wipeE_idem (ρ : Env) (vs : List Nat) : wipeE (wipeE ρ vs) vs = wipeE ρ vs := wipeE_congr (wipeE_length ρ vs) fun i q => wipeE_ne q
/-- what is wiped away does not matter -/
theorem RepS.unwipe : ∀ {ρ : Env} {σ τ : St} {F : List Addr}, RepS G Z H ρ σ F → σ.length = τ.length → (∀ (i : Nat) (d : D), ρ[i]? = some (some d) → τ[i]? = σ[i]?) → RepS G Z H ρ τ F
  | [], σ, τ, F, h, hl, _ => by
    have e : τ = [] := List.length_eq_zero_iff.mp (by rw [← hl, h.1]; rfl)
    exact ⟨e, h.2⟩
  | none :: ρ, σ, τ, F, h, hl, k => by
    obtain ⟨x, σ', rfl, h1⟩ := h
    cases τ with
    | nil => cases hl
    | cons y τ' => exact ⟨y, τ', rfl, RepS.unwipe h1 (by simpa using hl) fun i d e => by simpa using k (i + 1) d (by simpa using e)⟩
  | some d :: ρ, σ, τ, F, h, hl, k => by
    obtain ⟨v, σ', F1, F2, rfl, e2, h1, h2⟩ := h
    cases τ with
    | nil => cases hl
    | cons y τ' =>
      have e0 : y = some v := by simpa using k 0 d rfl
      exact ⟨v, τ', F1, F2, by rw [e0], e2, h1, RepS.unwipe h2 (by simpa using hl) fun i d e => by simpa using k (i + 1) d (by simpa using e)⟩
theorem wipeE_some {ρ : Env} {i : Nat} {d : D} : ∀ {vs : List Nat}, (wipeE ρ vs)[i]? = some (some d) → i ∉ vs
  | [], _ => by simp
  | v :: vs, h => by
    unfold wipeE at h
    by_cases q : v = i
    · subst q
      by_cases hl : v < (wipeE ρ vs).length
      · rw [List.getElem?_set_self hl] at h; cases h
      · rw [List.getElem?_eq_none (by rw [List.length_set]; omega)] at h; cases h
    · rw [List.getElem?_set_ne q] at h
      exact fun m => (List.mem_cons.mp m).elim (fun e => q e.symm) (wipeE_some h)
end
section
variable {c : Cc} {it : DI} {t : Tg} {g : TG} {test : DT} {elt : DE} {vs : List Nat}
/-- within a comprehension nothing is let out -/
def Cc.in (c : Cc) : Cc := { c with W := W0 }
/-- targets within the wiped slots -/
structure TgIn (g : TG) (t : Tg) (vs : List Nat) : Prop where
  tg : ∀ (x : V) (σ : St) (H : Hp) (Q : St → Hp → Prop), g x (wipe σ vs) H (fun σ2 H2 => wipe σ2 vs = wipe σ vs → Q σ2 H2) → g x (wipe σ vs) H fun σ2 H2 => wipe σ2 vs = wipe σ vs ∧ Q σ2 H2
  te : ∀ d ρ ρ', t d ρ = some ρ' → wipeE ρ' vs = wipeE ρ vs
theorem tgIn_N {i : Nat} (h : i ∈ vs) : TgIn (gName i) (tgN i) vs := by
  refine ⟨fun x σ H Q q => have e : wipe ((wipe σ vs).set i (some x)) vs = wipe σ vs := ?_
    ⟨e, q e⟩, fun d ρ ρ' e => ?_⟩
  · refine (wipe_congr (by simp) fun j hj => ?_).trans (wipe_congr (σ := wipe σ vs) (wipe_length σ vs) fun j hj => wipe_ne hj)
    rw [List.getElem?_set_ne fun (q : i = j) => hj (q ▸ h)]
  · unfold tgN at e
    split at e
    · obtain rfl := Option.some.inj e
      exact wipeE_congr (by simp) fun j hj => by rw [List.getElem?_set_ne fun (q : i = j) => hj (q ▸ h)]
    · cases e
theorem setV_ne : ∀ {is : List Nat} {xs : List V} {σ : St} {j : Nat}, j ∉ is → (setV is xs σ)[j]? = σ[j]?
  | [], _, _, _, _ => by simp [setV]
  | _ :: _, [], _, _, _ => by simp [setV]
  | i :: is, x :: xs, σ, j, h => by
    show (setV is xs (σ.set i (some x)))[j]? = _
    rw [setV_ne fun q => h (List.mem_cons_of_mem _ q), List.getElem?_set_ne fun q => h (by rw [q]; exact List.mem_cons_self)]
theorem setV_len : ∀ {is : List Nat} {xs : List V} {σ : St}, (setV is xs σ).length = σ.length
  | [], _, _ => by simp [setV]
  | _ :: _, [], _ => by simp [setV]
  | i :: is, x :: xs, σ => by
    show (setV is xs (σ.set i (some x))).length = _
    rw [setV_len, List.length_set]
theorem setAll_ne : ∀ {is : List Nat} {ds : List D} {ρ ρ' : Env} {j : Nat}, setAll is ds ρ = some ρ' → j ∉ is → ρ'[j]? = ρ[j]?
  | [], [], ρ, ρ', j, h, _ => by simp only [setAll, Option.some.injEq] at h; rw [h]
  | [], _ :: _, _, _, _, h, _ => by simp only [setAll, reduceCtorEq] at h
  | _ :: _, [], _, _, _, h, _ => by simp only [setAll, reduceCtorEq] at h
  | i :: is, d :: ds, ρ, ρ', j, h, hj => by
    simp only [setAll] at h
    split at h
    · rw [setAll_ne h fun q => hj (List.mem_cons_of_mem _ q), List.getElem?_set_ne fun q => hj (by rw [q]; exact List.mem_cons_self)]
    · cases h
theorem setAll_ln : ∀ {is : List Nat} {ds : List D} {ρ ρ' : Env}, setAll is ds ρ = some ρ' → ρ'.length = ρ.length
  | [], [], ρ, ρ', h => by simp only [setAll, Option.some.injEq] at h; rw [h]
  | [], _ :: _, _, _, h => by simp only [setAll, reduceCtorEq] at h
  | _ :: _, [], _, _, h => by simp only [setAll, reduceCtorEq] at h
  | i :: is, d :: ds, ρ, ρ', h => by
    simp only [setAll] at h
    split at h
    · rw [setAll_ln h, List.length_set]
    · cases h
theorem gNames_iff {is : List Nat} : ∀ {xs : List V} {σ : St} {H : Hp} {Q : St → Hp → Prop}, gNames is xs σ H Q → xs.length = is.length ∧ Q (setV is xs σ) H := by
  induction is with
  | nil =>
    intro xs σ H Q ⟨e, q⟩
    subst e
    exact ⟨rfl, q⟩
  | cons i is ih =>
    intro xs σ H Q ⟨v, r, e, q⟩
    subst e
    obtain ⟨h1, h2⟩ := ih q
    exact ⟨by rw [List.length_cons, List.length_cons, h1], h2⟩
theorem tgIn_T {K : PySem.W.Frag} {is : List Nat} {n : Nat} (h : ∀ i ∈ is, i ∈ vs) : TgIn (gTup K n (gNames is)) (tgT is) vs := by
  refine ⟨fun x σ H Q q => ?_, fun d ρ ρ' e => ?_⟩
  · obtain ⟨a, xs, e1, e2, e3, q⟩ := q
    obtain ⟨h1, h2⟩ := gNames_iff q
    have e : wipe (setV is xs (wipe σ vs)) vs = wipe σ vs := ?_
    exact ⟨a, xs, e1, e2, e3, gNames_of h1 ⟨e, h2 e⟩⟩
    exact (wipe_congr setV_len fun j hj => setV_ne fun q => hj (h j q)).trans (wipe_congr (σ := wipe σ vs) (wipe_length σ vs) fun j hj => wipe_ne hj)
  · unfold tgT at e
    split at e
    · exact wipeE_congr (setAll_ln e) fun j hj => setAll_ne e fun q => hj (h j q)
    · cases e
theorem State.upd {G : Gx} {lk : List (Nat × V)} {Z H : Hp} {σ : St} {ρ : Env} {F : List Addr} (S : State G lk Z H σ ρ F) {p : Addr} {o : HO} (hz : Z p = none) (hp : p ∉ F) : State G lk Z (upd H p o) σ ρ F :=
  ⟨fun a u e => by rw [upd_ne fun q => by rw [q, hz] at e; cases e]; exact S.zh a u e, S.rs.mono (Ex.refl _) fun a ha u e => by rw [upd_ne fun (q : a = p) => hp (q ▸ ha)]; exact e, S.nd, S.fz, S.lk⟩
theorem lc_imp {Q : VK} {σ : St} {H : Hp} (hg : TgOk c.G c.lk g t) (hin : TgIn g t vs) (hl : ∀ v ∈ vs, lkOk c.lk v = true) (w : tE c (dLc it t test elt vs) σ H Q) : tLc (tI c it) g (tT c.in test) (tE c.in elt) vs σ H Q := by
  obtain ⟨Z, ρ, F, S, w⟩ := w
  generalize hr : dLc it t test elt vs ρ = r at w
  unfold dLc at hr
  show tI c it σ H _
  split at hr
  · rename_i f ds eff ρ1 ha
    refine ⟨Z, ρ, F, S, ?_⟩
    rw [ha]
    intro Z1 H1 F1 Gk J P1 fk dk io Dl hD
    split at hr
    · rename_i f2 acc eff2 ρ2 hlc
      subst hr
      obtain ⟨Fw, Sw, subw⟩ := P1.sta.wipe hl
      let W : Nat → Nat → Hp → Prop := fun i m H2 => m = ds.length - i ∧ i ≤ ds.length ∧ ∃ Z2 ρi F2 acci accv Ga effi, State c.G c.lk Z2 H2 (wipe σ vs) ρi F2 ∧ Step Z1 H1 F1 Z2 H2 F2 ∧ H2 Dl = some (.lst accv) ∧ Z2 Dl = none ∧ Dl ∉ F2 ∧ Dl ∉ Ga ∧
        RepL c.G Z2 H2 acci accv Ga ∧ Fresh H1 F1 Z2 F2 Ga ∧ (effi = false → ρi = wipeE ρ1 vs ∧ New Z1 H1 Z2 H2 ∧ ∀ a ∈ Ga, a ∉ F1) ∧ lcLoop t test elt vs (ds.drop i) acci effi ρi = .ok f2 acc eff2 ρ2 ∧ (∀ (i : Nat) (d : D), ρi[i]? = some (some d) → i ∉ vs)
      have nF1 : Dl ∉ F1 := fun q => P1.sta.dom q hD
      have nFw : Dl ∉ Fw := fun q => nF1 (subw.subset q)
      have n0 := New.own (o := .lst []) P1.sta.zh hD
      refine ⟨W, ⟨ds.length, rfl, Nat.zero_le _, Z1, wipeE ρ1 vs, Fw, [], [], [], false, Sw.new n0, (n0.step (F := F1)).sub fun a ha => .inl (subw.subset ha), upd_same, z_none P1.sta.zh hD, nFw, by simp, ⟨rfl, rfl⟩, Fresh.nil, fun _ => ⟨rfl, n0, by simp⟩, hlc, fun i d e => wipeE_some e⟩, ?_⟩
      rintro i m H2 ⟨hm, hi, Z2, ρi, F2, acci, accv, Ga, effi, S2, st2, hDl, zDl, nDl, nGa, ra, fa, qa, hloop, hw⟩
      have kept : ∀ a ∈ Gk, ∀ o, H1 a = some o → H2 a = some o := fun a ha o e => st2.fr a o e (fk.nf a ha)
      by_cases hlt : i < ds.length
      · obtain ⟨go, yl⟩ := io.go Z2 H2 st2.zz S2.zh kept i _ (List.getElem?_eq_getElem hlt)
        rw [List.drop_eq_getElem_cons hlt] at hloop
        refine .inr ⟨go, fun H' => W (i + 1) (ds.length - (i + 1)) H', fun H' n => ⟨_, by omega, n⟩, fun x H3 hy => ?_⟩
        obtain ⟨Z3, n3, r3⟩ := yl x H3 hy
        cases ht : t ds[i] ρi with
        | none => simp only [lcLoop, ht, reduceCtorEq] at hloop
        | some ρ3 =>
          simp only [lcLoop, ht] at hloop
          refine hin.tg x σ H3 _ ?_
          refine hg Z3 H3 _ ρi ρ3 F2 _ x _ (S2.new n3) r3 ht fun σ3 F3 S3 h3 => ?_
          have hlen : (wipe σ vs).length = (wipe σ vs).length := rfl
          intro hwσ
          -- what has been gathered, behind the target
          have d3 : H3 Dl = some (.lst accv) := n3.hh _ _ hDl
          have z3 : Z3 Dl = none := (n3.nn Dl (ne_none hDl)).trans zDl
          have nD3 : Dl ∉ F3 := fun q => nDl (h3 Dl q)
          have ra3 : RepL c.G Z3 H3 acci accv Ga := ra.mono n3.zz fun a _ o e => n3.hh a o e
          have domA : ∀ a ∈ Ga, H2 a ≠ none := fun a h => let ⟨_, e, _⟩ := ra.dom a h; ne_none e
          have fa3 : Fresh H1 F1 Z3 F3 Ga := ⟨fa.nd, fa.nh, fun a h => (n3.nn a (domA a h)).trans (fa.nz a h), fun a h q => fa.nf a h (h3 a q)⟩
          have st3 : Step Z1 H1 F1 Z3 H3 F3 := (st2.trans n3.step).sub fun a h => .inl (h3 a h)
          have dom3 : ∀ a ∈ Ga, H3 a ≠ none := fun a h => n3.dm (domA a h)
          cases htt : test ρ3 with
          | bad => simp only [htt, reduceCtorEq] at hloop
          | ex x xs ρ4 => simp only [htt, reduceCtorEq] at hloop
          | ok ft b e1 ρ4 =>
            refine tT.ok (c := c.in) S3 htt fun Z4 H4 F4 P4 => ?_
            have d4 : H4 Dl = some (.lst accv) := P4.st.fr _ _ d3 nD3
            have z4 : Z4 Dl = none := P4.st.zn _ nD3 (ne_none d3) z3
            have nD4 : Dl ∉ F4 := P4.st.notin nD3 (ne_none d3)
            have ra4 : RepL c.G Z4 H4 acci accv Ga := ra3.mono P4.st.zz fun a h o e => P4.st.fr a o e (fa3.nf a h)
            have fa4 : Fresh H1 F1 Z4 F4 Ga := fa3.later dom3 P4
            have dom4 : ∀ a ∈ Ga, H4 a ≠ none := fun a h => P4.st.dm a (dom3 a h)
            have st4 : Step Z1 H1 F1 Z4 H4 F4 := st3.trans P4.st
            have quiet4 : effi = false → e1 = false → wipeE ρ4 vs = wipeE ρ1 vs ∧ New Z1 H1 Z4 H4 ∧ F4 = F3 ∧ ∀ a ∈ Ga, a ∉ F1 := fun h1 h2 => by
              obtain ⟨q1, q2, q3⟩ := qa h1
              obtain ⟨p1, p2, p3⟩ := P4.qui h2
              exact ⟨by rw [p1, hin.te _ _ _ ht, q1, wipeE_idem], (q2.trans n3).trans p3, p2, q3⟩
            cases b with
            | false =>
              rw [if_neg Bool.false_ne_true]
              simp only [htt] at hloop
              obtain ⟨F5, S5, sub5⟩ := P4.sta.wipe (vs := vs) hl
              rw [hwσ] at S5
              exact ⟨rfl, hlt, Z4, wipeE ρ4 vs, F5, acci, accv, Ga, (effi || e1), S5, st4.sub fun a h => .inl (sub5.subset h), d4, z4, fun q => nD4 (sub5.subset q), nGa, ra4, ⟨fa4.nd, fa4.nh, fa4.nz, fun a h q => fa4.nf a h (sub5.subset q)⟩, fun h => by
                rw [Bool.or_eq_false_iff] at h
                obtain ⟨q1, q2, _, q3⟩ := quiet4 h.1 h.2
                exact ⟨q1, q2, q3⟩, hloop, fun i d e => wipeE_some e⟩
            | true =>
              rw [if_pos rfl]
              simp only [htt] at hloop
              cases he : elt ρ4 with
              | bad => simp only [he, reduceCtorEq] at hloop
              | ex x xs ρ5 => simp only [he, reduceCtorEq] at hloop
              | ok fe x e2 ρ5 =>
                simp only [he] at hloop
                by_cases hk : (fe || frz x) = true
                · rw [if_pos hk] at hloop
                  by_cases hlen : acci.length < 1000000
                  · rw [if_pos hlen] at hloop
                    refine tE.ok (c := c.in) P4.sta he fun Z5 H5 F5 y G5 P5 R5 f5h => ?_
                    have fr5 := fresh_or hk R5 f5h
                    have d5 : H5 Dl = some (.lst accv) := P5.st.fr _ _ d4 nD4
                    have z5 : Z5 Dl = none := P5.st.zn _ nD4 (ne_none d4) z4
                    have nD5 : Dl ∉ F5 := P5.st.notin nD4 (ne_none d4)
                    have ra5 : RepL c.G Z5 H5 acci accv Ga := ra4.mono P5.st.zz fun a h o e => P5.st.fr a o e (fa4.nf a h)
                    have fa5 : Fresh H1 F1 Z5 F5 Ga := fa4.later dom4 P5
                    have st5 : Step Z1 H1 F1 Z5 H5 F5 := st4.trans P5.st
                    have nD6 : Dl ∉ G5 := fun q => (fr5.nh Dl q).elim nD4 (ne_none d4)
                    have disj : ∀ a ∈ Ga, a ∉ G5 := fun a h q => (fr5.nh a q).elim (fa4.nf a h) (dom4 a h)
                    refine ⟨accv, d5, by rw [← ra5.length]; exact big_lt hlen, ?_⟩
                    obtain ⟨F6, S6, sub6⟩ := P5.sta.wipe (vs := vs) hl
                    rw [hwσ] at S6
                    have nD7 : Dl ∉ F6 := fun q => nD5 (sub6.subset q)
                    have S7 := S6.upd (o := .lst (accv ++ [y])) z5 nD7
                    have fr6 : Fresh H1 F1 Z5 F5 G5 := fr5.step st4
                    have fAll := fa5.append fr6 disj
                    have keep : ∀ a, a ≠ Dl → ∀ o, H5 a = some o → L2.upd H5 Dl (.lst (accv ++ [y])) a = some o := fun a h o e => by rw [upd_ne h]; exact e
                    have rAll : RepL c.G Z5 (L2.upd H5 Dl (.lst (accv ++ [y]))) (acci ++ [x]) (accv ++ [y]) (Ga ++ G5) := by
                      have r1 := (ra5.append (es := [x]) (ws := [y]) (F' := G5 ++ []) ⟨y, [], G5, [], rfl, rfl, R5, rfl, rfl⟩)
                      rw [List.append_nil] at r1
                      exact r1.mono (Ex.refl _) fun a h o e => keep a (fun q => (List.mem_append.mp h).elim (fun h => nGa (q ▸ h)) fun h => nD6 (q ▸ h)) o e
                    have st8 : Step Z1 H1 F1 Z5 (L2.upd H5 Dl (.lst (accv ++ [y]))) F6 := ⟨st5.zz, S7.zh, fun a h => by
                        by_cases q : a = Dl
                        · rw [q, upd_same]; exact Option.some_ne_none _
                        · rw [upd_ne q]; exact st5.dm a h, fun a o h hn => keep a (fun q => by rw [q, hD] at h; cases h) o (st5.fr a o h hn), fun a h => st5.ff a (sub6.subset h), st5.zn⟩
                    refine ⟨rfl, hlt, Z5, wipeE ρ5 vs, F6, acci ++ [x], accv ++ [y], Ga ++ G5, (effi || e1 || e2), S7, st8, upd_same, z5, nD7, fun q => (List.mem_append.mp q).elim nGa nD6, rAll, ⟨fAll.nd, fAll.nh, fAll.nz, fun a h q => fAll.nf a h (sub6.subset q)⟩, fun h => ?_, hloop, fun i d e => wipeE_some e⟩
                    rw [Bool.or_eq_false_iff, Bool.or_eq_false_iff] at h
                    obtain ⟨q1, q2, q3, q4⟩ := quiet4 h.1.1 h.1.2
                    obtain ⟨p1, p2, p3⟩ := P5.qui h.2
                    have q5 := q2.trans p3
                    refine ⟨by rw [p1, q1], ⟨q5.zz, fun a o h => keep a (fun q => by rw [q, hD] at h; cases h) o (q5.hh a o h), S7.zh, q5.nn⟩, fun a h q => ?_⟩
                    rcases List.mem_append.mp h with h | h
                    · exact q4 a h q
                    · rcases fr5.nh a h with h2 | h2
                      · exact fr5.nf a h (by rw [p2]; exact h2)
                      · exact (st4.dm a (P1.sta.dom q)) h2
                  · rw [if_neg hlen] at hloop
                    cases hloop
                · rw [if_neg hk] at hloop
                  cases hloop
      · have ei : i = ds.length := by omega
        subst ei
        refine .inl ⟨io.stop Z2 H2 st2.zz S2.zh kept, ?_⟩
        rw [List.drop_length] at hloop
        simp only [lcLoop, Res.ok.injEq] at hloop
        obtain ⟨rfl, rfl, rfl, rfl⟩ := hloop
        have dDl : H1 Dl = none := hD
        have rr : Rep c.G Z2 H2 (.box true .lst acci) (.ref Dl) (Dl :: Ga) := ⟨Dl, accv, Ga, rfl, ra, fun q => (nomatch q), fun _ => ⟨rfl, _, hDl, rfl⟩⟩
        cases effi with
        | true =>
          simp only [if_true] at w
          have S4 : State c.G c.lk Z2 H2 σ ρi F2 := ⟨S2.zh, S2.rs.unwipe (wipe_length σ vs) fun j d e => (wipe_ne (hw j d e)).symm, S2.nd, S2.fz, P1.sta.lk⟩
          refine w Z2 H2 F2 _ _ ⟨P1.st.trans st2, S4, fun q => by rw [Bool.or_true] at q; cases q⟩ rr fun _ => Fresh.earlier P1 ⟨List.nodup_cons.mpr ⟨nGa, fa.nd⟩, fun a h => ?_, fun a h => ?_, fun a h => ?_⟩
          · exact (List.mem_cons.mp h).elim (fun e => .inr (e ▸ dDl)) (fa.nh a)
          · exact (List.mem_cons.mp h).elim (fun e => e ▸ zDl) (fa.nz a)
          · exact (List.mem_cons.mp h).elim (fun e => e ▸ nDl) (fa.nf a)
        | false =>
          obtain ⟨q1, q2, q3⟩ := qa rfl
          simp only [Bool.false_eq_true, if_false] at w
          refine w Z2 H2 F1 _ _ (P1.trans (PostE.new P1.sta q2)) rr fun _ => Fresh.earlier P1 ⟨List.nodup_cons.mpr ⟨nGa, fa.nd⟩, fun a h => ?_, fun a h => ?_, fun a h => ?_⟩
          · exact (List.mem_cons.mp h).elim (fun e => .inr (e ▸ dDl)) (fa.nh a)
          · exact (List.mem_cons.mp h).elim (fun e => e ▸ zDl) (fa.nz a)
          · exact (List.mem_cons.mp h).elim (fun e => e ▸ nF1) (q3 a)
    · subst hr; exact w.elim
  · rename_i ha
    subst hr
    exact ⟨Z, ρ, F, S, by rw [ha]; exact w⟩
  · subst hr; exact w.elim

section
variable {X : Cx} {tg iter elx : Expr} {ifs : List Expr} {scope : Scope} {own : List (Str × Nat)} {pos spos py : Pos}
theorem ts_nil : PTs X [] (tT c dYes) := ⟨fun pins s σ H Q I w => (pts_nil (X := X)).run pins s σ H Q I (by
  obtain ⟨Z, ρ, F, S, w⟩ := w
  exact w Z H F (PostE.refl S))⟩
theorem ts_one {e : Expr} {m : DT} (h : PT X e (tT c m)) : PTs X [e] (tT c m) := pts_one h
theorem e_lc (hc : X.calm = true) (hN : X.N.Nodup) (hi : PI X tg iter (tI c it)) (ok : BlkOk X.N X.env.scope scope own)
    (hg : ∀ (s : Shared) (H : Hp) (C : Addr) (cl : List (Str × Addr)) (fp : List Addr), PG (X.blk s H scope (compEnvC scope cl C X.env) fp) tg g)
    (htg : TgOk c.G c.lk g t) (hin : TgIn g t (own.map (·.2)))
    (ht : ∀ (s : Shared) (H : Hp) (C : Addr) (cl : List (Str × Addr)) (fp : List Addr), PTs (X.blk s H scope (compEnvC scope cl C X.env) fp) ifs (tT c.in test))
    (he : ∀ (s : Shared) (H : Hp) (C : Addr) (cl : List (Str × Addr)) (fp : List Addr), PE (X.blk s H scope (compEnvC scope cl C X.env) fp) elx (tE c.in elt)) (hl : (own.map (·.2)).all (lkOk c.lk) = true := by rfl) (hs : ∀ x, foldedSetIterable iter X.env x = pure x := by intro _; rfl) :
    PE X (.ListComp elx [⟨tg, iter, ifs, 0⟩] scope pos) (tE c (dLc it t test elt (own.map (·.2)))) := (pe_lc hc hN hi ok hg ht he hs).imp fun _ _ _ w => lc_imp htg hin (List.all_eq_true.mp hl) w
/-- y = [..] -/
theorem s_lc {i : Nat} {y : Str} (hc : X.calm = true) (hN : X.N.Nodup) (hy : X.N[i]? = some y) (hyl : X.env.scope.names.lookup y = some .local) (hsw : swapsWith (.ListComp elx [⟨tg, iter, ifs, 0⟩] scope pos) (some (.Name y py)) spos.line X.env = pure true)
    (hi : PI X tg iter (tI c it)) (ok : BlkOk X.N X.env.scope scope own)
    (hg : ∀ (s : Shared) (H : Hp) (C : Addr) (cl : List (Str × Addr)) (fp : List Addr), PG (X.blk s H scope (compEnvC scope cl C X.env) fp) tg g)
    (htg : TgOk c.G c.lk g t) (hin : TgIn g t (own.map (·.2)))
    (ht : ∀ (s : Shared) (H : Hp) (C : Addr) (cl : List (Str × Addr)) (fp : List Addr), PTs (X.blk s H scope (compEnvC scope cl C X.env) fp) ifs (tT c.in test))
    (he : ∀ (s : Shared) (H : Hp) (C : Addr) (cl : List (Str × Addr)) (fp : List Addr), PE (X.blk s H scope (compEnvC scope cl C X.env) fp) elx (tE c.in elt)) (hl : (own.map (·.2)).all (lkOk c.lk) = true := by rfl) (hl2 : lkOk c.lk i = true := by rfl) (hs : ∀ x, foldedSetIterable iter X.env x = pure x := by intro _; rfl) :
    PS X (.Assign [.Name y py] (.ListComp elx [⟨tg, iter, ifs, 0⟩] scope pos) spos) (tS c (dAsg i (dLc it t test elt (own.map (·.2))))) := (ps_setLc hc hN hy hyl hsw hi ok hg ht he hs).imp fun D σ H w => by
  have w2 := asg_imp hl2 w
  exact lc_imp htg hin (List.all_eq_true.mp hl) w2
end
end

/-! ### a def's body -/
def runD (ln : Bool) (n : Nat) (m : DS) : DF := fun ds => match m (ds.map some ++ List.replicate (n - ds.length) none) with
  | .rt d ρ => if ln = true then (match ρ[0]? with | some (some d0) => .ok d [d0] | _ => .bad) else .ok d []
  | .nx ρ => if ln = true then (match ρ[0]? with | some (some d0) => .ok .non [d0] | _ => .bad) else .ok .non []
  | .ex x [] ρ => if ln = true then (match ρ[0]? with | some (some d0) => .ex x [d0] | _ => .bad) else .ex x []
  | _ => .bad
def gx (K : PySem.W.Frag) (mg : Str → Option Value) : Gx := ⟨K, fun x => match mg x with | some (.ref C) => some C | _ => none⟩
def wE (G : Gx) (E : XK) : EW := fun x _ _ H => ∀ C, G.cn x = some C → E (.ref C) none H
section
variable {G : Gx} {Z H : Hp}
theorem rep_none (σ : List (Option V)) : ∀ n, σ = List.replicate n none → RepS G Z H (List.replicate n none) σ []
  | 0, h => ⟨h, rfl⟩
  | n + 1, h => ⟨none, List.replicate n none, h, rep_none _ n rfl⟩
theorem rep_start : ∀ {ds : List D} {vs : List V} {F : List Addr} (n : Nat), RepL G Z H ds vs F → RepS G Z H (ds.map some ++ List.replicate n none) (vs.map some ++ List.replicate n none) F
  | [], vs, F, n, h => by
    obtain ⟨rfl, rfl⟩ := h
    exact rep_none _ n rfl
  | d :: ds, vs, F, n, h => by
    obtain ⟨v, vs', F1, F2, rfl, rfl, h1, h2⟩ := h
    exact ⟨v, vs'.map some ++ List.replicate n none, F1, F2, rfl, rfl, h1, rep_start n h2⟩
/-- a slot's data, the rest forgotten -/
theorem State.out {lk : List (Nat × V)} {σ : St} {ρ : Env} {F Gr : List Addr} {i : Nat} {d : D} {v : V} (S : State G lk Z H σ ρ F) (hi : ρ[i]? = some (some d)) (hv : σ[i]? = some (some v)) : ∃ Fo, Rep G Z H d v Fo ∧ Fo.Nodup ∧ (∀ a ∈ Fo, Z a = none) ∧ ∀ a ∈ Fo, a ∈ F := by
  obtain ⟨v', A, F1, B, g1, g2, g3, g4⟩ := S.rs.get hi
  rw [hv] at g1
  obtain rfl := Option.some.inj (Option.some.inj g1)
  have sub : ∀ a ∈ F1, a ∈ F := fun a h => by rw [g2]; exact mem_mid.mpr (.inl h)
  exact ⟨F1, g3, (nodup_mid (by rw [← g2]; exact S.nd)).2.1, fun a h => S.fz a (sub a h), sub⟩
theorem run_imp0 {n nN : Nat} {m : DS} {vs : List V} {Q : VK} {E : XK} {N : List Str} (hN : N.length = nN) (h : spD G n false (runD false nN m) vs H Q E) : tS ⟨G, [], wE G E⟩ m { nx := fun _ H' => Q .non H', rt := Q } (L2.start N vs) H := by
  obtain ⟨hl, Z, ds, Fp, zh, rl, nd, nz, w⟩ := h
  have e : L2.start N vs = vs.map some ++ List.replicate (nN - ds.length) none := by unfold L2.start; rw [hN, rl.length]
  rw [e]
  refine ⟨Z, _, Fp, ⟨zh, rep_start _ rl, nd, nz, fun p hp => by cases hp⟩, ?_⟩
  generalize hr : runD false nN m ds = r at w
  unfold runD at hr
  split at hr
  · rename_i hm
    simp only [Bool.false_eq_true, if_false] at hr
    subst hr
    rw [hm]
    exact fun Z' H' F' σ' v Gf st S' r f => w Z' H' [] v Gf (st.sub fun a h => by cases h) ⟨rfl, rfl⟩ List.nodup_nil (by simp) r ⟨f.nd, f.nh, f.nz, by simp⟩
  · rename_i hm
    simp only [Bool.false_eq_true, if_false] at hr
    subst hr
    rw [hm]
    exact fun Z' H' F' σ' st S' => w Z' H' [] .non [] (st.sub fun a h => by cases h) ⟨rfl, rfl⟩ List.nodup_nil (by simp) ⟨rfl, rfl⟩ Fresh.nil
  · rename_i hm
    simp only [Bool.false_eq_true, if_false] at hr
    subst hr
    rw [hm]
    exact fun Z' H' F' σ' st S' => w Z' H' [] (st.sub fun a h => by cases h) ⟨rfl, rfl⟩ List.nodup_nil (by simp)
  · subst hr; exact w.elim
theorem run_imp1 {n nN : Nat} {m : DS} {v0 : V} {vs : List V} {Q : VK} {E : XK} {N : List Str} (hN : N.length = nN) (h : spD G n true (runD true nN m) (v0 :: vs) H Q E) : tS ⟨G, [(0, v0)], wE G E⟩ m { nx := fun _ H' => Q .non H', rt := Q } (L2.start N (v0 :: vs)) H := by
  obtain ⟨hl, Z, ds, Fp, zh, rl, nd, nz, w⟩ := h
  have e : L2.start N (v0 :: vs) = (v0 :: vs).map some ++ List.replicate (nN - ds.length) none := by unfold L2.start; rw [hN, rl.length]
  rw [e]
  refine ⟨Z, _, Fp, ⟨zh, rep_start _ rl, nd, nz, fun p hp => by rw [List.mem_singleton.mp hp]; rfl⟩, ?_⟩
  have lv : lentV true (v0 :: vs) = [v0] := rfl
  have one : ∀ {Z' H' : Hp} {d : D} {Fo : List Addr}, Rep G Z' H' d v0 Fo → RepL G Z' H' [d] (lentV true (v0 :: vs)) Fo := fun {Z' H' d Fo} r => ⟨v0, [], Fo, [], rfl, by simp, r, rfl, rfl⟩
  generalize hr : runD true nN m ds = r at w
  unfold runD at hr
  split at hr
  · rename_i d ρ hm
    simp only [if_true] at hr
    split at hr
    · rename_i d0 h0
      subst hr
      rw [hm]
      intro Z' H' F' σ' v Gf st S' r f
      obtain ⟨Fo, ro, no, zo, sub⟩ := S'.out (Gr := []) h0 (S'.lk (0, v0) List.mem_cons_self)
      exact w Z' H' Fo v Gf (st.sub fun a h => .inl (sub a h)) (one ro) no zo r ⟨f.nd, f.nh, f.nz, fun a h q => f.nf a h (sub a q)⟩
    · subst hr; exact w.elim
  · rename_i ρ hm
    simp only [if_true] at hr
    split at hr
    · rename_i d0 h0
      subst hr
      rw [hm]
      intro Z' H' F' σ' st S'
      obtain ⟨Fo, ro, no, zo, sub⟩ := S'.out (Gr := []) h0 (S'.lk (0, v0) List.mem_cons_self)
      exact w Z' H' Fo .non [] (st.sub fun a h => .inl (sub a h)) (one ro) no zo ⟨rfl, rfl⟩ Fresh.nil
    · subst hr; exact w.elim
  · rename_i x ρ hm
    simp only [if_true] at hr
    split at hr
    · rename_i d0 h0
      subst hr
      rw [hm]
      intro Z' H' F' σ' st S'
      obtain ⟨Fo, ro, no, zo, sub⟩ := S'.out (Gr := []) h0 (S'.lk (0, v0) List.mem_cons_self)
      exact w Z' H' Fo (st.sub fun a h => .inl (sub a h)) (one ro) no zo
    · subst hr; exact w.elim
  · subst hr; exact w.elim
end
section
variable {P : Program} {w : World} {K : PySem.W.Frag} {mg : Str → Option Value} {base : Heap} {x qual : Str} {st : Stmt} {f : Addr} {fd : FuncData} {N ps : List Str} {k : Nat} {m : DS}
theorem tk_fn {G : Gx} {lk : List (Nat × V)} {cdv : Value} {A : Around} {outer : List PySem.Env} {s : Shared} {H : Hp} {E : XK} {sc : Scope} : Takes (cxOf (L2.CX P w) P w K mg base N qual sc f cdv A outer s H E) (wxOf ⟨G, lk, wE G E⟩) :=
  (takes_of rfl rfl rfl rfl).imp fun cls d σ H' ⟨y, C, h1, h2, h3, h4⟩ => by rw [h2, h3]; exact h4 C h1
theorem po_fn {cdv : Value} {A : Around} {outer : List PySem.Env} {s : Shared} {H : Hp} {E : XK} {sc : Scope} : PassesOwn (model P w) (cxOf (L2.CX P w) P w K mg base N qual sc f cdv A outer s H E).A (cxOf (L2.CX P w) P w K mg base N qual sc f cdv A outer s H E).env (cxOf (L2.CX P w) P w K mg base N qual sc f cdv A outer s H E).xe := passes_of rfl
/-- THE RULE: a def by its body -/
theorem fn0 (F : Fun K x qual st f fd) (S : FnScope N ps (defScope st))
    (der : ∀ (cdv : Value) (A : Around) (outer : List PySem.Env) (s : Shared) (H : Hp) (E : XK), Room k (A.deeper (PyProof.Rows.envOfC qual (defScope st) s.heap.objs.size f cdv)) → PSs (cxOf (L2.CX P w) P w K mg base N qual (defScope st) f cdv A outer s H E) (defBody st) (tS ⟨gx K mg, [], wE (gx K mg) E⟩ m)) :
    FnOk P w K mg base (L2.CX P w) (k + 1) f fd ps (spD (gx K mg) ps.length false (runD false N.length m)) :=
  F.okX S spD_len fun cdv A outer s H vs Q E hr h => ⟨_, der cdv A outer s H E hr, run_imp0 rfl h⟩
theorem fn1 (F : Fun K x qual st f fd) (S : FnScope N ps (defScope st)) (hp : 0 < ps.length)
    (der : ∀ (v0 : V) (cdv : Value) (A : Around) (outer : List PySem.Env) (s : Shared) (H : Hp) (E : XK), Room k (A.deeper (PyProof.Rows.envOfC qual (defScope st) s.heap.objs.size f cdv)) → PSs (cxOf (L2.CX P w) P w K mg base N qual (defScope st) f cdv A outer s H E) (defBody st) (tS ⟨gx K mg, [(0, v0)], wE (gx K mg) E⟩ m)) :
    FnOk P w K mg base (L2.CX P w) (k + 1) f fd ps (spD (gx K mg) ps.length true (runD true N.length m)) :=
  F.okX S spD_len fun cdv A outer s H vs Q E hr h => by
    match vs, h with
    | [], h => exact absurd h.1 (Nat.ne_of_lt hp)
    | v0 :: vs, h => exact ⟨_, der v0 cdv A outer s H E hr, run_imp1 rfl h⟩
end
end Dd
/-! Operators for whatever stands there; in; all, any, sum; constants of the module. -/
namespace Dd
open PySem L2

theorem Op2.or {G : Gx} {r r' : R2} {f g : D → D → Option (Bool × D)} (h : Op2 G r f) (h' : Op2 G r' g) : Op2 G (fun x y H Q => r x y H Q ∨ r' x y H Q) (fun x y => match f x y with | some p => some p | none => g x y) := by
  intro Z H x y v w F1 F2 fr z zh r1 r2 hf Q k
  simp only at hf
  split at hf
  · rename_i p hp
    exact .inl (h Z H x y v w F1 F2 fr z zh r1 r2 (by rw [hp]; exact hf) Q k)
  · exact .inr (h' Z H x y v w F1 F2 fr z zh r1 r2 hf Q k)
/-! ### + -/
def fCat : D → D → Option (Bool × D)
  | .box o1 .lst ds, .box o2 .lst es => if o1 = true ∧ o2 = true ∧ frzL ds = true ∧ frzL es = true ∧ ds.length + es.length ≤ 1000000 then some (true, .box true .lst (ds ++ es)) else none
  | _, _ => none
def fCatT : D → D → Option (Bool × D)
  | .box _ .tup ds, .box _ .tup es => if frzL ds = true ∧ frzL es = true ∧ ds.length + es.length ≤ 1000000 then some (true, .box false .tup (ds ++ es)) else none
  | _, _ => none
def fCatS : D → D → Option (Bool × D)
  | .str a, .str b => if a.length + b.length ≤ 1000000 then some (true, .str (a ++ b)) else none
  | _, _ => none
def fPlus (x y : D) : Option (Bool × D) := match x, y with
  | .int i, .int j => some (true, .int (i + j))
  | .str a, .str b => fCatS (.str a) (.str b)
  | .box o k ds, .box o' k' es => (match fCatT (.box o k ds) (.box o' k' es) with | some p => some p | none => fCat (.box o k ds) (.box o' k' es))
  | _, _ => none
section
variable {G : Gx} {Z H : Hp}
theorem o_cat : Op2 G rCat fCat := by
  intro Z H x y v w F1 F2 fr z zh r1 r2 hf Q k
  unfold fCat at hf
  split at hf
  · rename_i o1 ds o2 es
    split at hf
    · rename_i hc
      obtain ⟨rfl, rfl, h1, h2, h3⟩ := hc
      simp only [Option.some.injEq, Prod.mk.injEq] at hf
      obtain ⟨rfl, rfl⟩ := hf
      obtain ⟨a, vs, F', rfl, hs, hl, ho, _⟩ := rep_lst zh r1
      obtain ⟨b, ws, F'', rfl, hs2, hl2, ho2, _⟩ := rep_lst zh r2
      have e0 := hl.frz_nil h1
      subst e0
      have e1 := hl2.frz_nil h2
      subst e1
      exact ⟨a, b, vs, ws, rfl, rfl, ho rfl, ho2 rfl, by rw [← hl.length, ← hl2.length]; exact big_le h3, fun p hp => k _ _ _ [p] (New.own zh hp) (rep_newL zh hp (hl.append hl2)) fun _ => ⟨by simp, fun c hc => by rw [List.mem_singleton.mp hc]; exact ⟨hp, z_none zh hp⟩⟩⟩
    · cases hf
  · cases hf
theorem o_catT : Op2 G (rCatA G.K) fCatT := by
  intro Z H x y v w F1 F2 fr z zh r1 r2 hf Q k
  unfold fCatT at hf
  split at hf
  · rename_i o1 ds o2 es
    split at hf
    · rename_i hc
      obtain ⟨h1, h2, h3⟩ := hc
      simp only [Option.some.injEq, Prod.mk.injEq] at hf
      obtain ⟨rfl, rfl⟩ := hf
      obtain ⟨_, a, vs, rfl, hs, hl⟩ := rep_tup zh r1
      obtain ⟨_, b, ws, rfl, hs2, hl2⟩ := rep_tup zh r2
      have e0 := hl.frz_nil h1
      subst e0
      have e1 := hl2.frz_nil h2
      subst e1
      have old : ∀ {c : Addr} {us : List V} {cs : List D}, SqT G.K Z c us → RepL G Z H cs us [] → Rep G Z H (.box false .tup cs) (.ref c) [] := fun {c us cs} q r => ⟨c, us, [], rfl, r, fun _ => ⟨rfl, q, .inl rfl⟩, fun q => nomatch q⟩
      have nl : ∀ {cs : List D} {us : List V}, RepL G Z H cs us [] → us = [] → cs = [] := fun {cs us} r e => by
        have := r.length
        rw [e] at this
        exact List.length_eq_zero_iff.mp this
      refine ⟨a, b, vs, ws, rfl, rfl, ex_t zh hs, ex_t zh hs2, by rw [← hl.length, ← hl2.length]; exact big_le h3, fun e => ?_, fun _ e => ?_, fun _ _ p hp => ?_⟩
      · rw [nl hl e, List.nil_append] at k
        exact k Z H _ [] (New.refl zh) (old hs2 hl2) fun _ => ⟨List.nodup_nil, by simp⟩
      · rw [nl hl2 e, List.append_nil] at k
        exact k Z H _ [] (New.refl zh) (old hs hl) fun _ => ⟨List.nodup_nil, by simp⟩
      · exact k _ _ _ [] (New.fro zh hp) (rep_newT zh hp (hl.append hl2)) fun _ => ⟨List.nodup_nil, by simp⟩
    · cases hf
  · cases hf
theorem o_catS : Op2 G (fun x y H Q => ∃ i j, x = .str i ∧ y = .str j ∧ i.length + j.length ≤ sizeLine ∧ Q (.str (i ++ j)) H) fCatS := op2_sc fun Z H x y v w F1 F2 fr z zh r1 r2 hf => by
  unfold fCatS at hf
  split at hf
  · split at hf
    · rename_i h
      simp only [Option.some.injEq, Prod.mk.injEq] at hf
      obtain ⟨rfl, rfl⟩ := hf
      exact ⟨_, rfl, fun Q q => ⟨_, _, r1.1, r2.1, big_le h, q⟩⟩
    · cases hf
  · cases hf
def rPlus (K : PySem.W.Frag) : R2 := fun x y H Q => rI0 (fun i j => .int (i + j)) x y H Q ∨ (fun x y H Q => ∃ i j, x = .str i ∧ y = .str j ∧ i.length + j.length ≤ sizeLine ∧ Q (.str (i ++ j)) H) x y H Q ∨ rCatA K x y H Q ∨ rCat x y H Q
theorem x_add {X : Cx} : OpR X (binaryOp .Add) (rPlus X.K) := op_add.or (op_add_str.or (op_catA.or op_cat))
theorem m_add : Op2 G (rPlus G.K) fPlus := by
  intro Z H x y v w F1 F2 fr z zh r1 r2 hf Q k
  unfold fPlus at hf
  split at hf
  · exact .inl (o_add Z H _ _ v w F1 F2 fr z zh r1 r2 (by simpa [fAdd, fInt] using hf) Q k)
  · exact .inr (.inl (o_catS Z H _ _ v w F1 F2 fr z zh r1 r2 hf Q k))
  · split at hf
    · rename_i p hp
      exact .inr (.inr (.inl (o_catT Z H _ _ v w F1 F2 fr z zh r1 r2 (by rw [hp]; exact hf) Q k)))
    · exact .inr (.inr (.inr (o_cat Z H _ _ v w F1 F2 fr z zh r1 r2 hf Q k)))
  · cases hf
end
/-! ### * and // of ints -/
def okDivW (j : Int) : Bool := decide (0 < j ∧ j.natAbs < 2 ^ 64)
def fDivW := fInt (fun _ j => okDivW j) fun i j => .int (i / j)
section
variable {G : Gx}
theorem m_div : Op2 G (rI CDivW fun i j => .int (i / j)) fDivW := op_int (fun i j h => by
  have h : 0 < j ∧ j.natAbs < 2 ^ 64 := of_decide_eq_true h
  exact wide_div (b := 64) h.1 (by omega) (by decide) (by decide)) fun _ _ => rfl
end
/-! ### in -/
def svL : List D → Option (List V)
  | [] => some []
  | d :: ds => (sv d).bind fun v => (svL ds).map fun vs => v :: vs
def fInG (g : Bool → Bool) (x y : D) : Option (Bool × D) := match y with
  | .box _ .lst ds => (sv x).bind fun v => (svL ds).map fun vs => (true, D.bl (g (inV v vs)))
  | .box _ .tup ds => (sv x).bind fun v => (svL ds).map fun vs => (true, D.bl (g (inV v vs)))
  | _ => none
def fIn := fInG fun b => b
def fNotIn := fInG fun b => !b
section
variable {G : Gx} {Z H : Hp}
theorem sv_eq {d : D} {v u : V} {F : List Addr} (r : Rep G Z H d v F) (h : sv d = some u) : v = u := by
  cases d <;> simp only [sv, Option.some.injEq, reduceCtorEq] at h <;> rw [r.1, ← h]
theorem sv_flat {d : D} {u : V} (h : sv d = some u) : flatV u = true := by
  cases d <;> simp only [sv, Option.some.injEq, reduceCtorEq] at h <;> rw [← h] <;> rfl
theorem svL_eq : ∀ {ds : List D} {vs us : List V} {F : List Addr}, RepL G Z H ds vs F → svL ds = some us → vs = us ∧ us.all flatV = true
  | [], vs, us, F, r, h => by
    simp only [svL, Option.some.injEq] at h
    rw [← h, r.1]
    exact ⟨rfl, rfl⟩
  | d :: ds, vs, us, F, r, h => by
    obtain ⟨v, vs', F1, F2, rfl, _, r1, r2⟩ := r
    cases h1 : sv d with
    | none => simp only [svL, h1, Option.bind_none, reduceCtorEq] at h
    | some u =>
      cases h2 : svL ds with
      | none => simp only [svL, h1, h2, Option.bind_some, Option.map_none, reduceCtorEq] at h
      | some us' =>
        simp only [svL, h1, h2, Option.bind_some, Option.map_some, Option.some.injEq] at h
        obtain ⟨e1, e2⟩ := svL_eq r2 h2
        rw [← h, sv_eq r1 h1, e1]
        refine ⟨rfl, ?_⟩
        rw [List.all_cons, sv_flat h1, e2]; rfl
theorem in_imp {x y : D} {v w : V} {F1 F2 : List Addr} {fr : Bool} {z : D} {g : Bool → Bool} (zh : Ex Z H) (r1 : Rep G Z H x v F1) (r2 : Rep G Z H y w F2)
    (hf : fInG g x y = some (fr, z)) : ∃ b, z = .bl b ∧ ∃ p xs, w = .ref p ∧ (SqL G.K H p xs ∨ SqT G.K H p xs) ∧ flatV v = true ∧ xs.all flatV = true ∧ b = g (inV v xs) := by
  have fin : ∀ {ds : List D} {vs : List V} {F : List Addr}, RepL G Z H ds vs F → ((sv x).bind fun v => (svL ds).map fun vs => (true, D.bl (g (inV v vs)))) = some (fr, z) → ∃ b, z = .bl b ∧ flatV v = true ∧ vs.all flatV = true ∧ b = g (inV v vs) := fun {ds vs F} hl h => by
    cases h1 : sv x with
    | none => simp only [h1, Option.bind_none, reduceCtorEq] at h
    | some u =>
      cases h2 : svL ds with
      | none => simp only [h1, h2, Option.bind_some, Option.map_none, reduceCtorEq] at h
      | some us =>
        simp only [h1, h2, Option.bind_some, Option.map_some, Option.some.injEq, Prod.mk.injEq] at h
        obtain ⟨e1, e2⟩ := svL_eq hl h2
        refine ⟨_, h.2.symm, ?_, ?_, ?_⟩
        · rw [sv_eq r1 h1]; exact sv_flat h1
        · rw [e1]; exact e2
        · rw [sv_eq r1 h1, e1]
  unfold fInG at hf
  split at hf
  · obtain ⟨a, vs, F', rfl, hs, hl, _⟩ := rep_lst zh r2
    obtain ⟨b, h1, h2, h3, h4⟩ := fin hl hf
    exact ⟨b, h1, a, vs, rfl, .inl hs, h2, h3, h4⟩
  · obtain ⟨_, a, vs, rfl, hs, hl⟩ := rep_tup zh r2
    obtain ⟨b, h1, h2, h3, h4⟩ := fin hl hf
    exact ⟨b, h1, a, vs, rfl, .inr (ex_t zh hs), h2, h3, h4⟩
  · cases hf
theorem o_in : Op2 G (rIn G.K false) fIn := op2_sc fun Z H x y v w F1 F2 fr z zh r1 r2 hf => by
  obtain ⟨b, rfl, p, xs, e1, e2, e3, e4, rfl⟩ := in_imp (g := fun b => b) zh r1 r2 hf
  exact ⟨_, rfl, fun Q q => ⟨p, xs, e1, e2, e3, e4, q⟩⟩
theorem o_notIn : Op2 G (rIn G.K true) fNotIn := op2_sc fun Z H x y v w F1 F2 fr z zh r1 r2 hf => by
  obtain ⟨b, rfl, p, xs, e1, e2, e3, e4, rfl⟩ := in_imp (g := fun b => !b) zh r1 r2 hf
  exact ⟨_, rfl, fun Q q => ⟨p, xs, e1, e2, e3, e4, q⟩⟩
theorem bl_inG {g : Bool → Bool} : BlF (fInG g) := by
  intro x y fr d h
  have fin : ∀ {ds : List D}, ((sv x).bind fun v => (svL ds).map fun vs => (true, D.bl (g (inV v vs)))) = some (fr, d) → ∃ b, d = .bl b := fun {ds} h => by
    cases h1 : sv x with
    | none => simp only [h1, Option.bind_none, reduceCtorEq] at h
    | some u =>
      cases h2 : svL ds with
      | none => simp only [h1, h2, Option.bind_some, Option.map_none, reduceCtorEq] at h
      | some us =>
        simp only [h1, h2, Option.bind_some, Option.map_some, Option.some.injEq, Prod.mk.injEq] at h
        exact ⟨_, h.2.symm⟩
  unfold fInG at h
  split at h
  · exact fin h
  · exact fin h
  · cases h
theorem bl_in : BlF fIn := bl_inG
theorem bl_notIn : BlF fNotIn := bl_inG
end
/-! ### all, any, sum of lists -/
def blL : List D → Option (List Bool)
  | [] => some []
  | .bl b :: ds => (blL ds).map fun bs => b :: bs
  | _ :: _ => none
def inL : List D → Option (List Int)
  | [] => some []
  | .int b :: ds => (inL ds).map fun bs => b :: bs
  | _ :: _ => none
def fAll : D → Option (Bool × D)
  | .box _ .lst ds => (blL ds).map fun bs => (true, D.bl (bs.all id))
  | _ => none
def fAny : D → Option (Bool × D)
  | .box _ .lst ds => (blL ds).map fun bs => (true, D.bl (bs.any id))
  | _ => none
def fSum : D → Option (Bool × D)
  | .box _ .lst ds => (inL ds).map fun bs => (true, D.int bs.sum)
  | _ => none
section
variable {G : Gx} {Z H : Hp}
theorem blL_eq : ∀ {ds : List D} {vs : List V} {bs : List Bool} {F : List Addr}, RepL G Z H ds vs F → blL ds = some bs → vs = bs.map V.bl
  | [], vs, bs, F, r, h => by
    simp only [blL, Option.some.injEq] at h
    rw [← h, r.1]; rfl
  | d :: ds, vs, bs, F, r, h => by
    obtain ⟨v, vs', F1, F2, rfl, _, r1, r2⟩ := r
    cases d with
    | bl b =>
      cases h2 : blL ds with
      | none => simp only [blL, h2, Option.map_none, reduceCtorEq] at h
      | some us =>
        simp only [blL, h2, Option.map_some, Option.some.injEq] at h
        rw [← h, r1.1, blL_eq r2 h2]; rfl
    | _ => simp only [blL, reduceCtorEq] at h
theorem inL_eq : ∀ {ds : List D} {vs : List V} {bs : List Int} {F : List Addr}, RepL G Z H ds vs F → inL ds = some bs → vs = bs.map V.int
  | [], vs, bs, F, r, h => by
    simp only [inL, Option.some.injEq] at h
    rw [← h, r.1]; rfl
  | d :: ds, vs, bs, F, r, h => by
    obtain ⟨v, vs', F1, F2, rfl, _, r1, r2⟩ := r
    cases d with
    | int b =>
      cases h2 : inL ds with
      | none => simp only [inL, h2, Option.map_none, reduceCtorEq] at h
      | some us =>
        simp only [inL, h2, Option.map_some, Option.some.injEq] at h
        rw [← h, r1.1, inL_eq r2 h2]; rfl
    | _ => simp only [inL, reduceCtorEq] at h
theorem o_all : Op1 G (fun x H Q => rAll G.K [x] H Q) fAll := op1_sc fun Z H x v F1 fr z zh r1 hf => by
  unfold fAll at hf
  split at hf
  · rename_i own ds
    cases hb : blL ds with
    | none => rw [hb] at hf; cases hf
    | some bs =>
      rw [hb] at hf
      simp only [Option.map_some, Option.some.injEq, Prod.mk.injEq] at hf
      obtain ⟨rfl, rfl⟩ := hf
      obtain ⟨a, vs, F', rfl, hs, hl, _⟩ := rep_lst zh r1
      have e := blL_eq hl hb
      subst e
      exact ⟨_, rfl, fun Q q => ⟨a, bs, rfl, hs, q⟩⟩
  · cases hf
theorem o_any : Op1 G (fun x H Q => rAny G.K [x] H Q) fAny := op1_sc fun Z H x v F1 fr z zh r1 hf => by
  unfold fAny at hf
  split at hf
  · rename_i own ds
    cases hb : blL ds with
    | none => rw [hb] at hf; cases hf
    | some bs =>
      rw [hb] at hf
      simp only [Option.map_some, Option.some.injEq, Prod.mk.injEq] at hf
      obtain ⟨rfl, rfl⟩ := hf
      obtain ⟨a, vs, F', rfl, hs, hl, _⟩ := rep_lst zh r1
      have e := blL_eq hl hb
      subst e
      exact ⟨_, rfl, fun Q q => ⟨a, bs, rfl, hs, q⟩⟩
  · cases hf
theorem o_sum : Op1 G (fun x H Q => rSum G.K [x] H Q) fSum := op1_sc fun Z H x v F1 fr z zh r1 hf => by
  unfold fSum at hf
  split at hf
  · rename_i own ds
    cases hb : inL ds with
    | none => rw [hb] at hf; cases hf
    | some bs =>
      rw [hb] at hf
      simp only [Option.map_some, Option.some.injEq, Prod.mk.injEq] at hf
      obtain ⟨rfl, rfl⟩ := hf
      obtain ⟨a, vs, F', rfl, hs, hl, _⟩ := rep_lst zh r1
      have e := inL_eq hl hb
      subst e
      exact ⟨_, rfl, fun Q q => ⟨a, bs, rfl, hs, q⟩⟩
  · cases hf
end
/-! ### constants of the module -/
section
variable {c : Cc} {X : Cx} {x : Str} {pos : Pos}
theorem e_globI {i : Int} (hm : ∃ t, X.mg x = some (.int i t)) (hg : Gl X x) (hd : (x == ("__debug__" : Str)) = false := by decide) : PE X (.Name x pos) (tE c (dC (.int i))) := by
  obtain ⟨t, hm⟩ := hm
  exact e_con (pe_glob (v := .int i) hg hm ⟨t, rfl⟩ hd) fun _ _ _ => ⟨rfl, rfl⟩
theorem e_globS {i : Str} (hm : ∃ t, X.mg x = some (.str i t)) (hg : Gl X x) (hd : (x == ("__debug__" : Str)) = false := by decide) : PE X (.Name x pos) (tE c (dC (.str i))) := by
  obtain ⟨t, hm⟩ := hm
  exact e_con (pe_glob (v := .str i) hg hm ⟨t, rfl⟩ hd) fun _ _ _ => ⟨rfl, rfl⟩
end
/-! ### a def that is never reached -/
theorem fn_bad {P : Program} {w : World} {K : PySem.W.Frag} {mg : Str → Option Value} {base : Heap} {CX : CXT} {k n : Nat} {ln : Bool} {G : Gx} {f : Addr} {fd : FuncData} {ps : List Str} (hn : n = ps.length) : FnOk P w K mg base CX k f fd ps (spD G n ln fun _ => .bad) :=
  ⟨fun vs H Q E h => h.1.trans hn, fun _ _ _ _ _ _ _ _ _ _ _ _ _ h => by obtain ⟨_, _, _, _, _, _, _, _, z⟩ := h; exact z.elim⟩
/-- the facts of an exception class -/
structure ExcT (K : PySem.W.Frag) (mg : Str → Option Value) (x : Str) (C : Addr) : Prop where
  g : mg x = some (.ref C)
  k : PySem.W.keepIn K (.ref C) = true
  b : PySem.W.subIn K (.ref C) (.type "BaseException") = some true
  t : PySem.W.typeIn K (.ref C) = some (.type "type")
/-- keywords alone -/
theorem pe_callK0S {X : Cx} {CX : CXT} {k : Nat} {f : Addr} {fd : FuncData} {ps ks : List Str} {sp : Sp} {E : L2.St → XK} {x : Str} {p pos : Pos} {kws : List Keyword} {tk : TA} {g : List Value → List Value} {gV : List V → List V}
    (F : FnOk X.prog X.w X.K X.mg X.base CX k f fd ps sp) (hr : Room k X.A) (hg : Gl X x) (hm : X.mg x = some (.ref f)) (hk : PySem.W.keepIn X.K (.ref f) = true)
    (hb : ∀ (s : Shared) (ws : List Value), ws.length = ps.length → BindsTo s fd ⟨[], ks.zip ws⟩ (ps.zip (g ws))) (hgl : ∀ ws, (g ws).length = ws.length) (hgr : ∀ {zs : List V} {ws : List Value}, zs.length = ps.length → Vals zs ws → Vals (gV zs) (g ws)) (hx : ∀ σ, PassesAt CX X σ (E σ))
    (hkw : PK X kws tk) (hnk : ∀ zs, zs.length ≠ ps.length → ∀ H Q E, ¬ sp (gV zs) H Q E) (hall : (backToKw pos (keywordEach kws X.env)).all (·.1.isSome) = true := by rfl) (hks : (backToKw pos (keywordEach kws X.env)).filterMap (·.1) = ks := by rfl)
    (hdb : (x == ("__debug__" : Str)) = false := by decide) (hpl : ((backTo pos (starEach [] X.env)).any (·.1) || (backToKw pos (keywordEach kws X.env)).any (·.1.isNone)) = false := by rfl) :
    PE X (.Call (.Name x p) [] kws pos) (fun σ H Q => tk σ H fun zs H2 => sp (gV zs) H2 Q (E σ)) := by
  refine ⟨fun pins s σ H Q I h => ?_⟩
  refine wpAny_Call_Name_kw (ld_glob I hg hm ?_ hdb)
  refine PySem.W.callWith_KW0 (h₀ := X.base) I.ok.mod.kin hk hall ?_ hpl
  refine thn (hkw.run pos pins s σ H _ I h) fun ws s2 ⟨zs, H2, I2, rz, q2⟩ => ⟨I2.kIn, ?_⟩
  rw [hks]
  by_cases hz : zs.length = ps.length
  · have r2 := hgr hz rz
    have hl : ws.length = ps.length := by rw [← rz.length]; exact hz
    refine wpAny_call (codeAny_mono (F.run X.A X.stack s2 H2 ⟨[], ks.zip ws⟩ (g ws) (gV zs) Q (E σ) hr I2.env0 (hb s2 ws hl) r2 q2) fun r s' hq => ?_)
    cases r with
    | error e => exact hx σ pins H2 s2 e s' I2 hq
    | ok fl =>
      cases fl with
      | ret u => exact I2.after hq
      | next => exact False.elim hq
      | brk => exact False.elim hq
      | cont => exact False.elim hq
  · exact absurd q2 (hnk zs hz _ _ _)
end Dd
/-! Names of built-ins; keyword calls; small things for printed derivations. -/
namespace Dd
open PySem L2

theorem bb_len : bootBuiltins "len" = some (.builtin "len") := by decide +kernel
theorem bb_int : bootBuiltins "int" = some (.type "int") := by decide +kernel
theorem bb_bool : bootBuiltins "bool" = some (.type "bool") := by decide +kernel
theorem bb_str : bootBuiltins "str" = some (.type "str") := by decide +kernel
theorem bb_list : bootBuiltins "list" = some (.type "list") := by decide +kernel
theorem bb_tuple : bootBuiltins "tuple" = some (.type "tuple") := by decide +kernel
theorem bb_dict : bootBuiltins "dict" = some (.type "dict") := by decide +kernel
theorem bb_max : bootBuiltins "max" = some (.builtin "max") := by decide +kernel
theorem bb_min : bootBuiltins "min" = some (.builtin "min") := by decide +kernel
theorem bb_abs : bootBuiltins "abs" = some (.builtin "abs") := by decide +kernel
theorem bb_all : bootBuiltins "all" = some (.builtin "all") := by decide +kernel
theorem bb_any : bootBuiltins "any" = some (.builtin "any") := by decide +kernel
theorem bb_sum : bootBuiltins "sum" = some (.builtin "sum") := by decide +kernel
theorem bb_sorted : bootBuiltins "sorted" = some (.builtin "sorted") := by decide +kernel
theorem bb_isinstance : bootBuiltins "isinstance" = some (.builtin "isinstance") := by decide +kernel

theorem tk_in {X : Cx} {c : Cc} : Takes X (wxOf c.in) := (takes0 (X := X)).imp fun _ _ _ _ ⟨_, _, _, _, _, h⟩ => h
section
variable {X : Cx}
theorem x_eq {k : Nat} (hr : Room k X.A) : OpR X (compareOp .Eq) (fun x y H Q => rEq x y H Q ∨ rEqD X.K x y H Q) := op_eq.or (op_eqD hr.units)
theorem x_ne {k : Nat} (hr : Room k X.A) : OpR X (compareOp .NotEq) (fun x y H Q => rNe x y H Q ∨ rNeD X.K x y H Q) := op_ne.or (op_neD hr.units)
variable {c : Cc} {e : Expr} {m : DE} {a : DA} {kws : List Keyword} {nm : Option Str} {kpos p pos : Pos} {x : Str} {f : Addr} {fd : FuncData} {ps ks : List Str} {F : DF} {n k : Nat}
theorem k_nil : PK X [] (tA c dNil) := ⟨fun pos pins s σ H Q I w => (pk_nil (X := X)).run pos pins s σ H Q I (by
  obtain ⟨Z, ρ, F, S, w⟩ := w
  exact w Z H F [] [] (PostE.refl S) ⟨rfl, rfl⟩ Fresh.nil)⟩
theorem k_cons (he : PE X e (tE c m)) (hr : PK X kws (tA c a)) : PK X (⟨nm, e, kpos⟩ :: kws) (tA c (dCons m a)) := ⟨fun pos pins s σ H Q I w => (pk_cons he hr).run pos pins s σ H Q I (cons_imp w)⟩
/-- arguments put into the parameters' order -/
def permL {α : Type} (π : List Nat) (xs : List α) : List α := π.filterMap fun i => xs[i]?
def dPerm (π : List Nat) (F : DF) : DF := fun ds => if frzL ds = true then F (permL π ds) else .bad
theorem repL_perm {G : Gx} {Z H : Hp} {ds : List D} {vs : List V} (r : RepL G Z H ds vs []) : ∀ π : List Nat, RepL G Z H (permL π ds) (permL π vs) []
  | [] => ⟨rfl, rfl⟩
  | i :: π => by
    have ih := repL_perm r π
    unfold permL at ih ⊢
    rw [List.filterMap_cons, List.filterMap_cons]
    cases h : ds[i]? with
    | none =>
      have h2 : vs[i]? = none := List.getElem?_eq_none_iff.mpr (by rw [← r.length]; exact List.getElem?_eq_none_iff.mp h)
      rw [h2]
      exact ih
    | some d =>
      obtain ⟨v, A, F1, B, g1, g2, g3⟩ := r.get h
      obtain ⟨h1, rfl⟩ := List.append_eq_nil_iff.mp g2.symm
      obtain ⟨rfl, rfl⟩ := List.append_eq_nil_iff.mp h1
      rw [g1]
      exact ⟨v, _, [], [], rfl, rfl, g3, ih⟩
/-- f(a = e, ..), all by keywords -/
theorem e_callK (π : List Nat) (G : FnOk X.prog X.w X.K X.mg X.base (L2.CX X.prog X.w) k f fd ps (spD c.G n false F)) (hr : Room k X.A) (hg : Gl X x) (hm : X.mg x = some (.ref f)) (hk : PySem.W.keepIn X.K (.ref f) = true)
    (hb : ∀ (s : Shared) (ws : List Value), ws.length = ps.length → BindsTo s fd ⟨[], ks.zip ws⟩ (ps.zip (permL π ws))) (hnp : n = ps.length) (tk : Takes X (wxOf c))
    (ha : PK X kws (tA c a)) (hn : LenA a n) (hgl : ∀ {α : Type} (ws : List α), ws.length = n → (permL π ws).length = n) (hall : (backToKw pos (keywordEach kws X.env)).all (·.1.isSome) = true := by rfl) (hks : (backToKw pos (keywordEach kws X.env)).filterMap (·.1) = ks := by rfl)
    (hdb : (x == ("__debug__" : Str)) = false := by decide) (hpl : ((backTo pos (starEach [] X.env)).any (·.1) || (backToKw pos (keywordEach kws X.env)).any (·.1.isNone)) = false := by rfl) :
    PE X (.Call (.Name x p) [] kws pos) (tE c (dCall (dPerm π F) a)) := by
  refine ⟨fun pins s σ H Q I w => ?_⟩
  refine wpAny_Call_Name_kw (ld_glob I hg hm ?_ hdb)
  refine PySem.W.callWith_KW0 (h₀ := X.base) I.ok.mod.kin hk hall ?_ hpl
  have w2 := call_imp (n := n) hn w
  have w3 : tA c a σ H fun vs H1 => spD c.G n false (dPerm π F) vs H1 Q (WE (wxOf c) σ) := w2
  refine thn (ha.run pos pins s σ H _ I w3) fun ws s2 ⟨zs, H2, I2, rz, q2⟩ => ⟨I2.kIn, ?_⟩
  rw [hks]
  obtain ⟨hl, Z, ds, Fp, zh, rl, nd, nz, q3⟩ := q2
  unfold dPerm at q3
  by_cases hf : frzL ds = true
  · rw [if_pos hf] at q3
    have e0 := rl.frz_nil hf
    subst e0
    have rp := repL_perm rl π
    have hlw : ws.length = ps.length := by rw [← rz.length, hl, hnp]
    have rv : ∀ π : List Nat, Vals (permL π zs) (permL π ws) := fun π => by
      induction π with
      | nil => exact .nil
      | cons i π ih =>
        unfold permL at ih ⊢
        rw [List.filterMap_cons, List.filterMap_cons]
        cases h : zs[i]? with
        | none =>
          rw [rz.none_of h]
          exact ih
        | some d =>
          obtain ⟨u, h1, h2⟩ := rz.get h
          rw [h1]
          exact .cons h2 ih
    have q4 : spD c.G n false F (permL π zs) H2 Q (WE (wxOf c) σ) := ⟨hgl zs hl, Z, _, [], zh, rp, List.nodup_nil, by simp, q3⟩
    refine wpAny_call (codeAny_mono (G.run X.A X.stack s2 H2 ⟨[], ks.zip ws⟩ (permL π ws) (permL π zs) Q (WE (wxOf c) σ) hr I2.env0 (hb s2 ws hlw) (rv π) q4) fun r s' hq => ?_)
    cases r with
    | error e => exact passAt tk σ pins H2 s2 e s' I2 hq
    | ok fl =>
      cases fl with
      | ret u => exact I2.after hq
      | next => exact False.elim hq
      | brk => exact False.elim hq
      | cont => exact False.elim hq
  · rw [if_neg hf] at q3
    exact q3.elim
theorem _root_.L2.Fun.bindsK {K : PySem.W.Frag} {x qual : Str} {st : Stmt} {f : Addr} {fd : FuncData} {ps ks : List Str} {π : List Nat} (F : Fun K x qual st f fd)
    (h : ∀ (kV doc pm : Value) (an : Option Addr) (cdv ct : Value) (us : List Value), us.length = ps.length → bindArgs (PySem.W.fnOf x qual (defArgs st) (defBody st) (defScope st) .none kV doc pm an cdv ct) ⟨[], ks.zip us⟩ = pure (ps.zip (permL π us))) : ∀ (s : Shared) (ws : List Value), ws.length = ps.length → BindsTo s fd ⟨[], ks.zip ws⟩ (ps.zip (permL π ws)) := by
  obtain ⟨oc, od, kV, doc, pm, an, cdv, ct, osl, rfl, lk, hcd⟩ := F.ex
  exact fun s ws hl => .of_eq (h kV doc pm an cdv ct ws hl)
end
end Dd
/-! The end: what the top leaves, by names; a law from what its def computes. -/
namespace Dd
open PySem L2
def mkD (x : Str) (st : Stmt) : He.DefD := ⟨(x, none), x, x, defArgs st, defBody st, defScope st, [], []⟩
/-- the def of that name -/
def Got (K : PySem.W.Frag) (x : Str) (st : Stmt) (fd : FuncData) : Prop := FunD K x x (defArgs st) (defBody st) (defScope st) [] [] (He.ga K x) fd
theorem got {fa : List He.Fa} {fn : List He.DefD} {K : PySem.W.Frag} (c : He.SaysD fa fn K) (i : Nat) {x : Str} {st : Stmt} (h : fn[i]? = some (mkD x st)) : ∃ fd, Got K x st fd := c.def_ i h
theorem Got.fun {K : PySem.W.Frag} {x : Str} {st : Stmt} {fd : FuncData} (F : Got K x st fd) : Fun K x x st (He.ga K x) fd := by
  obtain ⟨oc, od, dV, kV, doc, pm, an, cdv, ct, osl, e, lk, hcd, hD, hK⟩ := F.ex
  rcases hD with ⟨_, rfl⟩ | ⟨z, _⟩
  · exact ⟨⟨oc, od, kV, doc, pm, an, cdv, ct, osl, e, lk, hcd⟩, F.kp⟩
  · exact absurd rfl z
theorem exc_ga {K : PySem.W.Frag} {h : Heap} {mg : Str → Option Value} (X : K.In h) (G : h.Ns mainGlobals mg) {x : Str} (c : (He.Fa.glo x).ok K = true) (e : (He.Fa.exc x).ok K = true) : ExcT K mg x (He.ga K x) := by
  obtain ⟨_, h2, h3, h4⟩ := He.exc_ok e
  exact ⟨He.glo_ok X G c, h2, h3, h4⟩
/-- the promise of a law -/
def spHold (K : PySem.W.Frag) (n : Nat) : Sp := fun vs H Q _ => ∃ (a : Addr) (ns : List Int), vs = [.ref a] ∧ SqL K H a (ns.map V.int) ∧ ns.length ≤ n ∧ (∀ z ∈ ns, Builtin.Int.intBits z ≤ 1048576) ∧ ∀ H', Q (.bl true) H'
theorem repL_ints {G : Gx} {Z H : Hp} : ∀ ns : List Int, RepL G Z H (ns.map D.int) (ns.map V.int) []
  | [] => ⟨rfl, rfl⟩
  | n :: ns => ⟨.int n, ns.map V.int, [], [], rfl, rfl, ⟨rfl, rfl⟩, repL_ints ns⟩
theorem law_ok {P : Program} {w : World} {K : PySem.W.Frag} {mg : Str → Option Value} {base : Heap} {CX : CXT} {k n : Nat} {f : Addr} {fd : FuncData} {F : DF}
    (h : ∀ ns : List Int, ns.length ≤ n → (∀ z ∈ ns, Builtin.Int.intBits z ≤ 1048576) → F [D.fl (ns.map D.int)] = .ok (.bl true) [])
    (O : FnOk P w K mg base CX k f fd ["script"] (spD (gx K mg) 1 false F)) : FnOk P w K mg base CX k f fd ["script"] (spHold K n) :=
  O.imp fun vs H Q E ⟨a, ns, hv, hS, hl, hb, q⟩ => by
    subst hv
    refine ⟨rfl, H, [D.fl (ns.map D.int)], [], Ex.refl H, ?_, List.nodup_nil, (fun a ha => nomatch ha), ?_⟩
    · refine ⟨.ref a, [], [], [], rfl, rfl, ?_, rfl, rfl⟩
      exact ⟨a, ns.map V.int, [], rfl, repL_ints ns, fun _ => ⟨rfl, hS, .inr rfl⟩, fun z => nomatch z⟩
    · rw [h ns hl hb]
      intro Z' H' Fo v Gr _ _ _ _ r _
      rw [show v = .bl true from r.1]
      exact q H'
/-- from the top to the law's def -/
theorem walk_law {l : PySem.W.OpenLaw} {m lv : Nat} {q : Program} {lo : List Str} {XQ : (Str → Option Value) → Heap → Prop} {YQ : World → Heap → Prop} {dr : DefRec}
    (h1 : l.most = some m) (h2 : m ≤ sizeLine) (h3 : dr.params.defaults = []) (h4 : Room lv callerA)
    (h5 : ∀ (w : World) (mg : Str → Option Value) (fa : Addr) (hp : Heap), YQ w hp → hp.Ns mainGlobals mg → mg dr.name = some (.ref fa) →
      ∃ (K : PySem.W.Frag) (fd : FuncData), K.In hp ∧ (∀ (s : Shared) (u : Value), BindsTo s fd ⟨[u], []⟩ [("script", u)]) ∧
        ∀ base : Heap, K.In base → base.Ns mainGlobals mg → FnOk l.prog w K mg base (L2.CX l.prog w) lv fa fd ["script"] (spHold K m)) :
    PySem.W.WalkO q lo XQ YQ l.row.toRowW dr [] (fun f vs => PySem.call f vs) := by
  refine Att.attach_callB h1 h3 fun w s0 s1 mg mb fa o pm cd doc a vs ns G Y _ _ _ hmg hobj hints hlen hbits hg => ?_
  obtain ⟨K, fd, KX, hb, hF⟩ := h5 w mg fa _ Y G.T.g hmg
  exact law_call KX G.T.g G.T.b G.T.builtins G.T.nolimit hg hobj hints (Nat.le_trans hlen h2) h4 hF hb
    (fun H _ hS => ⟨a, ns, rfl, hS, hlen, hbits, fun _ => rfl⟩) (fun H e s' z => by
      obtain ⟨_, _, _, _, _, _, _, _, _, _, _, _, z⟩ := z
      exact z)
end Dd
/-! Mirrors are evaluated by simp. -/
namespace Dd
open PySem L2
section
variable (ρ : Env) (a b k : DE) (t u : DT) (s r : DS) (as : DA) (f g : D → D → Option (Bool × D)) (h : D → Option (Bool × D)) (i : Nat) (d : D) (ds : List D)
@[simp] theorem v_seq : dSeq s r ρ = match s ρ with | .nx ρ1 => r ρ1 | z => z := rfl
@[simp] theorem v_var : dVar i ρ = match ρ[i]? with | some (some d) => .ok false d false ρ | _ => .bad := rfl
@[simp] theorem v_fz : dFz i ρ = match ρ[i]? with | some (some d) => if frz d = true then .ok true d false ρ else .ok true (fz d) true (ρ.set i (some (fz d))) | _ => .bad := rfl
@[simp] theorem v_mv : dMv i ρ = match ρ[i]? with | some (some d) => .ok true d true (ρ.set i none) | _ => .bad := rfl
@[simp] theorem v_c : dC d ρ = .ok true d false ρ := rfl
@[simp] theorem v_pass : dPass ρ = .nx ρ := rfl
@[simp] theorem v_brk : dBrk ρ = .bk ρ := rfl
@[simp] theorem v_cnt : dCnt ρ = .ct ρ := rfl
@[simp] theorem v_retN : dRetN ρ = .rt .non ρ := rfl
@[simp] theorem v_raise (x : Str) : dRaise x ρ = .ex x [] ρ := rfl
@[simp] theorem v_nil : dNil ρ = .ok true [] false ρ := rfl
@[simp] theorem v_yes : dYes ρ = .ok true true false ρ := rfl
@[simp] theorem v_no : dNo ρ = .ok true none false ρ := rfl
@[simp] theorem v_int (C : Int → Int → Bool) (p : Int → Int → D) (x y : Int) : fInt C p (.int x) (.int y) = if C x y = true then some (true, p x y) else none := rfl
@[simp] theorem v_add (x y : Int) : fAdd (.int x) (.int y) = some (true, .int (x + y)) := rfl
@[simp] theorem v_plus (x y : Int) : fPlus (.int x) (.int y) = some (true, .int (x + y)) := rfl
@[simp] theorem v_sub (x y : Int) : fSub (.int x) (.int y) = some (true, .int (x - y)) := rfl
@[simp] theorem v_mul (x y : Int) : fMul (.int x) (.int y) = if okMul x y = true then some (true, .int (x * y)) else none := rfl
@[simp] theorem v_mod (x y : Int) : fMod (.int x) (.int y) = if 0 < y then some (true, .int (x % y)) else none := by
  show (if decide (0 < y) = true then _ else _) = _
  simp only [decide_eq_true_eq]
@[simp] theorem v_divW (x y : Int) : fDivW (.int x) (.int y) = if 0 < y ∧ y.natAbs < 18446744073709551616 then some (true, .int (x / y)) else none := by
  show (if decide (0 < y ∧ y.natAbs < 2 ^ 64) = true then _ else _) = _
  simp only [decide_eq_true_eq] <;> rfl
@[simp] theorem v_cmp (p : Int → Int → Bool) (x y : Int) : fCmp p (.int x) (.int y) = some (true, .bl (p x y)) := rfl
@[simp] theorem v_max (x y : Int) : fMax2 (.int x) (.int y) = some (true, .int (if y > x then y else x)) := rfl
@[simp] theorem v_min (x y : Int) : fMin2 (.int x) (.int y) = some (true, .int (if y < x then y else x)) := rfl
@[simp] theorem v_bind1 (f : D → Option (Bool × D)) (a : DE) (ρ : Env) : bind1 f a ρ = match a ρ with
  | .ok f1 x e1 ρ1 => (match f x with | some (fr, z) => .ok fr z e1 ρ1 | none => .bad)
  | .ex c xs ρ1 => .ex c xs ρ1
  | .bad => .bad := rfl
@[simp] theorem v_bind2 (f : D → D → Option (Bool × D)) (a b : DE) (ρ : Env) : bind2 f a b ρ = match a ρ with
  | .ok f1 x e1 ρ1 => (match b ρ1 with
    | .ok f2 y e2 ρ2 => if (!e2 || f1 || frz x) = true then (match f x y with | some (fr, z) => .ok fr z (e1 || e2) ρ2 | none => .bad) else .bad
    | .ex c xs ρ2 => .ex c xs ρ2
    | .bad => .bad)
  | .ex c xs ρ1 => .ex c xs ρ1
  | .bad => .bad := rfl
@[simp] theorem v_dCons (m : DE) (r : DA) (ρ : Env) : dCons m r ρ = match m ρ with
  | .ok f1 x e1 ρ1 => if (f1 || frz x) = true then (match r ρ1 with
    | .ok _ xs e2 ρ2 => .ok true (x :: xs) (e1 || e2) ρ2
    | .ex c ys ρ2 => .ex c ys ρ2
    | .bad => .bad) else .bad
  | .ex c xs ρ1 => .ex c xs ρ1
  | .bad => .bad := rfl
@[simp] theorem v_dBox (own : Bool) (k : Kd) (a : DA) (ρ : Env) : dBox own k a ρ = match a ρ with
  | .ok _ xs e ρ1 => if xs.length ≤ 1000000 then .ok true (.box own k xs) e ρ1 else .bad
  | .ex c xs ρ1 => .ex c xs ρ1
  | .bad => .bad := rfl
@[simp] theorem v_dAt (m : DE) (ρ : Env) : dAt m ρ = match m ρ with
  | .ok _ (.int i) e ρ1 => .ok true (some i) e ρ1
  | .ok _ _ _ _ => .bad
  | .ex c xs ρ1 => .ex c xs ρ1
  | .bad => .bad := rfl
@[simp] theorem v_dSl (m : DE) (lo hi : DO) (ρ : Env) : dSl m lo hi ρ = match m ρ with
  | .ok f1 x e1 ρ1 => (match lo ρ1 with
    | .ok _ l e2 ρ2 => (match hi ρ2 with
      | .ok _ h e3 ρ3 => if (!(e2 || e3) || f1 || frz x) = true then (match fSl x l h with | some (fr, z) => .ok fr z (e1 || (e2 || e3)) ρ3 | none => .bad) else .bad
      | .ex c xs ρ3 => .ex c xs ρ3
      | .bad => .bad)
    | .ex c xs ρ2 => .ex c xs ρ2
    | .bad => .bad)
  | .ex c xs ρ1 => .ex c xs ρ1
  | .bad => .bad := rfl
@[simp] theorem v_dT (m : DE) (ρ : Env) : dT m ρ = match m ρ with
  | .ok _ x e ρ1 => (match truthD x with | some b => .ok true b e ρ1 | none => .bad)
  | .ex c xs ρ1 => .ex c xs ρ1
  | .bad => .bad := rfl
@[simp] theorem v_dAnd (a b : DT) (ρ : Env) : dAnd a b ρ = match a ρ with
  | .ok _ x e ρ1 => if x = true then (match b ρ1 with
    | .ok _ y e2 ρ2 => .ok true y (e || e2) ρ2
    | .ex c xs ρ2 => .ex c xs ρ2
    | .bad => .bad) else .ok true false e ρ1
  | .ex c xs ρ1 => .ex c xs ρ1
  | .bad => .bad := rfl
@[simp] theorem v_dOr (a b : DT) (ρ : Env) : dOr a b ρ = match a ρ with
  | .ok _ x e ρ1 => if x = true then .ok true true e ρ1 else (match b ρ1 with
    | .ok _ y e2 ρ2 => .ok true y (e || e2) ρ2
    | .ex c xs ρ2 => .ex c xs ρ2
    | .bad => .bad)
  | .ex c xs ρ1 => .ex c xs ρ1
  | .bad => .bad := rfl
@[simp] theorem v_dNot (a : DT) (ρ : Env) : dNot a ρ = match a ρ with
  | .ok _ x e ρ1 => .ok true (!x) e ρ1
  | .ex c xs ρ1 => .ex c xs ρ1
  | .bad => .bad := rfl
@[simp] theorem v_dAndV (a b : DE) (ρ : Env) : dAndV a b ρ = match a ρ with
  | .ok _ (.bl true) e ρ1 => (match b ρ1 with
    | .ok f y e2 ρ2 => .ok f y (e || e2) ρ2
    | .ex c xs ρ2 => .ex c xs ρ2
    | .bad => .bad)
  | .ok _ (.bl false) e ρ1 => .ok true (.bl false) e ρ1
  | .ok _ _ _ _ => .bad
  | .ex c xs ρ1 => .ex c xs ρ1
  | .bad => .bad := rfl
@[simp] theorem v_dOrV (a b : DE) (ρ : Env) : dOrV a b ρ = match a ρ with
  | .ok _ (.bl false) e ρ1 => (match b ρ1 with
    | .ok f y e2 ρ2 => .ok f y (e || e2) ρ2
    | .ex c xs ρ2 => .ex c xs ρ2
    | .bad => .bad)
  | .ok _ (.bl true) e ρ1 => .ok true (.bl true) e ρ1
  | .ok _ _ _ _ => .bad
  | .ex c xs ρ1 => .ex c xs ρ1
  | .bad => .bad := rfl
@[simp] theorem v_dNotV (a : DE) (ρ : Env) : dNotV a ρ = match a ρ with
  | .ok _ (.bl b) e ρ1 => .ok true (.bl (!b)) e ρ1
  | .ok _ _ _ _ => .bad
  | .ex c xs ρ1 => .ex c xs ρ1
  | .bad => .bad := rfl
@[simp] theorem v_dChain (f g : D → D → Option (Bool × D)) (a b k : DE) (ρ : Env) : dChain f g a b k ρ = match a ρ with
  | .ok f1 x e1 ρ1 => (match b ρ1 with
    | .ok f2 y e2 ρ2 => if (!e2 || f1 || frz x) = true then (match f x y with
      | some (_, .bl true) => (match k ρ2 with
        | .ok f3 z e3 ρ3 => if (!e3 || f2 || frz y) = true then (match g y z with | some (fr, d) => .ok fr d ((e1 || e2) || e3) ρ3 | none => .bad) else .bad
        | .ex c xs ρ3 => .ex c xs ρ3
        | .bad => .bad)
      | some (_, .bl false) => .ok true (.bl false) (e1 || e2) ρ2
      | _ => .bad) else .bad
    | .ex c xs ρ2 => .ex c xs ρ2
    | .bad => .bad)
  | .ex c xs ρ1 => .ex c xs ρ1
  | .bad => .bad := rfl
@[simp] theorem v_dIfE (t : DT) (a b : DE) (ρ : Env) : dIfE t a b ρ = match t ρ with
  | .ok _ x e ρ1 => (match (if x = true then a else b) ρ1 with
    | .ok f y e2 ρ2 => .ok f y (e || e2) ρ2
    | .ex c xs ρ2 => .ex c xs ρ2
    | .bad => .bad)
  | .ex c xs ρ1 => .ex c xs ρ1
  | .bad => .bad := rfl
@[simp] theorem v_dCall (F : DF) (a : DA) (ρ : Env) : dCall F a ρ = match a ρ with
  | .ok _ ds e ρ1 => (match F ds with
    | .ok d [] => .ok true d e ρ1
    | .ok _ _ => .bad
    | .ex x [] => .ex x [] ρ1
    | .ex _ _ => .bad
    | .bad => .bad)
  | .ex c xs ρ1 => .ex c xs ρ1
  | .bad => .bad := rfl
@[simp] theorem v_dCallL (F : DF) (i : Nat) (a : DA) (ρ : Env) : dCallL F i a ρ = match ρ[i]? with
  | some (some _) => (match a ρ with
    | .ok _ ds e ρ1 => (match ρ1[i]? with
      | some (some d0) => (match F (d0 :: ds) with
        | .ok d [d1] => .ok true d true (ρ1.set i (some d1))
        | .ok _ _ => .bad
        | .ex x [d1] => .ex x [] (ρ1.set i (some d1))
        | .ex _ _ => .bad
        | .bad => .bad)
      | _ => .bad)
    | .ex c xs ρ1 => .ex c xs ρ1
    | .bad => .bad)
  | _ => .bad := rfl
@[simp] theorem v_dDrop (m : DE) (ρ : Env) : dDrop m ρ = match m ρ with
  | .ok _ _ _ ρ1 => .nx ρ1
  | .ex c xs ρ1 => .ex c xs ρ1
  | .bad => .bad := rfl
@[simp] theorem v_dAsg (i : Nat) (m : DE) (ρ : Env) : dAsg i m ρ = match m ρ with
  | .ok f d _ ρ1 => if (f || frz d) = true then (if i < ρ1.length then .nx (ρ1.set i (some d)) else .bad) else .bad
  | .ex c xs ρ1 => .ex c xs ρ1
  | .bad => .bad := rfl
@[simp] theorem v_dRet (m : DE) (ρ : Env) : dRet m ρ = match m ρ with
  | .ok f d _ ρ1 => if (f || frz d) = true then .rt d ρ1 else .bad
  | .ex c xs ρ1 => .ex c xs ρ1
  | .bad => .bad := rfl
@[simp] theorem v_dIf (t : DT) (a b : DS) (ρ : Env) : dIf t a b ρ = match t ρ with
  | .ok _ x _ ρ1 => if x = true then a ρ1 else b ρ1
  | .ex c xs ρ1 => .ex c xs ρ1
  | .bad => .bad := rfl
@[simp] theorem v_dAug (i : Nat) (g : Int → Int → Int) (m : DE) (ρ : Env) : dAug i g m ρ = match ρ[i]? with
  | some (some (.int a)) => (match m ρ with
    | .ok _ (.int b) _ ρ1 => if i < ρ1.length then .nx (ρ1.set i (some (.int (g a b)))) else .bad
    | .ok _ _ _ _ => .bad
    | .ex c xs ρ1 => .ex c xs ρ1
    | .bad => .bad)
  | _ => .bad := rfl
@[simp] theorem v_dAsgT (is : List Nat) (m : DE) (ρ : Env) : dAsgT is m ρ = match m ρ with
  | .ok f d _ ρ1 => if (f || frz d) = true then (match d with
    | .box _ .tup ds => (match setAll is ds ρ1 with | some ρ2 => .nx ρ2 | none => .bad)
    | _ => .bad) else .bad
  | .ex c xs ρ1 => .ex c xs ρ1
  | .bad => .bad := rfl
@[simp] theorem v_dApp (i : Nat) (m : DE) (ρ : Env) : dApp i m ρ = match ρ[i]? with
  | some (some (.box true .lst _)) => (match m ρ with
    | .ok f d _ ρ1 => if (f || frz d) = true then (match ρ1[i]? with
      | some (some (.box true .lst ds)) => if ds.length < 1000000 then .nx (ρ1.set i (some (.box true .lst (ds ++ [d])))) else .bad
      | _ => .bad) else .bad
    | .ex c xs ρ1 => .ex c xs ρ1
    | .bad => .bad)
  | _ => .bad := rfl
@[simp] theorem v_dSetI (i : Nat) (mk me : DE) (ρ : Env) : dSetI i mk me ρ = match ρ[i]? with
  | some (some _) => (match me ρ with
    | .ok f d e1 ρ1 => if (f || frz d) = true then (match mk ρ1 with
      | .ok _ (.int k) e2 ρ2 => (match ρ2[i]? with
        | some (some (.box true .lst ds)) => (match ixN ds.length k with
          | some j => .nx (ρ2.set i (some (.box true .lst (ds.set j d))))
          | none => .bad)
        | _ => .bad)
      | .ok _ _ _ _ => .bad
      | .ex c xs ρ2 => .ex c xs ρ2
      | .bad => .bad) else .bad
    | .ex c xs ρ1 => .ex c xs ρ1
    | .bad => .bad)
  | _ => .bad := rfl
@[simp] theorem v_dPopAt (i : Nat) (mk : DE) (ρ : Env) : dPopAt i mk ρ = match ρ[i]? with
  | some (some (.box true .lst _)) => (match mk ρ with
    | .ok _ (.int k) _ ρ1 => (match ρ1[i]? with
      | some (some (.box true .lst ds)) => if ds.length < 1000000 then (match ixN ds.length k with
        | some j => (match ds[j]? with
          | some d => .ok true d true (ρ1.set i (some (.box true .lst (ds.eraseIdx j))))
          | none => .bad)
        | none => .bad) else .bad
      | _ => .bad)
    | .ok _ _ _ _ => .bad
    | .ex c xs ρ1 => .ex c xs ρ1
    | .bad => .bad)
  | _ => .bad := rfl
@[simp] theorem v_dItems (m : DE) (ρ : Env) : dItems m ρ = match m ρ with
  | .ok f (.box own .lst ds) e ρ1 => if ((f || !own) && frzL ds) = true then .ok true ds e ρ1 else .bad
  | .ok _ (.box _ .tup ds) e ρ1 => if frzL ds = true then .ok true ds e ρ1 else .bad
  | .ok _ _ _ _ => .bad
  | .ex c xs ρ1 => .ex c xs ρ1
  | .bad => .bad := rfl
@[simp] theorem v_dRange1 (a : DA) (ρ : Env) : dRange1 a ρ = match a ρ with
  | .ok _ [.int n] e ρ1 => if okR n = true then .ok true (rangeD 0 n.toNat) e ρ1 else .bad
  | .ok _ _ _ _ => .bad
  | .ex c xs ρ1 => .ex c xs ρ1
  | .bad => .bad := rfl
@[simp] theorem v_dRange2 (a : DA) (ρ : Env) : dRange2 a ρ = match a ρ with
  | .ok _ [.int i, .int n] e ρ1 => if (okR i && okR n) = true then .ok true (rangeD i (n - i).toNat) e ρ1 else .bad
  | .ok _ _ _ _ => .bad
  | .ex c xs ρ1 => .ex c xs ρ1
  | .bad => .bad := rfl
@[simp] theorem v_dFor (it : DI) (t : Tg) (body : DS) (ρ : Env) : dFor it t body ρ = match it ρ with
  | .ok _ ds _ ρ1 => forLoop t body ds ρ1
  | .ex c xs ρ1 => .ex c xs ρ1
  | .bad => .bad := rfl
@[simp] theorem v_dLc (it : DI) (t : Tg) (test : DT) (elt : DE) (vs : List Nat) (ρ : Env) : dLc it t test elt vs ρ = match it ρ with
  | .ok _ ds e ρ1 => (match lcLoop t test elt vs ds [] false (wipeE ρ1 vs) with
    | .ok _ acc eff ρ2 => .ok true (.box true .lst acc) (e || eff) (if eff = true then ρ2 else ρ1)
    | _ => .bad)
  | .ex c xs ρ1 => .ex c xs ρ1
  | .bad => .bad := rfl
@[simp] theorem v_run (ln : Bool) (n : Nat) (m : DS) (ds : List D) : runD ln n m ds = match m (ds.map some ++ List.replicate (n - ds.length) none) with
  | .rt d ρ => if ln = true then (match ρ[0]? with | some (some d0) => .ok d [d0] | _ => .bad) else .ok d []
  | .nx ρ => if ln = true then (match ρ[0]? with | some (some d0) => .ok .non [d0] | _ => .bad) else .ok .non []
  | .ex x [] ρ => if ln = true then (match ρ[0]? with | some (some d0) => .ex x [d0] | _ => .bad) else .ex x []
  | _ => .bad := rfl
@[simp] theorem v_tgN (i : Nat) (d : D) (ρ : Env) : tgN i d ρ = if i < ρ.length then some (ρ.set i (some d)) else none := rfl
@[simp] theorem v_tgT (is : List Nat) (o : Bool) (ds : List D) (ρ : Env) : tgT is (.box o .tup ds) ρ = setAll is ds ρ := rfl
@[simp] theorem v_set0 (ρ : Env) : setAll [] [] ρ = some ρ := rfl
@[simp] theorem v_set1 (i : Nat) (is : List Nat) (d : D) (ds : List D) (ρ : Env) : setAll (i :: is) (d :: ds) ρ = if i < ρ.length then setAll is ds (ρ.set i (some d)) else none := rfl
@[simp] theorem v_is (x : D) : fIs x .non = some (true, .bl (isNon x)) := rfl
@[simp] theorem v_isN (x : D) : fIsNot x .non = some (true, .bl (!isNon x)) := rfl
@[simp] theorem v_nn : isNon .non = true := rfl
@[simp] theorem v_nb (b : Bool) : isNon (.bl b) = false := rfl
@[simp] theorem v_ni (b : Int) : isNon (.int b) = false := rfl
@[simp] theorem v_ns (b : Str) : isNon (.str b) = false := rfl
@[simp] theorem v_nx (o : Bool) (k : Kd) (ds : List D) : isNon (.box o k ds) = false := rfl
@[simp] theorem v_int1 (i : Int) : fInt1 (.int i) = some (true, .int i) := rfl
@[simp] theorem v_intb (b : Bool) : fInt1 (.bl b) = some (true, .int (if b then 1 else 0)) := rfl
@[simp] theorem v_abs (i : Int) : fAbs (.int i) = some (true, .int (if i < 0 then -i else i)) := rfl
@[simp] theorem v_neg (i : Int) : fNeg (.int i) = some (true, .int (-i)) := rfl
@[simp] theorem v_lenT (o : Bool) (ds : List D) : fLen (.box o .tup ds) = some (true, .int (ds.length : Int)) := rfl
@[simp] theorem v_lenL (o : Bool) (ds : List D) : fLen (.box o .lst ds) = some (true, .int (ds.length : Int)) := rfl
@[simp] theorem v_ixT (o : Bool) (ds : List D) (i : Int) : fIx (.box o .tup ds) (.int i) = (atI ds i).map fun d => (frz d, d) := rfl
@[simp] theorem v_ixL (o : Bool) (ds : List D) (i : Int) : fIx (.box o .lst ds) (.int i) = (atI ds i).map fun d => (frz d, d) := rfl
@[simp] theorem v_toT (o : Bool) (ds : List D) : fTupOf (.box o .tup ds) = if frzL ds = true then some (true, .box false .tup ds) else none := rfl
@[simp] theorem v_toL (o : Bool) (ds : List D) : fTupOf (.box o .lst ds) = if frzL ds = true then some (true, .box false .tup ds) else none := rfl
@[simp] theorem v_loT (o : Bool) (ds : List D) : fLstOf (.box o .tup ds) = if frzL ds = true then some (true, .box true .lst ds) else none := rfl
@[simp] theorem v_loL (o : Bool) (ds : List D) : fLstOf (.box o .lst ds) = if frzL ds = true then some (true, .box true .lst ds) else none := rfl
@[simp] theorem v_slT (o : Bool) (ds : List D) (x y : Option Int) : fSl (.box o .tup ds) x y = if frzL ds = true then some (true, .box false .tup (cutG ds x y)) else none := rfl
@[simp] theorem v_slL (o : Bool) (ds : List D) (x y : Option Int) : fSl (.box o .lst ds) x y = if frzL ds = true then some (true, .box true .lst (cutG ds x y)) else none := rfl
@[simp] theorem v_tN (n : Ty) : fIsi n .non = some (true, .bl (isi .non n)) := rfl
@[simp] theorem v_tB (n : Ty) (b : Bool) : fIsi n (.bl b) = some (true, .bl (isi .bool n)) := rfl
@[simp] theorem v_tI (n : Ty) (b : Int) : fIsi n (.int b) = some (true, .bl (isi .int n)) := rfl
@[simp] theorem v_tS (n : Ty) (b : Str) : fIsi n (.str b) = some (true, .bl (isi .str n)) := rfl
@[simp] theorem v_tT (n : Ty) (o : Bool) (ds : List D) : fIsi n (.box o .tup ds) = some (true, .bl (isi .tup n)) := rfl
@[simp] theorem v_tL (n : Ty) (o : Bool) (ds : List D) : fIsi n (.box o .lst ds) = some (true, .bl (isi .lst n)) := rfl
@[simp] theorem v_uN : truthD .non = some false := rfl
@[simp] theorem v_uB (b : Bool) : truthD (.bl b) = some b := rfl
@[simp] theorem v_uI (i : Int) : truthD (.int i) = some (i != 0) := rfl
@[simp] theorem v_uT (o : Bool) (ds : List D) : truthD (.box o .tup ds) = some (!ds.isEmpty) := rfl
@[simp] theorem v_uL (o : Bool) (ds : List D) : truthD (.box o .lst ds) = some (!ds.isEmpty) := rfl
@[simp] theorem v_fN : frz .non = true := rfl
@[simp] theorem v_fB (b : Bool) : frz (.bl b) = true := rfl
@[simp] theorem v_fI (b : Int) : frz (.int b) = true := rfl
@[simp] theorem v_fS (b : Str) : frz (.str b) = true := rfl
@[simp] theorem v_fX (o : Bool) (k : Kd) (ds : List D) : frz (.box o k ds) = (!o && frzL ds) := rfl
@[simp] theorem v_fL0 : frzL [] = true := rfl
@[simp] theorem v_fL1 (d : D) (ds : List D) : frzL (d :: ds) = (frz d && frzL ds) := rfl
@[simp] theorem v_zX (o : Bool) (k : Kd) (ds : List D) : fz (.box o k ds) = .box false k (fzL ds) := rfl
@[simp] theorem v_zI (i : Int) : fz (.int i) = .int i := rfl
@[simp] theorem v_zL0 : fzL [] = [] := rfl
@[simp] theorem v_zL1 (d : D) (ds : List D) : fzL (d :: ds) = fz d :: fzL ds := rfl
@[simp] theorem frzL_ints : ∀ l : List Int, frzL (l.map D.int) = true
  | [] => rfl
  | a :: l => by
    show (frz (D.int a) && frzL (l.map D.int)) = true
    rw [frzL_ints l] <;> rfl
@[simp] theorem fzL_ints : ∀ l : List Int, fzL (l.map D.int) = l.map D.int
  | [] => rfl
  | a :: l => by
    show fz (D.int a) :: fzL (l.map D.int) = _
    rw [fzL_ints l] <;> rfl
@[simp] theorem frzL_app (l r : List D) : frzL (l ++ r) = (frzL l && frzL r) := by
  induction l with
  | nil => rfl
  | cons a l ih => simp [ih, Bool.and_assoc]
theorem at_lit {α : Type} (xs : List α) (i : Nat) : atI xs (i : Int) = xs[i]? := by
  cases h : xs[i]? with
  | some x => exact atI_nat h
  | none =>
    have h2 : xs.length ≤ i := List.getElem?_eq_none_iff.mp h
    unfold atI ixN
    rw [if_pos (Int.natCast_nonneg i), if_neg (by omega)]
    rfl
theorem ix_lit (n i : Nat) : ixN n (i : Int) = if i < n then some i else none := by
  unfold ixN
  rw [if_pos (Int.natCast_nonneg i)]
  by_cases h : i < n
  · rw [if_pos h, if_pos (by omega)] <;> simp
  · rw [if_neg h, if_neg (by omega)]
@[simp] theorem v_at0 {α : Type} (xs : List α) : atI xs 0 = xs[0]? := at_lit xs 0
@[simp] theorem v_ix0 (n : Nat) : ixN n 0 = if 0 < n then some 0 else none := ix_lit n 0
@[simp] theorem v_at1 {α : Type} (xs : List α) : atI xs 1 = xs[1]? := at_lit xs 1
@[simp] theorem v_ix1 (n : Nat) : ixN n 1 = if 1 < n then some 1 else none := ix_lit n 1
@[simp] theorem v_at2 {α : Type} (xs : List α) : atI xs 2 = xs[2]? := at_lit xs 2
@[simp] theorem v_ix2 (n : Nat) : ixN n 2 = if 2 < n then some 2 else none := ix_lit n 2
@[simp] theorem v_at3 {α : Type} (xs : List α) : atI xs 3 = xs[3]? := at_lit xs 3
@[simp] theorem v_ix3 (n : Nat) : ixN n 3 = if 3 < n then some 3 else none := ix_lit n 3
@[simp] theorem v_at4 {α : Type} (xs : List α) : atI xs 4 = xs[4]? := at_lit xs 4
@[simp] theorem v_ix4 (n : Nat) : ixN n 4 = if 4 < n then some 4 else none := ix_lit n 4
@[simp] theorem v_at5 {α : Type} (xs : List α) : atI xs 5 = xs[5]? := at_lit xs 5
@[simp] theorem v_ix5 (n : Nat) : ixN n 5 = if 5 < n then some 5 else none := ix_lit n 5
@[simp] theorem v_at6 {α : Type} (xs : List α) : atI xs 6 = xs[6]? := at_lit xs 6
@[simp] theorem v_ix6 (n : Nat) : ixN n 6 = if 6 < n then some 6 else none := ix_lit n 6
@[simp] theorem v_at7 {α : Type} (xs : List α) : atI xs 7 = xs[7]? := at_lit xs 7
@[simp] theorem v_ix7 (n : Nat) : ixN n 7 = if 7 < n then some 7 else none := ix_lit n 7
@[simp] theorem v_wipe0 (ρ : Env) : wipeE ρ [] = ρ := rfl
@[simp] theorem v_wipe1 (ρ : Env) (v : Nat) (vs : List Nat) : wipeE ρ (v :: vs) = (wipeE ρ vs).set v none := rfl
theorem fzL_of : ∀ l : List D, frzL l = true → fzL l = l
  | [], _ => rfl
  | d :: l, h => by
    have h : (frz d && frzL l) = true := h
    obtain ⟨h1, h2⟩ := Bool.and_eq_true_iff.mp h
    show fz d :: fzL l = d :: l
    rw [fzL_of l h2]
    cases d with
    | box o k es =>
      have h1 : (!o && frzL es) = true := h1
      obtain ⟨h3, h4⟩ := Bool.and_eq_true_iff.mp h1
      show D.box false k (fzL es) :: l = _
      rw [fzL_of es h4]
      cases o with
      | false => rfl
      | true => cases h3
    | _ => rfl
/-- a loop by an invariant -/
theorem for_ind {t : Tg} {body : DS} (I : List D → Env → Prop) (step : ∀ d ds ρ, I (d :: ds) ρ → ∃ ρ1 ρ2, t d ρ = some ρ1 ∧ body ρ1 = .nx ρ2 ∧ I ds ρ2) : ∀ (ds : List D) (ρ : Env), I ds ρ → ∃ ρ', forLoop t body ds ρ = .nx ρ' ∧ I [] ρ'
  | [], ρ, h => ⟨ρ, rfl, h⟩
  | d :: ds, ρ, h => by
    obtain ⟨ρ1, ρ2, h1, h2, h3⟩ := step d ds ρ h
    obtain ⟨ρ', h4, h5⟩ := for_ind I step ds ρ2 h3
    refine ⟨ρ', ?_, h5⟩
    simp only [forLoop, h1, h2, h4]
theorem lc_go {α : Type} {t : Tg} {test : DT} {elt : DE} {vs : List Nat} (c : α → D) (g : α → Option D) (I : Dd.Env → Prop) : ∀ (xs : List α)
    (step : ∀ x ∈ xs, ∀ ρ, I ρ → ∃ ρ1, t (c x) ρ = some ρ1 ∧ ((g x = none ∧ ∃ e ρ2, test ρ1 = .ok true false e ρ2 ∧ I (wipeE ρ2 vs)) ∨
      ∃ e ρ2 f y e2 ρ3, g x = some y ∧ test ρ1 = .ok true true e ρ2 ∧ elt ρ2 = .ok f y e2 ρ3 ∧ (f || frz y) = true ∧ I (wipeE ρ3 vs)))
    (acc : List D) (eff : Bool) (ρ : Dd.Env), acc.length + xs.length ≤ 1000000 → I ρ → ∃ eff' ρ', lcLoop t test elt vs (xs.map c) acc eff ρ = .ok true (acc ++ xs.filterMap g) eff' ρ' ∧ I ρ'
  | [], _, acc, eff, ρ, _, h => ⟨eff, ρ, by simp [lcLoop], h⟩
  | x :: xs, step, acc, eff, ρ, hl, h => by
    have hl' : acc.length + (xs.length + 1) ≤ 1000000 := hl
    obtain ⟨ρ1, h1, h2⟩ := step x List.mem_cons_self ρ h
    have rest := fun z hz => step z (List.mem_cons_of_mem _ hz)
    rcases h2 with ⟨hg, e, ρ2, h3, i1⟩ | ⟨e, ρ2, f, y, e2, ρ3, hg, h3, h4, c1, i1⟩
    · obtain ⟨eff', ρ', q, hI⟩ := lc_go c g I xs rest acc (eff || e) (wipeE ρ2 vs) (by omega) i1
      refine ⟨eff', ρ', ?_, hI⟩
      simp only [List.map_cons, lcLoop, h1, h3, q, List.filterMap_cons, hg]
    · obtain ⟨eff', ρ', q, hI⟩ := lc_go c g I xs rest (acc ++ [y]) (eff || e || e2) (wipeE ρ3 vs) (by simp <;> omega) i1
      refine ⟨eff', ρ', ?_, hI⟩
      have c2 : acc.length < 1000000 := by omega
      simp only [List.map_cons, lcLoop, h1, h3, h4, c1, c2, if_true, q, List.filterMap_cons, hg, List.append_assoc] <;> rfl
/-- a comprehension whose items say what they give -/
theorem lc_do {α : Type} {it : DI} {t : Tg} {test : DT} {elt : DE} {vs : List Nat} {ρ ρ1 : Dd.Env} {f e : Bool} (xs : List α) (c : α → D) (g : α → Option D) (I : Dd.Env → Prop) (hit : it ρ = .ok f (xs.map c) e ρ1) (hl : xs.length ≤ 1000000) (hI : I (wipeE ρ1 vs))
    (step : ∀ x ∈ xs, ∀ ρ, I ρ → ∃ ρ1, t (c x) ρ = some ρ1 ∧ ((g x = none ∧ ∃ e ρ2, test ρ1 = .ok true false e ρ2 ∧ I (wipeE ρ2 vs)) ∨
      ∃ e ρ2 f y e2 ρ3, g x = some y ∧ test ρ1 = .ok true true e ρ2 ∧ elt ρ2 = .ok f y e2 ρ3 ∧ (f || frz y) = true ∧ I (wipeE ρ3 vs))) :
    ∃ e' ρ', dLc it t test elt vs ρ = .ok true (.box true .lst (xs.filterMap g)) e' ρ' ∧ (ρ' = ρ1 ∨ I ρ') := by
  obtain ⟨eff, ρ2, h, hI2⟩ := lc_go c g I xs step [] false (wipeE ρ1 vs) (by simpa using hl) hI
  refine ⟨e || eff, if eff = true then ρ2 else ρ1, ?_, ?_⟩
  · simp only [v_dLc, hit, h, List.nil_append]
  · cases eff with
    | true => exact .inr hI2
    | false => exact .inl rfl
theorem lc_goR {α : Type} {t : Tg} {elt : DE} {vs : List Nat} (c : α → D) (Pr : D → Prop) (I : Dd.Env → Prop) : ∀ (xs : List α)
    (step : ∀ x ∈ xs, ∀ ρ, I ρ → ∃ ρ1, t (c x) ρ = some ρ1 ∧ ∃ f y e2 ρ3, elt ρ1 = .ok f y e2 ρ3 ∧ (f || frz y) = true ∧ Pr y ∧ I (wipeE ρ3 vs))
    (acc : List D) (eff : Bool) (ρ : Dd.Env), acc.length + xs.length ≤ 1000000 → I ρ → ∃ eff' ρ' ys, lcLoop t dYes elt vs (xs.map c) acc eff ρ = .ok true (acc ++ ys) eff' ρ' ∧ ys.length = xs.length ∧ (∀ y ∈ ys, Pr y) ∧ I ρ'
  | [], _, acc, eff, ρ, _, h => ⟨eff, ρ, [], by simp [lcLoop], rfl, (fun _ z => nomatch z), h⟩
  | x :: xs, step, acc, eff, ρ, hl, h => by
    have hl' : acc.length + (xs.length + 1) ≤ 1000000 := hl
    obtain ⟨ρ1, h1, f, y, e2, ρ3, h4, c1, hp, i1⟩ := step x List.mem_cons_self ρ h
    obtain ⟨eff', ρ', ys, q, hn, hP, hI⟩ := lc_goR c Pr I xs (fun z hz => step z (List.mem_cons_of_mem _ hz)) (acc ++ [y]) (eff || false || e2) (wipeE ρ3 vs) (by simp <;> omega) i1
    have c2 : acc.length < 1000000 := by omega
    refine ⟨eff', ρ', y :: ys, ?_, congrArg (· + 1) hn, ?_, hI⟩
    · simp only [List.map_cons, lcLoop, h1, v_yes, h4, c1, c2, if_true, q, List.append_assoc] <;> rfl
    · intro z hz
      rcases List.mem_cons.mp hz with rfl | hz
      · exact hp
      · exact hP z hz
/-- .. of which only a property is told -/
theorem lc_doR {α : Type} {it : DI} {t : Tg} {elt : DE} {vs : List Nat} {ρ ρ1 : Dd.Env} {f e : Bool} (xs : List α) (c : α → D) (Pr : D → Prop) (I : Dd.Env → Prop) (hit : it ρ = .ok f (xs.map c) e ρ1) (hl : xs.length ≤ 1000000) (hI : I (wipeE ρ1 vs))
    (step : ∀ x ∈ xs, ∀ ρ, I ρ → ∃ ρ1, t (c x) ρ = some ρ1 ∧ ∃ f y e2 ρ3, elt ρ1 = .ok f y e2 ρ3 ∧ (f || frz y) = true ∧ Pr y ∧ I (wipeE ρ3 vs)) :
    ∃ e' ρ' ys, dLc it t dYes elt vs ρ = .ok true (.box true .lst ys) e' ρ' ∧ ys.length = xs.length ∧ (∀ y ∈ ys, Pr y) ∧ (ρ' = ρ1 ∨ I ρ') := by
  obtain ⟨eff, ρ2, ys, h, hn, hP, hI2⟩ := lc_goR c Pr I xs step [] false (wipeE ρ1 vs) (by simpa using hl) hI
  refine ⟨e || eff, if eff = true then ρ2 else ρ1, ys, ?_, hn, hP, ?_⟩
  · simp only [v_dLc, hit, h, List.nil_append]
  · cases eff with
    | true => exact .inr hI2
    | false => exact .inl rfl
theorem for_cons {t : Tg} {body : DS} {d : D} {ds : List D} {ρ ρ1 ρ2 : Dd.Env} (h1 : t d ρ = some ρ1) (h2 : body ρ1 = .nx ρ2) : forLoop t body (d :: ds) ρ = forLoop t body ds ρ2 := by
  simp only [forLoop, h1, h2]
theorem okMul_l {i j : Int} (h : i.natAbs < 18446744073709551616) : okMul i j = true := by
  simp only [okMul, Bool.or_eq_true, decide_eq_true_eq]
  exact .inl h
theorem okMul_r {i j : Int} (h : j.natAbs < 18446744073709551616) : okMul i j = true := by
  simp only [okMul, Bool.or_eq_true, decide_eq_true_eq]
  exact .inr h
end
end Dd
/-! try with a first clause that takes all that the body raises; isinstance of what was caught. -/
namespace Dd
open PySem L2
/-- isinstance(e, (A, B, ..)), e what the suite holds -/
def rIsET (K : PySem.W.Frag) (Dc a : Addr) : List V → Hp → VK → Prop := fun zs H Q => ∃ (tp : Addr) (cs : List V) (ws : List Value) (b : Bool), zs = [.ref a, .ref tp] ∧ H tp = some (.tup cs) ∧ Paired ClsV cs ws ∧ PySem.W.kitAny K (.ref Dc) ws = some b ∧ Q (.bl b) H
theorem call_isET {X : Cx} {a Dc : Addr} {oe : Obj} {pn : List (Addr × Obj)} (C : ExcC X.K Dc) (zc : Zc (.ref Dc) none oe) (fl : ∃ vs, oe.data = .fields vs) : CallR (X.suite a ((a, oe) :: pn)) (.builtin "isinstance") (rIsET X.K Dc a) := by
  intro ps s σ H zs us Q I r w
  obtain ⟨tp, cs, ws, b, rfl, hT, hc, hk, q⟩ := w
  obtain ⟨u1, u2, rfl, r1, r2⟩ := vals2 r
  cases (show u1 = Value.ref a from r1)
  cases (show u2 = Value.ref tp from r2)
  obtain ⟨at_, _⟩ := I.pin (a, oe) (List.mem_append.mpr (.inl List.mem_cons_self))
  obtain ⟨fs, hfs⟩ := fl
  have inst : PySem.W.InstAt s.heap a oe Dc none := by
    obtain ⟨c1, d1, p1, s1⟩ := oe
    obtain ⟨z1, z2⟩ := zc
    dsimp only at z1 z2 hfs
    subst z1 z2 hfs
    exact ⟨at_, rfl, rfl, trivial⟩
  obtain ⟨_, its, rv, o, g1, g2, n, g3⟩ := (show ObjOk X.prog X.w H s.heap tp (.tup cs) from I.hok tp _ hT)
  have same := ClsV.all hc rv
  subst same
  obtain ⟨oc, od, dt, sl⟩ := o
  simp only at g2 g3
  subst g2 g3
  exact PySem.W.kia_tup (PySem.W.handS_kitx_exc C.hg C.hk C.hs C.hd C.ha C.hn C.ht C.hm) I.kIn inst g1 hk (fun z => nomatch z) fun tk => ⟨.bl b, H, I.kept (t' := tk) fun _ _ z => z, rfl, q⟩
/-- what the first clause asks of an exception of the body, where it takes all -/
def wFst (K : PySem.W.Frag) (c : Value) (i : Nat) (ts : Addr → Value → Option Addr → TS) (D : Ends) : WX := fun cls d σ H =>
  PySem.W.exmOne K cls c = some true ∧ ∀ a, H a = none → ts a cls d { nx := fun σ1 H1 => D.nx (σ1.set i none) H1, rt := D.rt, bk := fun σ1 H1 => D.bk (σ1.set i none) H1, ct := fun σ1 H1 => D.ct (σ1.set i none) H1 } (σ.set i (some (.ref a))) H
theorem ps_try_fst {X : Cx} {x n : Str} {c : Value} {i : Nat} {body su : List Stmt} {s0 : Stmt} {more : List ExceptHandler} {np p1 p2 : Pos} {tb : WX → TS} {ts : Addr → Value → Option Addr → TS}
    (hst : X.stack = X.env :: X.outer) (hfm : X.env.frame = some X.env.locals) (nod : X.N.Nodup) (hi : X.N[i]? = some n) (kin : X.env.kindOf n = some .local) (nam : Names X x c)
    (der : ∀ (W : WX) (pn : List (Addr × Obj)) (xe : Value → Shared → Prop), Takes (X.tr pn xe) W → PassesOwn (model X.prog X.w) X.A X.env xe → PSs (X.tr pn xe) body (tb W))
    (sui : ∀ (a : Addr) (oe : Obj) (cls : Value) (d : Option Addr) (pn : List (Addr × Obj)), Zc cls d oe → (∃ vs, oe.data = .fields vs) → PSs (X.suite a ((a, oe) :: pn)) (s0 :: su) (ts a cls d)) :
    PS X (.Try body (.ExceptHandler (some (.Name x np)) (some n) (s0 :: su) p1 :: more) [] [] p2) (fun D σ H => tb (wFst X.K c i ts D) D σ H) := by
  refine ⟨fun ps s σ H D I w => ?_⟩
  have good := I.ok
  have fm : X.A.frames = some (X.env :: X.outer) := by rw [good.frames, hst]
  have lcl : Loc X.env.scope n := .inl kin
  refine wpAny_Try_except ?_
  let kk : Value → Shared → Prop := fun e s1 => wpAny (model X.prog X.w) X.A (noteFrame e X.env) (fun _ s2 => wpAny (model X.prog X.w) X.A (setFlight e none) (fun _ s3 =>
    wpAny (model X.prog X.w) X.A (handleBy e X.env (.ExceptHandler (some (.Name x np)) (some n) (s0 :: su) p1 :: more)) (SP X ps D) X.xe s3) X.xe s2) X.xe s1
  have go := (der (wFst X.K c i ts D) (X.pn ++ ps) kk (fun u s1 hx => by
    obtain ⟨a, B, sJ, ps1, σ1, H1, cls, d, rfl, J0, old, up1, hsky, na, os, ag, w1, w2⟩ := hx
    have J : Inv X ps σ1 H1 sJ := J0.ofTry good
    have hsky : Sky B (X.env :: X.outer) a (Zc cls d) X.env.locals s1.heap := by rw [← hst]; exact hsky
    show wpAny (model X.prog X.w) X.A (noteFrame (.ref a) X.env) _ _ _
    refine Sky.land Zc.steady fm hfm hsky fun m3 y3 up3 => ?_
    have I3 : Inv X ps σ1 H1 { s1 with heap := m3 } := J.landed old y3.1 (up1.trans up3) os ag
    obtain ⟨e3, v3, at3, z3, f3⟩ := y3.there
    have far : a ∉ frs (X.env :: X.outer) := fun hm => by
      obtain ⟨_, o1, at1, no1⟩ := y3.2.2.1.mem hm
      rw [at3] at at1; cases at1
      exact no1 _ f3
    have farL : a ≠ X.env.locals := fun z => far (List.mem_filterMap.mpr ⟨X.env, List.mem_cons_self, by rw [hfm, z]⟩)
    have farF : a ∉ X.fs := fun hm => by
      obtain ⟨e, he, q⟩ := List.mem_filterMap.mp hm
      exact far (List.mem_filterMap.mpr ⟨e, List.mem_cons_of_mem _ he, q⟩)
    have T3 := I3.suite at3 f3 na farL farF
    refine wpAny_handleBy_cons (codeAny_handlers_test ?_) (fun q => by cases q)
    have lt3 : PySem.W.Looks (model X.prog X.w) m3 (typeOf (.ref a)) cls := fun A Q E s k q => wpAny_typeOf_ref (k _ _ at3) (by rw [z3.1]; exact q)
    have lm3 := PySem.W.exm_one (M := model X.prog X.w) I3.kIn lt3 w1
    have tst : ∀ {Q E : Value → Shared → Prop}, Q c { s1 with heap := m3 } → wpAny (model X.prog X.w) (X.A.mark (some (.ref a))) (eval (.Name x np) X.env) Q E { s1 with heap := m3 } := fun {Q E} q => by
      obtain ⟨n1, n2, n3 | ⟨n3, n4, n5⟩⟩ := nam
      · exact ld_glob (X := X.suite a ((a, e3) :: (X.pn ++ ps))) T3 n1 n3 q n2
      · exact ld_blt (X := X.suite a ((a, e3) :: (X.pn ++ ps))) T3 n1 n3 n4 q n5 n2
    refine tst (lm3.here (codeAny_handlers_suite_as (HandSPX.lands_againZ y3 fun m4 y4 up4 => ?_)))
    have I4 : Inv X ps σ1 H1 { s1 with heap := m4 } := J.landed old y4.1 ((up1.trans up3).trans up4) os ag
    obtain ⟨e4, v4, at4, z4, f4⟩ := y4.there
    have T4 := I4.suite at4 f4 na farL farF
    refine store_ok (X := X.suite a ((a, e4) :: (X.pn ++ ps))) (v := .ref a) T4 nod hi lcl rfl (fun s5 T5 => ?_) (.inr kin)
    refine wpAny_mono ((sui a e4 cls d (X.pn ++ ps) z4 ⟨_, f4⟩).run [] s5 _ H1 _ T5 (w2 a na)) (fun f s6 sp => ?_) (fun _ _ z => False.elim z)
    have fin : ∀ {σ6 : L2.St} {H6 : Hp} {Q : Shared → Prop}, Inv (X.suite a ((a, e4) :: (X.pn ++ ps))) [] σ6 H6 s6 → (∀ s7, Inv X ps (σ6.set i none) H6 s7 → Q s7) →
        wpAny (model X.prog X.w) X.A (do bindName X.env n .none; unbindBehindTheSuite X.env n p1) (fun _ s7 => Q s7) X.xe s6 := fun T6 hq => gone_ok (T6.unsuite good) nod hi kin hq
    match f, sp with
    | .next, ⟨_, _, T6, q6⟩ => exact fin T6 fun _ J7 => ⟨_, _, J7, q6⟩
    | .brk, ⟨_, _, T6, q6⟩ => exact fin T6 fun _ J7 => ⟨_, _, J7, q6⟩
    | .cont, ⟨_, _, T6, q6⟩ => exact fin T6 fun _ J7 => ⟨_, _, J7, q6⟩
    | .ret _, ⟨_, _, _, T6, r6, q6⟩ => exact fin T6 fun _ J7 => ⟨_, _, _, J7, r6, q6⟩) PassesOwn.looking).run [] s σ H D (I.toTry _) w
  refine wpAny_mono go (fun f s1 sp => ?_) (fun _ _ z => z)
  match f, sp with
  | .next, ⟨_, _, J, q⟩ => exact wpAny_execs_nil ⟨_, _, J.ofTry good, q⟩
  | .brk, ⟨_, _, J, q⟩ => exact ⟨_, _, J.ofTry good, q⟩
  | .cont, ⟨_, _, J, q⟩ => exact ⟨_, _, J.ofTry good, q⟩
  | .ret _, ⟨_, _, _, J, r, q⟩ => exact ⟨_, _, _, J.ofTry good, r, q⟩
/-- try: body / except A as e: a return of the value d -/
def dTry1 (body : DS) (x : Str) (i : Nat) (d : D) : DS := fun ρ => match body ρ with
  | .ex y [] ρ1 => if y = x ∧ i < ρ1.length then .rt d ρ1 else .bad
  | .ex _ _ _ => .bad
  | r => r
theorem s_try1 {c : Cc} {X : Cx} {x n : Str} {C : Addr} {d : D} {v : V} {i : Nat} {body su : List Stmt} {s0 : Stmt} {more : List ExceptHandler} {np p1 p2 : Pos} {m : DS} {ts : Addr → TS}
    (hst : X.stack = X.env :: X.outer) (hfm : X.env.frame = some X.env.locals) (nod : X.N.Nodup) (hi : X.N[i]? = some n) (kin : X.env.kindOf n = some .local) (nam : Names X x (.ref C)) (hx : c.G.cn x = some C) (hm : PySem.W.exmOne X.K (.ref C) (.ref C) = some true) (hv : sv d = some v)
    (der : ∀ (W : EW) (pn : List (Addr × Obj)) (xe : Value → Shared → Prop), Takes (X.tr pn xe) (wxOf { c with W := W }) → PassesOwn (model X.prog X.w) X.A X.env xe → PSs (X.tr pn xe) body (tS { c with W := W } m))
    (sui : ∀ (a : Addr) (oe : Obj) (pn : List (Addr × Obj)), Zc (.ref C) none oe → (∃ vs, oe.data = .fields vs) → PSs (X.suite a ((a, oe) :: pn)) (s0 :: su) (ts a))
    (hts : ∀ (a : Addr) (D : Ends) (σ : L2.St) (H : Hp), i < σ.length → H a = none → (∀ H1, Ex H H1 → D.rt v H1) → ts a D (σ.set i (some (.ref a))) H) :
    PS X (.Try body (.ExceptHandler (some (.Name x np)) (some n) (s0 :: su) p1 :: more) [] [] p2) (tS c (dTry1 m x i d)) := by
  have key := ps_try_fst (X := X) (np := np) (p1 := p1) (p2 := p2) (more := more) (tb := fun W => tS { c with W := fun y ys σ H => ys = [] → ∀ C, c.G.cn y = some C → W (.ref C) none σ H } m) hst hfm nod hi kin nam
    (fun W pn xe tk po => der _ pn xe (tk.imp fun cls dd σ H z => by
      obtain ⟨y, C1, h1, h2, h3, h4⟩ := z
      rw [h2, h3]
      exact h4 rfl C1 h1) po) (ts := fun a cls dd => fun D σ H => cls = .ref C ∧ dd = none ∧ ts a D σ H) (fun a oe cls dd pn zc fl => ⟨fun pins s σ H D I w => by
      obtain ⟨e1, e2, w⟩ := w
      subst e1 e2
      exact (sui a oe pn zc fl).run pins s σ H D I w⟩)
  refine key.imp fun D σ H w => ?_
  obtain ⟨Z, ρ, F, S, w⟩ := w
  refine ⟨Z, ρ, F, S, ?_⟩
  cases hb : m ρ with
  | nx ρ1 => simp only [dTry1, hb] at w; exact w
  | bk ρ1 => simp only [dTry1, hb] at w; exact w
  | ct ρ1 => simp only [dTry1, hb] at w; exact w
  | rt d1 ρ1 => simp only [dTry1, hb] at w; exact w
  | bad => simp only [dTry1, hb] at w; exact w
  | ex y ys ρ1 =>
    cases ys with
    | cons _ _ => simp only [dTry1, hb, SOut] at w
    | nil =>
      by_cases e : y = x ∧ i < ρ1.length
      · obtain ⟨e, hi1⟩ := e
        subst e
        simp only [dTry1, hb, hi1, and_self, if_true] at w
        intro Z1 H1 F1 σ1 st S1 _ C1 h1
        have ec : C1 = C := Option.some.inj (h1.symm.trans hx)
        subst ec
        refine ⟨hm, fun a na => ⟨rfl, rfl, hts a _ σ1 H1 (by rw [← S1.rs.length]; exact hi1) na fun H2 hE => ?_⟩⟩
        have nw : New Z1 H1 Z1 H2 := ⟨Ex.refl _, hE, fun b o z => hE b o (S1.zh b o z), fun _ _ => rfl⟩
        exact w Z1 H2 F1 σ1 v [] (st.trans nw.step) (S1.new nw) (sv_rep hv) Fresh.nil
      · simp only [dTry1, hb, if_neg e, SOut] at w
theorem hts_is {K : PySem.W.Frag} {C a M u1 u2 u3 : Addr} {i : Nat} (km : PySem.W.kitOne K (.ref C) (.ref M) = some true) (kt : PySem.W.kitAny K (.ref C) [.ref u1, .ref u2, .ref u3] = some false) (D : Ends) (σ : L2.St) (H : Hp) (hi : i < σ.length) (_na : H a = none) (k : ∀ H1, Ex H H1 → D.rt (.bl true) H1) :
    tRet (tAndV (tCB (rIsE K C a) (tCons (tVar i) (tCons (tC (.ref M)) tNil))) (tNotV (tCB (rIsET K C a) (tCons (tVar i) (tCons (tTup (tCons (tC (.ref u1)) (tCons (tC (.ref u2)) (tCons (tC (.ref u3)) tNil)))) tNil))))) D (σ.set i (some (.ref a))) H := by
  have g : (σ.set i (some (V.ref a)))[i]? = some (some (.ref a)) := List.getElem?_set_self hi
  refine ⟨.ref a, g, .ref M, .ref M, true, rfl, fun u r => r, km, true, rfl, ?_⟩
  refine ⟨.ref a, g, (show 3 ≤ sizeLine by decide), fun p np => ?_⟩
  exact ⟨p, _, [.ref u1, .ref u2, .ref u3], false, rfl, upd_same, .cons (.own _) (.cons (.own _) (.cons (.own _) .nil)), kt, false, rfl, k _ (Ex.new np)⟩
/-! facts of the top that the names' list does not tell -/
def chkE (K : PySem.W.Frag) (D M : Addr) (us : List Addr) : Bool :=
  He.eqO (PySem.W.findIn K (.ref D) "__getattribute__") (some (some (.builtin "BaseException.__getattribute__"))) && (He.eqO (PySem.W.findIn K (.ref D) "__getattr__") (some none) && (decide (PySem.W.subIn K (.ref D) (.type "BaseException") = some true) && (PySem.W.hasDictIn K D &&
  (He.eqO (PySem.W.findIn K (.ref D) "__class__") (some (some (.builtin "object.__class__"))) && (He.eqO (PySem.W.specialIn K (.builtin "object.__class__") "__get__") (some (some (.builtin "getset_descriptor.__get__"))) && (decide (PySem.W.takesIn K (.builtin "object.__class__") = some true) && (decide (PySem.W.mroIn K D (.type "object") = some true) &&
  (decide (PySem.W.kitOne K (.ref D) (.ref M) = some true) && decide (PySem.W.kitAny K (.ref D) (us.map Value.ref) = some false)))))))))
theorem chkE_ok {K : PySem.W.Frag} {D M : Addr} {us : List Addr} (h : chkE K D M us = true) : ExcC K D ∧ PySem.W.kitOne K (.ref D) (.ref M) = some true ∧ PySem.W.kitAny K (.ref D) (us.map Value.ref) = some false := by
  obtain ⟨h1, h⟩ := He.ba h
  obtain ⟨h2, h⟩ := He.ba h
  obtain ⟨h3, h⟩ := He.ba h
  obtain ⟨h4, h⟩ := He.ba h
  obtain ⟨h5, h⟩ := He.ba h
  obtain ⟨h6, h⟩ := He.ba h
  obtain ⟨h7, h⟩ := He.ba h
  obtain ⟨h8, h⟩ := He.ba h
  obtain ⟨h9, h⟩ := He.ba h
  exact ⟨⟨He.eqO_ok h1, He.eqO_ok h2, of_decide_eq_true h3, h4, He.eqO_ok h5, He.eqO_ok h6, of_decide_eq_true h7, of_decide_eq_true h8⟩, of_decide_eq_true h9, of_decide_eq_true h⟩
abbrev AlB : Type := Bool × He.AlD
def obsB (chk : PySem.W.Frag → Bool) (fa : List He.Fa) (fn : List He.DefD) (K : PySem.W.Frag) : AlB := (chk K, He.obsD fa fn K)
def obsBG (n : Nat) (chk : PySem.W.Frag → Bool) (fa : List He.Fa) (fn : List He.DefD) (g : Addr → Option Obj) : AlB := obsB chk fa fn (He.frG g (He.asD g n))
def hookB (n : Nat) (chk : PySem.W.Frag → Bool) (fa : List He.Fa) (fn : List He.DefD) : PySem.W.Hook where
  α := AlB
  obs := fun s => obsBG n chk fa fn s.heap.get?
  val := fun _ => (true, He.valD fn)
  says := fun _ h => ∃ K : PySem.W.Frag, K.In h ∧ chk K = true ∧ He.SaysD fa fn K
  of := fun _ _ e => ⟨_, He.frG_in, congrArg (fun z : AlB => z.1) e, congrArg (fun z : AlB => z.2) e⟩
  keeps := fun _ _ _ ⟨K, hK, c⟩ k => ⟨K, PySem.W.Frag.In.keeps hK k, c⟩
theorem obsBG_eq {n : Nat} {chk : PySem.W.Frag → Bool} {fa : List He.Fa} {fn : List He.DefD} {g : Addr → Option Obj} {s : Shared} (h : ∀ a, g a = s.heap.get? a) : obsBG n chk fa fn g = (hookB n chk fa fn).obs s := by
  rw [show g = s.heap.get? from funext h] <;> rfl
/-- what is fresh is frozen -/
def dFrE (m : DE) : DE := fun ρ => match m ρ with
  | .ok fr d _ ρ1 => if fr = true then .ok true (fz d) true ρ1 else .bad
  | .ex c xs ρ1 => .ex c xs ρ1
  | .bad => .bad
theorem e_frE {c : Cc} {X : Cx} {e : Expr} {m : DE} (h : PE X e (tE c m)) : PE X e (tE c (dFrE m)) := h.imp fun σ H Q w => by
  obtain ⟨Z, ρ, F, S, w⟩ := w
  refine ⟨Z, ρ, F, S, ?_⟩
  cases hm : m ρ with
  | bad => simp only [dFrE, hm] at w
  | ex x xs ρ1 => simp only [dFrE, hm] at w; exact w
  | ok fr d e1 ρ1 =>
    cases fr with
    | false => simp only [dFrE, hm, Bool.false_eq_true, if_false] at w
    | true =>
      simp only [dFrE, hm, if_true] at w
      intro Z1 H1 F1 v Gf P r f
      have f := f rfl
      let Z2 : Hp := fun a => if a ∈ Gf then H1 a else Z1 a
      have z1 : ∀ a, a ∈ Gf → Z2 a = H1 a := fun a h => if_pos h
      have z2 : ∀ a, a ∉ Gf → Z2 a = Z1 a := fun a h => if_neg h
      have eZ : Ex Z1 Z2 := fun a o z => by
        by_cases q : a ∈ Gf
        · rw [f.nz a q] at z; cases z
        · rw [z2 a q]; exact z
      have zh : Ex Z2 H1 := fun a o z => by
        by_cases q : a ∈ Gf
        · rw [z1 a q] at z; exact z
        · rw [z2 a q] at z; exact P.sta.zh a o z
      have r2 : Rep c.G Z2 H1 (fz d) v [] := r.freeze eZ fun a ha o z => by rw [z1 a ha]; exact z
      refine w Z2 H1 F1 v [] ⟨⟨fun a o z => eZ a o (P.st.zz a o z), zh, P.st.dm, P.st.fr, P.st.ff, fun a h1 h2 h3 => ?_⟩, ⟨zh, P.sta.rs.mono eZ fun _ _ _ z => z, P.sta.nd, fun a ha => ?_, P.sta.lk⟩, fun z => nomatch z⟩ r2 fun _ => Fresh.nil
      · rw [z2 a fun q => (f.nh a q).elim h1 h2]
        exact P.st.zn a h1 h2 h3
      · rw [z2 a fun q => f.nf a q ha]
        exact P.sta.fz a ha
end Dd
namespace Lw
open PySem L2 Dd
def topS (i : Nat) : Stmt := PySem.Challenge.pw_sheetlines_k45_readings_and_refusals.main.body.getD i (.Pass ⟨0, 0, 0, 0⟩)
abbrev st__law_start : Stmt := topS 21
theorem sc__law_start : FnScope ["script", "cells", "first", "plain", "cell"] ["script"] (defScope st__law_start) := ⟨rfl, rfl, rfl, by decide +kernel, rfl, by decide +kernel, by decide +kernel⟩
def m__law_start : DS := (dSeq (dAsg 1 (dLc (dItems (dFz 0)) (tgN 4) dYes (bind1 fInt1 (dVar 4)) [4])) (dSeq (dAsg 2 (dC (.int 0))) (dSeq (dIf (dAnd (dT (bind2 fGt (bind1 fLen (dVar 1)) (dC (.int 0)))) (dT (bind2 fGe (bind2 fIx (dVar 1) (dC (.int 0))) (bind2 fPow (dC (.int 10)) (dC (.int 18)))))) (dAsg 2 (bind2 fIx (dVar 1) (dC (.int 0)))) dPass) (dSeq (dAsg 3 (dAndV (bind2 fGt (bind1 fLen (dVar 1)) (dC (.int 1))) (bind2 fEq (bind2 fMod (bind1 fInt1 (bind2 fIx (dVar 1) (dC (.int 1)))) (dC (.int 2))) (dC (.int 0))))) (dRet (dLst (dCons (dFz 1) (dCons (dC (.int 0)) (dCons (dFz 2) (dCons (dFz 3) (dCons (bind2 fPlus (dC (.int 12345)) (bind1 fLen (dVar 1))) dNil)))))))))))
def F__law_start : DF := runD false 5 m__law_start

abbrev st__law_take : Stmt := topS 22
theorem sc__law_take : FnScope ["state", "many", "cells", "at", "cell", "mixed", "back"] ["state", "many"] (defScope st__law_take) := ⟨rfl, rfl, rfl, by decide +kernel, rfl, by decide +kernel, by decide +kernel⟩
def m__law_take : DS := (dSeq (dIf (dT (bind2 fGt (bind2 fIx (dVar 0) (dC (.int 2))) (dC (.int 0)))) (dSeq (dAsg 6 (bind2 fMod (bind1 fInt1 (bind2 fIx (dVar 0) (dC (.int 2)))) (dVar 1))) (dSeq (dSetI 0 (dC (.int 2)) (bind2 fDivW (bind2 fIx (dVar 0) (dC (.int 2))) (dVar 1))) (dRet (dMv 6)))) dPass) (dSeq (dAsg 2 (bind2 fIx (dVar 0) (dC (.int 0)))) (dSeq (dAsg 3 (bind2 fIx (dVar 0) (dC (.int 1)))) (dSeq (dSetI 0 (dC (.int 1)) (bind2 fPlus (dVar 3) (dC (.int 1)))) (dSeq (dAsg 4 (dC (.int 0))) (dSeq (dIf (dT (bind2 fGt (bind1 fLen (dVar 2)) (dC (.int 0)))) (dAsg 4 (bind2 fIx (dVar 2) (bind2 fMod (bind1 fInt1 (dVar 3)) (bind1 fLen (dVar 2))))) dPass) (dSeq (dIf (dAnd (dT (bind2 fIx (dVar 0) (dC (.int 3)))) (dT (bind2 fLt (dVar 3) (bind1 fLen (dVar 2))))) (dRet (bind2 fMod (bind1 fInt1 (dVar 4)) (dVar 1))) dPass) (dSeq (dAsg 5 (bind2 fMod (bind1 fInt1 (bind2 fPlus (bind2 fPlus (bind2 fPlus (bind2 fMul (bind2 fIx (dVar 0) (dC (.int 4))) (dC (.int 48271))) (dVar 4)) (bind2 fMul (dC (.int 7)) (dVar 3))) (dC (.int 1)))) (dC (.int 2147483647)))) (dSeq (dSetI 0 (dC (.int 4)) (dFz 5)) (dRet (bind2 fMod (bind1 fInt1 (bind2 fDivW (bind2 fMod (bind1 fInt1 (bind2 fPlus (bind2 fMul (dVar 5) (dVar 5)) (bind2 fMul (dC (.int 69621)) (dVar 5)))) (dC (.int 2147483629))) (dC (.int 5)))) (dVar 1))))))))))))
def F__law_take : DF := runD true 7 m__law_take

abbrev st__law_reading : Stmt := topS 25
theorem sc__law_reading : FnScope ["state", "scale", "parts", "error"] ["state"] (defScope st__law_reading) := ⟨rfl, rfl, rfl, by decide +kernel, rfl, by decide +kernel, by decide +kernel⟩
def m__law_reading : DS := (dSeq (dAsg 1 (bind2 fIx (dTup (dCons (dC (.int 1)) (dCons (bind2 fPlus (dC (.int 1)) (dCallL F__law_take 0 (dCons (dC (.int 99)) dNil))) (dCons (bind2 fPlus (dC (.int 1)) (dCallL F__law_take 0 (dCons (bind2 fPow (dC (.int 10)) (dC (.int 9))) dNil))) dNil)))) (dCallL F__law_take 0 (dCons (dC (.int 3)) dNil)))) (dSeq (dAsg 2 (bind2 fIx (dTup (dCons (dC (.int 0)) (dCons (dCallL F__law_take 0 (dCons (dC (.int 50)) dNil)) (dCons (dCallL F__law_take 0 (dCons (bind2 fPow (dC (.int 10)) (dC (.int 12))) dNil)) dNil)))) (dCallL F__law_take 0 (dCons (dC (.int 3)) dNil)))) (dSeq (dAsg 3 (bind2 fIx (dTup (dCons (dC (.int 0)) (dCons (dFz 2) (dCons (bind2 fPlus (dVar 2) (dC (.int 1))) (dCons (dCallL F__law_take 0 (dCons (dC (.int 10)) dNil)) dNil))))) (dCallL F__law_take 0 (dCons (dC (.int 4)) dNil)))) (dRet (dTup (dCons (dFz 1) (dCons (dFz 2) (dCons (dFz 3) dNil))))))))
def F__law_reading : DF := runD true 4 m__law_reading

abbrev st__law_bounds : Stmt := topS 24
theorem sc__law_bounds : FnScope ["reading"] ["reading"] (defScope st__law_bounds) := ⟨rfl, rfl, rfl, by decide +kernel, rfl, by decide +kernel, by decide +kernel⟩
def m__law_bounds : DS := (dRet (dTup (dCons (bind2 fMul (bind2 fMax2 (dC (.int 0)) (bind2 fSub (bind2 fIx (dVar 0) (dC (.int 1))) (bind2 fIx (dVar 0) (dC (.int 2))))) (bind2 fIx (dVar 0) (dC (.int 0)))) (dCons (bind2 fMul (bind2 fPlus (bind2 fIx (dVar 0) (dC (.int 1))) (bind2 fIx (dVar 0) (dC (.int 2)))) (bind2 fIx (dVar 0) (dC (.int 0)))) dNil))))
def F__law_bounds : DF := runD false 1 m__law_bounds

abbrev st__law_other : Stmt := topS 26
theorem sc__law_other : FnScope ["state", "reading", "scale", "edge", "error"] ["state", "reading"] (defScope st__law_other) := ⟨rfl, rfl, rfl, by decide +kernel, rfl, by decide +kernel, by decide +kernel⟩
def m__law_other : DS := (dSeq (dIf (dT (bind2 fEq (dCallL F__law_take 0 (dCons (dC (.int 3)) dNil)) (dC (.int 0)))) (dRet (dCallL F__law_reading 0 dNil)) dPass) (dSeq (dAsg 2 (bind2 fPlus (dC (.int 1)) (dCallL F__law_take 0 (dCons (dC (.int 9)) dNil)))) (dSeq (dAsg 3 (bind2 fIx (dCall F__law_bounds (dCons (dFz 1) dNil)) (dCallL F__law_take 0 (dCons (dC (.int 2)) dNil)))) (dSeq (dAsg 4 (dCallL F__law_take 0 (dCons (dC (.int 4)) dNil))) (dRet (dTup (dCons (dFz 2) (dCons (bind2 fMax2 (dC (.int 0)) (bind2 fPlus (bind2 fSub (bind2 fPlus (bind2 fDivW (dVar 3) (dVar 2)) (dCallL F__law_take 0 (dCons (dC (.int 3)) dNil))) (dC (.int 1))) (bind2 fIx (dTup (dCons (dFz 4) (dCons (bind1 fNeg (dVar 4)) dNil))) (dCallL F__law_take 0 (dCons (dC (.int 2)) dNil))))) (dCons (dFz 4) dNil)))))))))
def F__law_other : DF := runD true 5 m__law_other

abbrev st__law_alike : Stmt := topS 23
theorem sc__law_alike : FnScope ["told", "due", "k"] ["told", "due"] (defScope st__law_alike) := ⟨rfl, rfl, rfl, by decide +kernel, rfl, by decide +kernel, by decide +kernel⟩
def m__law_alike (F : DF) : DS := (dSeq (dIf (dT (bind2 fIs (dVar 1) (dC .non))) (dRet (bind2 fIs (dVar 0) (dC .non))) dPass) (dSeq (dIf (dT (bind1 (fIsi .tup) (dVar 1))) (dSeq (dIf (dOr (dNot (dT (bind1 (fIsi .tup) (dVar 0)))) (dT (bind2 fNe (bind1 fLen (dVar 0)) (bind1 fLen (dVar 1))))) (dRet (dC (.bl false))) dPass) (dRet (bind1 fAll (dLc (dRange1 (dCons (bind1 fLen (dVar 1)) dNil)) (tgN 2) dYes (dCall (F) (dCons (bind2 fIx (dVar 0) (dVar 2)) (dCons (bind2 fIx (dVar 1) (dVar 2)) dNil))) [2])))) dPass) (dSeq (dIf (dT (bind1 (fIsi .bool) (dVar 1))) (dRet (dAndV (bind1 (fIsi .bool) (dVar 0)) (bind2 fEq (dVar 0) (dVar 1)))) dPass) (dSeq (dIf (dT (bind1 (fIsi .int) (dVar 1))) (dRet (dAndV (bind1 (fIsi .int) (dVar 0)) (dAndV (dNotV (bind1 (fIsi .bool) (dVar 0))) (bind2 fEq (dVar 0) (dVar 1))))) dPass) (dRet (dAndV (bind1 (fIsi .str) (dVar 0)) (bind2 fEq (dVar 0) (dVar 1))))))))
def F__law_alike : Nat → DF
  | 0 => fun _ => .bad
  | n + 1 => runD false 3 (m__law_alike (F__law_alike n))

abbrev st_is_int : Stmt := topS 7
theorem sc_is_int : FnScope ["value"] ["value"] (defScope st_is_int) := ⟨rfl, rfl, rfl, by decide +kernel, rfl, by decide +kernel, by decide +kernel⟩
def m_is_int : DS := (dRet (dAndV (bind1 (fIsi .int) (dVar 0)) (dNotV (bind1 (fIsi .bool) (dVar 0)))))
def F_is_int : DF := runD false 1 m_is_int

abbrev st_is_count : Stmt := topS 9
theorem sc_is_count : FnScope ["value", "least"] ["value", "least"] (defScope st_is_count) := ⟨rfl, rfl, rfl, by decide +kernel, rfl, by decide +kernel, by decide +kernel⟩
def m_is_count : DS := (dRet (dAndV (dCall F_is_int (dCons (dFz 0) dNil)) (bind2 fGe (dVar 0) (dVar 1))))
def F_is_count : DF := runD false 2 m_is_count

abbrev st_check_counts : Stmt := topS 11
theorem sc_check_counts : FnScope ["values", "value"] ["values"] (defScope st_check_counts) := ⟨rfl, rfl, rfl, by decide +kernel, rfl, by decide +kernel, by decide +kernel⟩
def m_check_counts : DS := (dFor (dItems (dFz 0)) (tgN 1) (dIf (dNot (dT (dCall F_is_count (dCons (dFz 1) (dCons (dC (.int 0)) dNil))))) (dRaise "BadNumber") dPass))
def F_check_counts : DF := runD false 2 m_check_counts

abbrev st_check_reading : Stmt := topS 10
theorem sc_check_reading : FnScope ["scale", "parts", "error"] ["scale", "parts", "error"] (defScope st_check_reading) := ⟨rfl, rfl, rfl, by decide +kernel, rfl, by decide +kernel, by decide +kernel⟩
def m_check_reading : DS := (dSeq (dIf (dNot (dT (dCall F_is_count (dCons (dFz 0) (dCons (dC (.int 1)) dNil))))) (dRaise "BadNumber") dPass) (dDrop (dCall F_check_counts (dCons (dTup (dCons (dFz 1) (dCons (dFz 2) dNil))) dNil))))
def F_check_reading : DF := runD false 3 m_check_reading

abbrev st_lengths_of : Stmt := topS 13
theorem sc_lengths_of : FnScope ["scale", "parts", "error"] ["scale", "parts", "error"] (defScope st_lengths_of) := ⟨rfl, rfl, rfl, by decide +kernel, rfl, by decide +kernel, by decide +kernel⟩
def m_lengths_of : DS := (dRet (dTup (dCons (bind2 fMul (bind2 fMax2 (dC (.int 0)) (bind2 fSub (dVar 1) (dVar 2))) (dVar 0)) (dCons (bind2 fMul (bind2 fPlus (dVar 1) (dVar 2)) (dVar 0)) dNil))))
def F_lengths_of : DF := runD false 3 m_lengths_of

abbrev st_length : Stmt := topS 17
theorem sc_length : FnScope ["scale", "parts", "error"] ["scale", "parts", "error"] (defScope st_length) := ⟨rfl, rfl, rfl, by decide +kernel, rfl, by decide +kernel, by decide +kernel⟩
def m_length : DS := (dSeq (dDrop (dCall F_check_reading (dCons (dFz 0) (dCons (dFz 1) (dCons (dFz 2) dNil))))) (dRet (dCall F_lengths_of (dCons (dFz 0) (dCons (dFz 1) (dCons (dFz 2) dNil))))))
def F_length : DF := runD false 3 m_length

abbrev st_scale_of : Stmt := topS 19
theorem sc_scale_of : FnScope ["parts", "error", "least", "greatest", "scales", "scale", "low", "high"] ["parts", "error", "least", "greatest"] (defScope st_scale_of) := ⟨rfl, rfl, rfl, by decide +kernel, rfl, by decide +kernel, by decide +kernel⟩
def m_scale_of : DS := (dSeq (dDrop (dCall F_check_counts (dCons (dTup (dCons (dFz 0) (dCons (dFz 1) (dCons (dFz 2) (dCons (dFz 3) dNil))))) dNil))) (dSeq (dAsg 4 (dLst dNil)) (dSeq (dFor (dRange2 (dCons (dC (.int 1)) (dCons (bind2 fPlus (dC (.int 99)) (dC (.int 1))) dNil))) (tgN 5) (dSeq (dAsgT [6, 7] (dCall F_lengths_of (dCons (dFz 5) (dCons (dFz 0) (dCons (dFz 1) dNil))))) (dIf (dT (bind2 fLe (bind2 fMax2 (dVar 6) (dVar 2)) (bind2 fMin2 (dVar 7) (dVar 3)))) (dApp 4 (dFz 5)) dPass))) (dRet (bind1 fTupOf (dVar 4))))))
def F_scale_of : DF := runD false 8 m_scale_of

abbrev st__law_scales : Stmt := topS 28
theorem sc__law_scales : FnScope ["parts", "error", "low", "high", "rows", "scale", "ends"] ["parts", "error", "low", "high"] (defScope st__law_scales) := ⟨rfl, rfl, rfl, by decide +kernel, rfl, by decide +kernel, by decide +kernel⟩
def m__law_scales : DS := (dSeq (dAsg 4 (dLst dNil)) (dSeq (dFor (dRange2 (dCons (dC (.int 1)) (dCons (dC (.int 100)) dNil))) (tgN 5) (dSeq (dAsg 6 (dCall F__law_bounds (dCons (dTup (dCons (dFz 5) (dCons (dFz 0) (dCons (dFz 1) dNil)))) dNil))) (dIf (dAnd (dT (bind2 fLe (bind2 fIx (dVar 6) (dC (.int 0))) (dVar 3))) (dAnd (dT (bind2 fGe (bind2 fIx (dVar 6) (dC (.int 1))) (dVar 2))) (dT (bind2 fLe (dVar 2) (dVar 3))))) (dApp 4 (dFz 5)) dPass))) (dRet (bind1 fTupOf (dVar 4)))))
def F__law_scales : DF := runD false 7 m__law_scales

abbrev st_check_told : Stmt := topS 12
theorem sc_check_told : FnScope ["reading", "scale", "parts", "error"] ["reading"] (defScope st_check_told) := ⟨rfl, rfl, rfl, by decide +kernel, rfl, by decide +kernel, by decide +kernel⟩
def m_check_told : DS := (dSeq (dIf (dOr (dNot (dT (bind1 (fIsi .tup) (dVar 0)))) (dT (bind2 fNe (bind1 fLen (dVar 0)) (dC (.int 3))))) (dRaise "BadNumber") dPass) (dSeq (dAsgT [1, 2, 3] (dFz 0)) (dDrop (dCall F_check_reading (dCons (dFz 1) (dCons (dFz 2) (dCons (dFz 3) dNil)))))))
def F_check_told : DF := runD false 4 m_check_told

abbrev st_common_lengths : Stmt := topS 14
theorem sc_common_lengths : FnScope ["one", "other", "least", "greatest"] ["one", "other"] (defScope st_common_lengths) := ⟨rfl, rfl, rfl, by decide +kernel, rfl, by decide +kernel, by decide +kernel⟩
def m_common_lengths : DS := (dSeq (dAsg 2 (bind2 fMax2 (bind2 fIx (dVar 0) (dC (.int 0))) (bind2 fIx (dVar 1) (dC (.int 0))))) (dSeq (dAsg 3 (bind2 fMin2 (bind2 fIx (dVar 0) (dC (.int 1))) (bind2 fIx (dVar 1) (dC (.int 1))))) (dSeq (dIf (dT (bind2 fGt (dVar 2) (dVar 3))) (dRet (dC .non)) dPass) (dRet (dTup (dCons (dFz 2) (dCons (dFz 3) dNil)))))))
def F_common_lengths : DF := runD false 4 m_common_lengths

abbrev st_between : Stmt := topS 18
theorem sc_between : FnScope ["one", "other"] ["one", "other"] (defScope st_between) := ⟨rfl, rfl, rfl, by decide +kernel, rfl, by decide +kernel, by decide +kernel⟩
def m_between : DS := (dSeq (dDrop (dCall F_check_told (dCons (dFz 0) dNil))) (dSeq (dDrop (dCall F_check_told (dCons (dFz 1) dNil))) (dRet (dCall F_common_lengths (dCons (dCall F_lengths_of (dCons (bind2 fIx (dVar 0) (dC (.int 0))) (dCons (bind2 fIx (dVar 0) (dC (.int 1))) (dCons (bind2 fIx (dVar 0) (dC (.int 2))) dNil)))) (dCons (dCall F_lengths_of (dCons (bind2 fIx (dVar 1) (dC (.int 0))) (dCons (bind2 fIx (dVar 1) (dC (.int 1))) (dCons (bind2 fIx (dVar 1) (dC (.int 2))) dNil)))) dNil))))))
def F_between : DF := runD false 2 m_between

abbrev st__law_refused : Stmt := topS 27
theorem sc__law_refused : FnScope ["kind", "one", "other", "e"] ["kind", "one", "other"] (defScope st__law_refused) := ⟨rfl, rfl, rfl, by decide +kernel, rfl, by decide +kernel, by decide +kernel⟩
def m__law_refused : DS := (dSeq (dTry1 (dIf (dT (bind2 fEq (dVar 0) (dC (.int 0)))) (dDrop (dCall F_length (dCons (bind2 fIx (dVar 1) (dC (.int 0))) (dCons (bind2 fIx (dVar 1) (dC (.int 1))) (dCons (bind2 fIx (dVar 1) (dC (.int 2))) dNil))))) (dIf (dT (bind2 fEq (dVar 0) (dC (.int 1)))) (dDrop (dCall F_between (dCons (dFz 1) (dCons (dFz 2) dNil)))) (dIf (dT (bind2 fEq (dVar 0) (dC (.int 2)))) (dDrop (dCall F_between (dCons (dFz 2) (dCons (dFz 1) dNil)))) (dDrop (dCall F_scale_of (dCons (bind2 fIx (dVar 1) (dC (.int 0))) (dCons (bind2 fIx (dVar 1) (dC (.int 1))) (dCons (bind2 fIx (dVar 1) (dC (.int 2))) (dCons (bind2 fIx (dVar 1) (dC (.int 3))) dNil))))))))) "BadNumber" 3 (.bl true)) (dRet (dC (.bl false))))
def F__law_refused : DF := runD false 4 m__law_refused

abbrev st_law : Stmt := topS 29
theorem sc_law : FnScope ["script", "state", "one", "other", "low", "high", "due", "parts", "error", "ends", "at", "wrong", "spot", "bad", "bent", "kind"] ["script"] (defScope st_law) := ⟨rfl, rfl, rfl, by decide +kernel, rfl, by decide +kernel, by decide +kernel⟩
def m_law : DS := (dSeq (dAsg 1 (dCall F__law_start (dCons (dFz 0) dNil))) (dSeq (dAsg 2 (dCallL F__law_reading 1 dNil)) (dSeq (dAsg 3 (dCallL F__law_other 1 (dCons (dFz 2) dNil))) (dSeq (dIf (dNot (dT (dCall (F__law_alike 6) (dCons (dCall F_length (dCons (bind2 fIx (dVar 2) (dC (.int 0))) (dCons (bind2 fIx (dVar 2) (dC (.int 1))) (dCons (bind2 fIx (dVar 2) (dC (.int 2))) dNil)))) (dCons (dCall F__law_bounds (dCons (dFz 2) dNil)) dNil))))) (dRet (dC (.bl false))) dPass) (dSeq (dIf (dNot (dT (dCall (F__law_alike 6) (dCons (dCall (dPerm [0, 1, 2] F_length) (dCons (bind2 fIx (dVar 3) (dC (.int 0))) (dCons (bind2 fIx (dVar 3) (dC (.int 1))) (dCons (bind2 fIx (dVar 3) (dC (.int 2))) dNil)))) (dCons (dCall F__law_bounds (dCons (dFz 3) dNil)) dNil))))) (dRet (dC (.bl false))) dPass) (dSeq (dAsg 4 (bind2 fMax2 (bind2 fIx (dCall F__law_bounds (dCons (dFz 2) dNil)) (dC (.int 0))) (bind2 fIx (dCall F__law_bounds (dCons (dFz 3) dNil)) (dC (.int 0))))) (dSeq (dAsg 5 (bind2 fMin2 (bind2 fIx (dCall F__law_bounds (dCons (dFz 2) dNil)) (dC (.int 1))) (bind2 fIx (dCall F__law_bounds (dCons (dFz 3) dNil)) (dC (.int 1))))) (dSeq (dAsg 6 (dTup (dCons (dFz 4) (dCons (dFz 5) dNil)))) (dSeq (dIf (dT (bind2 fGt (dVar 4) (dVar 5))) (dAsg 6 (dC .non)) dPass) (dSeq (dIf (dOr (dNot (dT (dCall (F__law_alike 6) (dCons (dCall F_between (dCons (dFz 2) (dCons (dFz 3) dNil))) (dCons (dFz 6) dNil))))) (dNot (dT (dCall (F__law_alike 6) (dCons (dCall F_between (dCons (dFz 3) (dCons (dFz 2) dNil))) (dCons (dFz 6) dNil)))))) (dRet (dC (.bl false))) dPass) (dSeq (dAsg 7 (dCallL F__law_take 1 (dCons (dC (.int 40)) dNil))) (dSeq (dAsg 8 (dCallL F__law_take 1 (dCons (dC (.int 5)) dNil))) (dSeq (dAsg 9 (dCall F__law_bounds (dCons (dTup (dCons (bind2 fPlus (dC (.int 1)) (dCallL F__law_take 1 (dCons (dC (.int 110)) dNil))) (dCons (dFz 7) (dCons (dFz 8) dNil)))) dNil))) (dSeq (dAsg 4 (bind2 fMax2 (dC (.int 0)) (bind2 fSub (bind2 fIx (dVar 9) (dC (.int 0))) (dCallL F__law_take 1 (dCons (dC (.int 4)) dNil))))) (dSeq (dAsg 5 (bind2 fPlus (bind2 fIx (dVar 9) (dCallL F__law_take 1 (dCons (dC (.int 2)) dNil))) (dCallL F__law_take 1 (dCons (dC (.int 3)) dNil)))) (dSeq (dIf (dNot (dT (dCall (F__law_alike 6) (dCons (dCall F_scale_of (dCons (dFz 7) (dCons (dFz 8) (dCons (dFz 4) (dCons (dFz 5) dNil))))) (dCons (dCall F__law_scales (dCons (dFz 7) (dCons (dFz 8) (dCons (dFz 4) (dCons (dFz 5) dNil))))) dNil))))) (dRet (dC (.bl false))) dPass) (dSeq (dAsg 10 (dCallL F__law_take 1 (dCons (dC (.int 3)) dNil))) (dSeq (dFor (dItems (dTup (dCons (bind1 fNeg (dC (.int 1))) (dCons (dC (.bl true)) (dCons (dC .non) (dCons (dC (.str "2")) (dCons (dTup (dCons (dC (.int 2)) (dCons (dC (.int 1)) dNil))) dNil))))))) (tgN 11) (dSeq (dAsg 14 (bind2 fPlus (bind2 fPlus (dSl (dVar 2) dNo (dAt (dVar 10))) (dTup (dCons (dFz 11) dNil))) (dSl (dVar 2) (dAt (bind2 fPlus (dVar 10) (dC (.int 1)))) dNo))) (dIf (dNot (dT (bind1 fAll (dLc (dRange1 (dCons (dC (.int 3)) dNil)) (tgN 15) dYes (dCall F__law_refused (dCons (dFz 15) (dCons (dFz 14) (dCons (dFz 3) dNil)))) [15])))) (dRet (dC (.bl false))) dPass))) (dSeq (dAsg 12 (dCallL F__law_take 1 (dCons (dC (.int 2)) dNil))) (dSeq (dFor (dItems (dTup (dCons (bind1 fNeg (dC (.int 1))) (dCons (dC (.bl false)) (dCons (dC .non) (dCons (dC (.str "2")) dNil)))))) (tgN 11) (dSeq (dAsg 14 (bind2 fPlus (bind2 fPlus (dSl (dTup (dCons (dFz 7) (dCons (dFz 8) (dCons (dFz 4) (dCons (dFz 5) dNil))))) dNo (dAt (dVar 12))) (dTup (dCons (dFz 11) dNil))) (dSl (dTup (dCons (dFz 7) (dCons (dFz 8) (dCons (dFz 4) (dCons (dFz 5) dNil))))) (dAt (bind2 fPlus (dVar 12) (dC (.int 1)))) dNo))) (dIf (dNot (dT (dCall F__law_refused (dCons (dC (.int 3)) (dCons (dFz 14) (dCons (dFz 3) dNil)))))) (dRet (dC (.bl false))) dPass))) (dSeq (dIf (dOr (dNot (dT (dCall F__law_refused (dCons (dC (.int 0)) (dCons (bind2 fPlus (dTup (dCons (dC (.int 0)) dNil)) (dSl (dVar 2) (dAt (dC (.int 1))) dNo)) (dCons (dFz 3) dNil)))))) (dNot (dT (dCall F__law_refused (dCons (dC (.int 1)) (dCons (bind2 fPlus (dTup (dCons (dC (.int 0)) dNil)) (dSl (dVar 2) (dAt (dC (.int 1))) dNo)) (dCons (dFz 3) dNil))))))) (dRet (dC (.bl false))) dPass) (dSeq (dFor (dItems (dTup (dCons (dFrE (bind1 fLstOf (dVar 2))) (dCons (dSl (dVar 2) dNo (dAt (dC (.int 2)))) (dCons (bind2 fPlus (dVar 2) (dTup (dCons (dC (.int 0)) dNil))) (dCons (dC .non) dNil)))))) (tgN 13) (dIf (dOr (dNot (dT (dCall F__law_refused (dCons (dC (.int 1)) (dCons (dFz 13) (dCons (dFz 3) dNil)))))) (dNot (dT (dCall F__law_refused (dCons (dC (.int 2)) (dCons (dFz 13) (dCons (dFz 3) dNil))))))) (dRet (dC (.bl false))) dPass)) (dRet (dC (.bl true)))))))))))))))))))))))))
def F_law : DF := runD false 16 m_law

abbrev ix_MapError : Nat := 20
abbrev ix_BadPoint : Nat := 21
abbrev ix_BadCorners : Nat := 22
abbrev ix_BadShop : Nat := 23
structure Txt (K : PySem.W.Frag) (mg : Str → Option Value) (a : Nat → Addr) (fd : Nat → FuncData) : Prop where
  f__law_start : Fun K "_law_start" "_law_start" st__law_start (a 0) (fd 0)
  g__law_start : mg "_law_start" = some (.ref (a 0))
  b__law_start : Binds K (fd 0) ["script"] []
  f__law_take : Fun K "_law_take" "_law_take" st__law_take (a 1) (fd 1)
  g__law_take : mg "_law_take" = some (.ref (a 1))
  b__law_take : Binds K (fd 1) ["state", "many"] []
  f__law_reading : Fun K "_law_reading" "_law_reading" st__law_reading (a 2) (fd 2)
  g__law_reading : mg "_law_reading" = some (.ref (a 2))
  b__law_reading : Binds K (fd 2) ["state"] []
  f__law_bounds : Fun K "_law_bounds" "_law_bounds" st__law_bounds (a 3) (fd 3)
  g__law_bounds : mg "_law_bounds" = some (.ref (a 3))
  b__law_bounds : Binds K (fd 3) ["reading"] []
  f__law_other : Fun K "_law_other" "_law_other" st__law_other (a 4) (fd 4)
  g__law_other : mg "_law_other" = some (.ref (a 4))
  b__law_other : Binds K (fd 4) ["state", "reading"] []
  f__law_alike : Fun K "_law_alike" "_law_alike" st__law_alike (a 5) (fd 5)
  g__law_alike : mg "_law_alike" = some (.ref (a 5))
  b__law_alike : Binds K (fd 5) ["told", "due"] []
  f_is_int : Fun K "is_int" "is_int" st_is_int (a 6) (fd 6)
  g_is_int : mg "is_int" = some (.ref (a 6))
  b_is_int : Binds K (fd 6) ["value"] []
  f_is_count : Fun K "is_count" "is_count" st_is_count (a 7) (fd 7)
  g_is_count : mg "is_count" = some (.ref (a 7))
  b_is_count : Binds K (fd 7) ["value", "least"] []
  f_check_counts : Fun K "check_counts" "check_counts" st_check_counts (a 8) (fd 8)
  g_check_counts : mg "check_counts" = some (.ref (a 8))
  b_check_counts : Binds K (fd 8) ["values"] []
  f_check_reading : Fun K "check_reading" "check_reading" st_check_reading (a 9) (fd 9)
  g_check_reading : mg "check_reading" = some (.ref (a 9))
  b_check_reading : Binds K (fd 9) ["scale", "parts", "error"] []
  f_lengths_of : Fun K "lengths_of" "lengths_of" st_lengths_of (a 10) (fd 10)
  g_lengths_of : mg "lengths_of" = some (.ref (a 10))
  b_lengths_of : Binds K (fd 10) ["scale", "parts", "error"] []
  f_length : Fun K "length" "length" st_length (a 11) (fd 11)
  g_length : mg "length" = some (.ref (a 11))
  b_length : Binds K (fd 11) ["scale", "parts", "error"] []
  f_scale_of : Fun K "scale_of" "scale_of" st_scale_of (a 12) (fd 12)
  g_scale_of : mg "scale_of" = some (.ref (a 12))
  b_scale_of : Binds K (fd 12) ["parts", "error", "least", "greatest"] []
  f__law_scales : Fun K "_law_scales" "_law_scales" st__law_scales (a 13) (fd 13)
  g__law_scales : mg "_law_scales" = some (.ref (a 13))
  b__law_scales : Binds K (fd 13) ["parts", "error", "low", "high"] []
  f_check_told : Fun K "check_told" "check_told" st_check_told (a 14) (fd 14)
  g_check_told : mg "check_told" = some (.ref (a 14))
  b_check_told : Binds K (fd 14) ["reading"] []
  f_common_lengths : Fun K "common_lengths" "common_lengths" st_common_lengths (a 15) (fd 15)
  g_common_lengths : mg "common_lengths" = some (.ref (a 15))
  b_common_lengths : Binds K (fd 15) ["one", "other"] []
  f_between : Fun K "between" "between" st_between (a 16) (fd 16)
  g_between : mg "between" = some (.ref (a 16))
  b_between : Binds K (fd 16) ["one", "other"] []
  f__law_refused : Fun K "_law_refused" "_law_refused" st__law_refused (a 17) (fd 17)
  g__law_refused : mg "_law_refused" = some (.ref (a 17))
  b__law_refused : Binds K (fd 17) ["kind", "one", "other"] []
  f_law : Fun K "law" "law" st_law (a 18) (fd 18)
  g_law : mg "law" = some (.ref (a 18))
  b_law : Binds K (fd 18) ["script"] []
  e_BadNumber : ExcT K mg "BadNumber" (a 19)
  x_BadNumber : PySem.W.excIn K (a 19) [.type "ValueError", .type "Exception", .type "BaseException", .type "object"] "ValueError.__new__" = true
  c_BadNumber : (gx K mg).cn "BadNumber" = some (a 19)
  g_MapError : mg "MapError" = some (.ref (a ix_MapError))
  g_BadPoint : mg "BadPoint" = some (.ref (a ix_BadPoint))
  g_BadCorners : mg "BadCorners" = some (.ref (a ix_BadCorners))
  g_BadShop : mg "BadShop" = some (.ref (a ix_BadShop))
  m_BadNumber : PySem.W.exmOne K (.ref (a 19)) (.ref (a 19)) = some true
  q_BadNumber : ExcC K (a 19) ∧ PySem.W.kitOne K (.ref (a 19)) (.ref (a ix_MapError)) = some true ∧ PySem.W.kitAny K (.ref (a 19)) [.ref (a ix_BadPoint), .ref (a ix_BadCorners), .ref (a ix_BadShop)] = some false
  n_all : mg "all" = none
  n_bool : mg "bool" = none
  n_int : mg "int" = none
  n_isinstance : mg "isinstance" = none
  n_len : mg "len" = none
  n_list : mg "list" = none
  n_max : mg "max" = none
  n_min : mg "min" = none
  n_range : mg "range" = none
  n_str : mg "str" = none
  n_tuple : mg "tuple" = none
  k_MOST_SCALE : ∃ t, mg "MOST_SCALE" = some (.int 99 t)
section
variable {P : Program} {w : World} {K : PySem.W.Frag} {mg : Str → Option Value} {base : Heap} {a : Nat → Addr} {fd : Nat → FuncData}
theorem ok__law_start (T : Txt K mg a fd) : FnOk P w K mg base (L2.CX P w) 1 (a 0) (fd 0) ["script"] (spD (gx K mg) 1 false F__law_start) :=
  fn0 T.f__law_start sc__law_start (fun cdv A outer s H E hr => by
  have tk := @tk_fn P w K mg base "_law_start" (a 0) ["script", "cells", "first", "plain", "cell"] (gx K mg) [] cdv A outer s H E (defScope st__law_start)
  exact (show PSs _ _ (tS _ m__law_start) from
    (b_cons (s_lc (i := 1) (own := [("cell", 4)]) rfl sc__law_start.nd rfl rfl (sw_true rfl rfl rfl (by decide +kernel)) (i_items (e_fz (pv 0))) (blkOk_by (own := [("cell", 4)]) (N := ["script", "cells", "first", "plain", "cell"]) (sc := defScope st__law_start) (by decide +kernel)) (fun _ _ _ _ _ => (pg_name (i := 4) sc__law_start.nd rfl (.inl rfl))) (tgN_ok (by rfl)) (tgIn_N (by decide)) (fun _ _ _ _ _ => ts_nil) (fun _ _ _ _ _ => (e_b1 (pe_callTy call_int1 (by rfl) T.n_int bb_int (pa_cons (e_var (pv 4)) pa_nil)) o_int1)))
    (b_cons (s_asg (i := 2) sc__law_start.nd rfl (.inl rfl) e_int)
    (b_cons (s_if (PW.pt (w_and (t_cmp op_gt o_gt (bl_cmp _) (e_b1 (pe_callB call_len (by rfl) T.n_len bb_len (pa_cons (e_var (pv 1)) pa_nil)) o_len) e_int (nomark _)) (w_and1 (t_cmp op_ge o_ge (bl_cmp _) (e_ix ix_seq o_ix (e_var (pv 1)) e_int (fun _ _ => rfl)) (e_op op_pow o_pow e_int e_int) (nomark _)))))
    (b_one (s_asg (i := 2) sc__law_start.nd rfl (.inl rfl) (e_ix ix_seq o_ix (e_var (pv 1)) e_int (fun _ _ => rfl))))
    b_nil)
    (b_cons (s_asg (i := 3) sc__law_start.nd rfl (.inl rfl) (e_and (e_cmp op_gt o_gt (e_b1 (pe_callB call_len (by rfl) T.n_len bb_len (pa_cons (e_var (pv 1)) pa_nil)) o_len) e_int (nomark _)) (e_one (e_cmp (x_eq hr) o_eq (e_op op_mod o_mod (e_b1 (pe_callTy call_int1 (by rfl) T.n_int bb_int (pa_cons (e_ix ix_seq o_ix (e_var (pv 1)) e_int (fun _ _ => rfl)) pa_nil)) o_int1) e_int) e_int (nomark _)))))
    (b_one (s_ret (e_lst (a_cons (e_fz (pv 1)) (a_cons e_int (a_cons (e_fz (pv 2)) (a_cons (e_fz (pv 3)) (a_cons (e_op x_add m_add e_int (e_b1 (pe_callB call_len (by rfl) T.n_len bb_len (pa_cons (e_var (pv 1)) pa_nil)) o_len)) a_nil))))))))))))))

theorem ok__law_take (T : Txt K mg a fd) : FnOk P w K mg base (L2.CX P w) 1 (a 1) (fd 1) ["state", "many"] (spD (gx K mg) 2 true F__law_take) :=
  fn1 T.f__law_take sc__law_take (by decide) (fun v0 cdv A outer s H E hr => by
  have tk := @tk_fn P w K mg base "_law_take" (a 1) ["state", "many", "cells", "at", "cell", "mixed", "back"] (gx K mg) [(0, v0)] cdv A outer s H E (defScope st__law_take)
  exact (show PSs _ _ (tS _ m__law_take) from
    (b_cons (s_if (t_cmp op_gt o_gt (bl_cmp _) (e_ix ix_seq o_ix (e_var (pv 0)) e_int (fun _ _ => rfl)) e_int (nomark _))
    (b_cons (s_asg (i := 6) sc__law_take.nd rfl (.inl rfl) (e_op op_mod o_mod (e_b1 (pe_callTy call_int1 (by rfl) T.n_int bb_int (pa_cons (e_ix ix_seq o_ix (e_var (pv 0)) e_int (fun _ _ => rfl)) pa_nil)) o_int1) (e_var (pv 1))))
    (b_cons (s_setI (ps_asg (e_op op_fdivW m_div (e_ix ix_seq o_ix (e_var (pv 0)) e_int (fun _ _ => rfl)) (e_var (pv 1))) (pg_sub (pv 0) e_int set_list)))
    (b_one (s_ret (e_mv (pv 6))))))
    b_nil)
    (b_cons (s_asg (i := 2) sc__law_take.nd rfl (.inl rfl) (e_ix ix_seq o_ix (e_var (pv 0)) e_int (fun _ _ => rfl)))
    (b_cons (s_asg (i := 3) sc__law_take.nd rfl (.inl rfl) (e_ix ix_seq o_ix (e_var (pv 0)) e_int (fun _ _ => rfl)))
    (b_cons (s_setI (ps_asg (e_op x_add m_add (e_var (pv 3)) e_int) (pg_sub (pv 0) e_int set_list)))
    (b_cons (s_asg (i := 4) sc__law_take.nd rfl (.inl rfl) e_int)
    (b_cons (s_if (t_cmp op_gt o_gt (bl_cmp _) (e_b1 (pe_callB call_len (by rfl) T.n_len bb_len (pa_cons (e_var (pv 2)) pa_nil)) o_len) e_int (nomark _))
    (b_one (s_asg (i := 4) sc__law_take.nd rfl (.inl rfl) (e_ix ix_seq o_ix (e_var (pv 2)) (e_op op_mod o_mod (e_b1 (pe_callTy call_int1 (by rfl) T.n_int bb_int (pa_cons (e_var (pv 3)) pa_nil)) o_int1) (e_b1 (pe_callB call_len (by rfl) T.n_len bb_len (pa_cons (e_var (pv 2)) pa_nil)) o_len)) (fun _ _ => rfl))))
    b_nil)
    (b_cons (s_if (PW.pt (w_and (t_any (e_ix ix_seq o_ix (e_var (pv 0)) e_int (fun _ _ => rfl))) (w_and1 (t_cmp op_lt o_lt (bl_cmp _) (e_var (pv 3)) (e_b1 (pe_callB call_len (by rfl) T.n_len bb_len (pa_cons (e_var (pv 2)) pa_nil)) o_len) (nomark _)))))
    (b_one (s_ret (e_op op_mod o_mod (e_b1 (pe_callTy call_int1 (by rfl) T.n_int bb_int (pa_cons (e_var (pv 4)) pa_nil)) o_int1) (e_var (pv 1)))))
    b_nil)
    (b_cons (s_asg (i := 5) sc__law_take.nd rfl (.inl rfl) (e_op op_mod o_mod (e_b1 (pe_callTy call_int1 (by rfl) T.n_int bb_int (pa_cons (e_op x_add m_add (e_op x_add m_add (e_op x_add m_add (e_op op_mul o_mul (e_ix ix_seq o_ix (e_var (pv 0)) e_int (fun _ _ => rfl)) e_int) (e_var (pv 4))) (e_op op_mul o_mul e_int (e_var (pv 3)))) e_int) pa_nil)) o_int1) e_int))
    (b_cons (s_setI (ps_asg (e_fz (pv 5)) (pg_sub (pv 0) e_int set_list)))
    (b_one (s_ret (e_op op_mod o_mod (e_b1 (pe_callTy call_int1 (by rfl) T.n_int bb_int (pa_cons (e_op op_fdivW m_div (e_op op_mod o_mod (e_b1 (pe_callTy call_int1 (by rfl) T.n_int bb_int (pa_cons (e_op x_add m_add (e_op op_mul o_mul (e_var (pv 5)) (e_var (pv 5))) (e_op op_mul o_mul e_int (e_var (pv 5)))) pa_nil)) o_int1) e_int) e_int) pa_nil)) o_int1) (e_var (pv 1))))))))))))))))

theorem ok__law_reading (T : Txt K mg a fd) : FnOk P w K mg base (L2.CX P w) 2 (a 2) (fd 2) ["state"] (spD (gx K mg) 1 true F__law_reading) :=
  fn1 T.f__law_reading sc__law_reading (by decide) (fun v0 cdv A outer s H E hr => by
  have tk := @tk_fn P w K mg base "_law_reading" (a 2) ["state", "scale", "parts", "error"] (gx K mg) [(0, v0)] cdv A outer s H E (defScope st__law_reading)
  exact (show PSs _ _ (tS _ m__law_reading) from
    (b_cons (s_asg (i := 1) sc__law_reading.nd rfl (.inl rfl) (e_ix ix_seq o_ix (e_tup (a_cons e_int (a_cons (e_op x_add m_add e_int (e_callL (ok__law_take T) (hr.mono (by decide)) (by rfl) T.g__law_take T.f__law_take.kp T.b__law_take tk (pv 0) (a_cons e_int a_nil) (len_cons len_nil))) (a_cons (e_op x_add m_add e_int (e_callL (ok__law_take T) (hr.mono (by decide)) (by rfl) T.g__law_take T.f__law_take.kp T.b__law_take tk (pv 0) (a_cons (e_op op_pow o_pow e_int e_int) a_nil) (len_cons len_nil))) a_nil)))) (e_callL (ok__law_take T) (hr.mono (by decide)) (by rfl) T.g__law_take T.f__law_take.kp T.b__law_take tk (pv 0) (a_cons e_int a_nil) (len_cons len_nil)) (fun _ _ => rfl)))
    (b_cons (s_asg (i := 2) sc__law_reading.nd rfl (.inl rfl) (e_ix ix_seq o_ix (e_tup (a_cons e_int (a_cons (e_callL (ok__law_take T) (hr.mono (by decide)) (by rfl) T.g__law_take T.f__law_take.kp T.b__law_take tk (pv 0) (a_cons e_int a_nil) (len_cons len_nil)) (a_cons (e_callL (ok__law_take T) (hr.mono (by decide)) (by rfl) T.g__law_take T.f__law_take.kp T.b__law_take tk (pv 0) (a_cons (e_op op_pow o_pow e_int e_int) a_nil) (len_cons len_nil)) a_nil)))) (e_callL (ok__law_take T) (hr.mono (by decide)) (by rfl) T.g__law_take T.f__law_take.kp T.b__law_take tk (pv 0) (a_cons e_int a_nil) (len_cons len_nil)) (fun _ _ => rfl)))
    (b_cons (s_asg (i := 3) sc__law_reading.nd rfl (.inl rfl) (e_ix ix_seq o_ix (e_tup (a_cons e_int (a_cons (e_fz (pv 2)) (a_cons (e_op x_add m_add (e_var (pv 2)) e_int) (a_cons (e_callL (ok__law_take T) (hr.mono (by decide)) (by rfl) T.g__law_take T.f__law_take.kp T.b__law_take tk (pv 0) (a_cons e_int a_nil) (len_cons len_nil)) a_nil))))) (e_callL (ok__law_take T) (hr.mono (by decide)) (by rfl) T.g__law_take T.f__law_take.kp T.b__law_take tk (pv 0) (a_cons e_int a_nil) (len_cons len_nil)) (fun _ _ => rfl)))
    (b_one (s_ret (e_tup (a_cons (e_fz (pv 1)) (a_cons (e_fz (pv 2)) (a_cons (e_fz (pv 3)) a_nil)))))))))))

theorem ok__law_bounds (T : Txt K mg a fd) : FnOk P w K mg base (L2.CX P w) 1 (a 3) (fd 3) ["reading"] (spD (gx K mg) 1 false F__law_bounds) :=
  fn0 T.f__law_bounds sc__law_bounds (fun cdv A outer s H E hr => by
  have tk := @tk_fn P w K mg base "_law_bounds" (a 3) ["reading"] (gx K mg) [] cdv A outer s H E (defScope st__law_bounds)
  exact (show PSs _ _ (tS _ m__law_bounds) from
    (b_one (s_ret (e_tup (a_cons (e_op op_mul o_mul (e_b2 (pe_callB (call_max2 rfl) (by rfl) T.n_max bb_max (pa_cons e_int (pa_cons (e_op op_sub o_sub (e_ix ix_seq o_ix (e_var (pv 0)) e_int (fun _ _ => rfl)) (e_ix ix_seq o_ix (e_var (pv 0)) e_int (fun _ _ => rfl))) pa_nil))) o_max2) (e_ix ix_seq o_ix (e_var (pv 0)) e_int (fun _ _ => rfl))) (a_cons (e_op op_mul o_mul (e_op x_add m_add (e_ix ix_seq o_ix (e_var (pv 0)) e_int (fun _ _ => rfl)) (e_ix ix_seq o_ix (e_var (pv 0)) e_int (fun _ _ => rfl))) (e_ix ix_seq o_ix (e_var (pv 0)) e_int (fun _ _ => rfl))) a_nil)))))))

theorem ok__law_other (T : Txt K mg a fd) : FnOk P w K mg base (L2.CX P w) 3 (a 4) (fd 4) ["state", "reading"] (spD (gx K mg) 2 true F__law_other) :=
  fn1 T.f__law_other sc__law_other (by decide) (fun v0 cdv A outer s H E hr => by
  have tk := @tk_fn P w K mg base "_law_other" (a 4) ["state", "reading", "scale", "edge", "error"] (gx K mg) [(0, v0)] cdv A outer s H E (defScope st__law_other)
  exact (show PSs _ _ (tS _ m__law_other) from
    (b_cons (s_if (t_cmp (x_eq hr) o_eq bl_eq (e_callL (ok__law_take T) (hr.mono (by decide)) (by rfl) T.g__law_take T.f__law_take.kp T.b__law_take tk (pv 0) (a_cons e_int a_nil) (len_cons len_nil)) e_int (nomark _))
    (b_one (s_ret (e_callL (ok__law_reading T) (hr.mono (by decide)) (by rfl) T.g__law_reading T.f__law_reading.kp T.b__law_reading tk (pv 0) a_nil len_nil)))
    b_nil)
    (b_cons (s_asg (i := 2) sc__law_other.nd rfl (.inl rfl) (e_op x_add m_add e_int (e_callL (ok__law_take T) (hr.mono (by decide)) (by rfl) T.g__law_take T.f__law_take.kp T.b__law_take tk (pv 0) (a_cons e_int a_nil) (len_cons len_nil))))
    (b_cons (s_asg (i := 3) sc__law_other.nd rfl (.inl rfl) (e_ix ix_seq o_ix (e_call (ok__law_bounds T) (hr.mono (by decide)) (by rfl) T.g__law_bounds T.f__law_bounds.kp T.b__law_bounds tk (a_cons (e_fz (pv 1)) a_nil) (len_cons len_nil)) (e_callL (ok__law_take T) (hr.mono (by decide)) (by rfl) T.g__law_take T.f__law_take.kp T.b__law_take tk (pv 0) (a_cons e_int a_nil) (len_cons len_nil)) (fun _ _ => rfl)))
    (b_cons (s_asg (i := 4) sc__law_other.nd rfl (.inl rfl) (e_callL (ok__law_take T) (hr.mono (by decide)) (by rfl) T.g__law_take T.f__law_take.kp T.b__law_take tk (pv 0) (a_cons e_int a_nil) (len_cons len_nil)))
    (b_one (s_ret (e_tup (a_cons (e_fz (pv 2)) (a_cons (e_b2 (pe_callB (call_max2 rfl) (by rfl) T.n_max bb_max (pa_cons e_int (pa_cons (e_op x_add m_add (e_op op_sub o_sub (e_op x_add m_add (e_op op_fdivW m_div (e_var (pv 3)) (e_var (pv 2))) (e_callL (ok__law_take T) (hr.mono (by decide)) (by rfl) T.g__law_take T.f__law_take.kp T.b__law_take tk (pv 0) (a_cons e_int a_nil) (len_cons len_nil))) e_int) (e_ix ix_seq o_ix (e_tup (a_cons (e_fz (pv 4)) (a_cons (e_un un_neg o_neg (e_var (pv 4))) a_nil))) (e_callL (ok__law_take T) (hr.mono (by decide)) (by rfl) T.g__law_take T.f__law_take.kp T.b__law_take tk (pv 0) (a_cons e_int a_nil) (len_cons len_nil)) (fun _ _ => rfl))) pa_nil))) o_max2) (a_cons (e_fz (pv 4)) a_nil))))))))))))

theorem ok__law_alike (T : Txt K mg a fd) : ∀ n : Nat, FnOk P w K mg base (L2.CX P w) (1 + n) (a 5) (fd 5) ["told", "due"] (spD (gx K mg) 2 false (F__law_alike n))
  | 0 => fn_bad rfl
  | n + 1 => by
    have IH := ok__law_alike T n
    exact fn0 T.f__law_alike sc__law_alike (fun cdv A outer s H E hr => by
  have tk := @tk_fn P w K mg base "_law_alike" (a 5) ["told", "due", "k"] (gx K mg) [] cdv A outer s H E (defScope st__law_alike)
  exact (show PSs _ _ (tS _ (m__law_alike (F__law_alike n))) from
    (b_cons (s_if (t_cmp op_isN o_is bl_is (e_var (pv 1)) e_non (nomark _))
    (b_one (s_ret (e_cmp op_isN o_is (e_var (pv 0)) e_non (nomark _))))
    b_nil)
    (b_cons (s_if (t_any (e_isi .tup (pe_callB call_isi (by rfl) T.n_isinstance bb_isinstance (pa_cons (e_var (pv 1)) (pa_cons (pe_bltn (by rfl) T.n_tuple bb_tuple rfl) pa_nil)))))
    (b_cons (s_if (PW.pt (w_or (t_not (t_any (e_isi .tup (pe_callB call_isi (by rfl) T.n_isinstance bb_isinstance (pa_cons (e_var (pv 0)) (pa_cons (pe_bltn (by rfl) T.n_tuple bb_tuple rfl) pa_nil)))))) (w_or1 (t_cmp (x_ne hr) o_ne bl_ne (e_b1 (pe_callB call_len (by rfl) T.n_len bb_len (pa_cons (e_var (pv 0)) pa_nil)) o_len) (e_b1 (pe_callB call_len (by rfl) T.n_len bb_len (pa_cons (e_var (pv 1)) pa_nil)) o_len) (nomark _)))))
    (b_one (s_ret e_bl))
    b_nil)
    (b_one (s_ret (e_b1 (pe_callB (cr_all rfl) (by rfl) T.n_all bb_all (pa_cons (e_lc (own := [("k", 2)]) rfl sc__law_alike.nd (i_range1 (by rfl) T.n_range (a_cons (e_b1 (pe_callB call_len (by rfl) T.n_len bb_len (pa_cons (e_var (pv 1)) pa_nil)) o_len) a_nil)) (blkOk_by (own := [("k", 2)]) (N := ["told", "due", "k"]) (sc := defScope st__law_alike) (by decide +kernel)) (fun _ _ _ _ _ => (pg_name (i := 2) sc__law_alike.nd rfl (.inl rfl))) (tgN_ok (by rfl)) (tgIn_N (by decide)) (fun _ _ _ _ _ => ts_nil) (fun _ _ _ _ _ => (e_call IH (hr.mono (Nat.le_refl _)) (by rfl) T.g__law_alike T.f__law_alike.kp T.b__law_alike tk_in (a_cons (e_ix ix_seq o_ix (e_var (pv 0)) (e_var (pv 2)) (fun _ _ => rfl)) (a_cons (e_ix ix_seq o_ix (e_var (pv 1)) (e_var (pv 2)) (fun _ _ => rfl)) a_nil)) (len_cons (len_cons len_nil))))) pa_nil)) o_all))))
    b_nil)
    (b_cons (s_if (t_any (e_isi .bool (pe_callB call_isi (by rfl) T.n_isinstance bb_isinstance (pa_cons (e_var (pv 1)) (pa_cons (pe_bltn (by rfl) T.n_bool bb_bool rfl) pa_nil)))))
    (b_one (s_ret (e_and (e_isi .bool (pe_callB call_isi (by rfl) T.n_isinstance bb_isinstance (pa_cons (e_var (pv 0)) (pa_cons (pe_bltn (by rfl) T.n_bool bb_bool rfl) pa_nil)))) (e_one (e_cmp (x_eq hr) o_eq (e_var (pv 0)) (e_var (pv 1)) (nomark _))))))
    b_nil)
    (b_cons (s_if (t_any (e_isi .int (pe_callB call_isi (by rfl) T.n_isinstance bb_isinstance (pa_cons (e_var (pv 1)) (pa_cons (pe_bltn (by rfl) T.n_int bb_int rfl) pa_nil)))))
    (b_one (s_ret (e_and (e_isi .int (pe_callB call_isi (by rfl) T.n_isinstance bb_isinstance (pa_cons (e_var (pv 0)) (pa_cons (pe_bltn (by rfl) T.n_int bb_int rfl) pa_nil)))) (e_and (e_not (e_isi .bool (pe_callB call_isi (by rfl) T.n_isinstance bb_isinstance (pa_cons (e_var (pv 0)) (pa_cons (pe_bltn (by rfl) T.n_bool bb_bool rfl) pa_nil))))) (e_one (e_cmp (x_eq hr) o_eq (e_var (pv 0)) (e_var (pv 1)) (nomark _)))))))
    b_nil)
    (b_one (s_ret (e_and (e_isi .str (pe_callB call_isi (by rfl) T.n_isinstance bb_isinstance (pa_cons (e_var (pv 0)) (pa_cons (pe_bltn (by rfl) T.n_str bb_str rfl) pa_nil)))) (e_one (e_cmp (x_eq hr) o_eq (e_var (pv 0)) (e_var (pv 1)) (nomark _))))))))))))

theorem ok_is_int (T : Txt K mg a fd) : FnOk P w K mg base (L2.CX P w) 1 (a 6) (fd 6) ["value"] (spD (gx K mg) 1 false F_is_int) :=
  fn0 T.f_is_int sc_is_int (fun cdv A outer s H E hr => by
  have tk := @tk_fn P w K mg base "is_int" (a 6) ["value"] (gx K mg) [] cdv A outer s H E (defScope st_is_int)
  exact (show PSs _ _ (tS _ m_is_int) from
    (b_one (s_ret (e_and (e_isi .int (pe_callB call_isi (by rfl) T.n_isinstance bb_isinstance (pa_cons (e_var (pv 0)) (pa_cons (pe_bltn (by rfl) T.n_int bb_int rfl) pa_nil)))) (e_one (e_not (e_isi .bool (pe_callB call_isi (by rfl) T.n_isinstance bb_isinstance (pa_cons (e_var (pv 0)) (pa_cons (pe_bltn (by rfl) T.n_bool bb_bool rfl) pa_nil)))))))))))

theorem ok_is_count (T : Txt K mg a fd) : FnOk P w K mg base (L2.CX P w) 2 (a 7) (fd 7) ["value", "least"] (spD (gx K mg) 2 false F_is_count) :=
  fn0 T.f_is_count sc_is_count (fun cdv A outer s H E hr => by
  have tk := @tk_fn P w K mg base "is_count" (a 7) ["value", "least"] (gx K mg) [] cdv A outer s H E (defScope st_is_count)
  exact (show PSs _ _ (tS _ m_is_count) from
    (b_one (s_ret (e_and (e_call (ok_is_int T) (hr.mono (by decide)) (by rfl) T.g_is_int T.f_is_int.kp T.b_is_int tk (a_cons (e_fz (pv 0)) a_nil) (len_cons len_nil)) (e_one (e_cmp op_ge o_ge (e_var (pv 0)) (e_var (pv 1)) (nomark _))))))))

theorem ok_check_counts (T : Txt K mg a fd) : FnOk P w K mg base (L2.CX P w) 3 (a 8) (fd 8) ["values"] (spD (gx K mg) 1 false F_check_counts) :=
  fn0 T.f_check_counts sc_check_counts (fun cdv A outer s H E hr => by
  have tk := @tk_fn P w K mg base "check_counts" (a 8) ["values", "value"] (gx K mg) [] cdv A outer s H E (defScope st_check_counts)
  exact (show PSs _ _ (tS _ m_check_counts) from
    (b_one (s_for po_fn rfl (i_items (e_fz (pv 0))) (pg_name (i := 1) sc_check_counts.nd rfl (.inl rfl)) (tgN_ok (by rfl))
    (b_one (s_if (t_not (t_any (e_call (ok_is_count T) (hr.mono (by decide)) (by rfl) T.g_is_count T.f_is_count.kp T.b_is_count tk (a_cons (e_fz (pv 1)) (a_cons e_int a_nil)) (len_cons (len_cons len_nil)))))
    (b_one (s_raise rfl tk (pmk_own PySem.F.excBase_ValueError T.x_BadNumber T.e_BadNumber.g T.e_BadNumber.k (raises_own T.e_BadNumber.b T.e_BadNumber.t) (by rfl)) (fun _ _ _ h => h) (T.c_BadNumber)))
    b_nil))))))

theorem ok_check_reading (T : Txt K mg a fd) : FnOk P w K mg base (L2.CX P w) 4 (a 9) (fd 9) ["scale", "parts", "error"] (spD (gx K mg) 3 false F_check_reading) :=
  fn0 T.f_check_reading sc_check_reading (fun cdv A outer s H E hr => by
  have tk := @tk_fn P w K mg base "check_reading" (a 9) ["scale", "parts", "error"] (gx K mg) [] cdv A outer s H E (defScope st_check_reading)
  exact (show PSs _ _ (tS _ m_check_reading) from
    (b_cons (s_if (t_not (t_any (e_call (ok_is_count T) (hr.mono (by decide)) (by rfl) T.g_is_count T.f_is_count.kp T.b_is_count tk (a_cons (e_fz (pv 0)) (a_cons e_int a_nil)) (len_cons (len_cons len_nil)))))
    (b_one (s_raise rfl tk (pmk_own PySem.F.excBase_ValueError T.x_BadNumber T.e_BadNumber.g T.e_BadNumber.k (raises_own T.e_BadNumber.b T.e_BadNumber.t) (by rfl)) (fun _ _ _ h => h) (T.c_BadNumber)))
    b_nil)
    (b_one (s_drop (e_call (ok_check_counts T) (hr.mono (by decide)) (by rfl) T.g_check_counts T.f_check_counts.kp T.b_check_counts tk (a_cons (e_tup (a_cons (e_fz (pv 1)) (a_cons (e_fz (pv 2)) a_nil))) a_nil) (len_cons len_nil)))))))

theorem ok_lengths_of (T : Txt K mg a fd) : FnOk P w K mg base (L2.CX P w) 1 (a 10) (fd 10) ["scale", "parts", "error"] (spD (gx K mg) 3 false F_lengths_of) :=
  fn0 T.f_lengths_of sc_lengths_of (fun cdv A outer s H E hr => by
  have tk := @tk_fn P w K mg base "lengths_of" (a 10) ["scale", "parts", "error"] (gx K mg) [] cdv A outer s H E (defScope st_lengths_of)
  exact (show PSs _ _ (tS _ m_lengths_of) from
    (b_one (s_ret (e_tup (a_cons (e_op op_mul o_mul (e_b2 (pe_callB (call_max2 rfl) (by rfl) T.n_max bb_max (pa_cons e_int (pa_cons (e_op op_sub o_sub (e_var (pv 1)) (e_var (pv 2))) pa_nil))) o_max2) (e_var (pv 0))) (a_cons (e_op op_mul o_mul (e_op x_add m_add (e_var (pv 1)) (e_var (pv 2))) (e_var (pv 0))) a_nil)))))))

theorem ok_length (T : Txt K mg a fd) : FnOk P w K mg base (L2.CX P w) 5 (a 11) (fd 11) ["scale", "parts", "error"] (spD (gx K mg) 3 false F_length) :=
  fn0 T.f_length sc_length (fun cdv A outer s H E hr => by
  have tk := @tk_fn P w K mg base "length" (a 11) ["scale", "parts", "error"] (gx K mg) [] cdv A outer s H E (defScope st_length)
  exact (show PSs _ _ (tS _ m_length) from
    (b_cons (s_drop (e_call (ok_check_reading T) (hr.mono (by decide)) (by rfl) T.g_check_reading T.f_check_reading.kp T.b_check_reading tk (a_cons (e_fz (pv 0)) (a_cons (e_fz (pv 1)) (a_cons (e_fz (pv 2)) a_nil))) (len_cons (len_cons (len_cons len_nil)))))
    (b_one (s_ret (e_call (ok_lengths_of T) (hr.mono (by decide)) (by rfl) T.g_lengths_of T.f_lengths_of.kp T.b_lengths_of tk (a_cons (e_fz (pv 0)) (a_cons (e_fz (pv 1)) (a_cons (e_fz (pv 2)) a_nil))) (len_cons (len_cons (len_cons len_nil)))))))))

theorem ok_scale_of (T : Txt K mg a fd) : FnOk P w K mg base (L2.CX P w) 4 (a 12) (fd 12) ["parts", "error", "least", "greatest"] (spD (gx K mg) 4 false F_scale_of) :=
  fn0 T.f_scale_of sc_scale_of (fun cdv A outer s H E hr => by
  have tk := @tk_fn P w K mg base "scale_of" (a 12) ["parts", "error", "least", "greatest", "scales", "scale", "low", "high"] (gx K mg) [] cdv A outer s H E (defScope st_scale_of)
  exact (show PSs _ _ (tS _ m_scale_of) from
    (b_cons (s_drop (e_call (ok_check_counts T) (hr.mono (by decide)) (by rfl) T.g_check_counts T.f_check_counts.kp T.b_check_counts tk (a_cons (e_tup (a_cons (e_fz (pv 0)) (a_cons (e_fz (pv 1)) (a_cons (e_fz (pv 2)) (a_cons (e_fz (pv 3)) a_nil))))) a_nil) (len_cons len_nil)))
    (b_cons (s_asg (i := 4) sc_scale_of.nd rfl (.inl rfl) (e_lst a_nil))
    (b_cons (s_for po_fn rfl (i_range2 (by rfl) T.n_range (a_cons e_int (a_cons (e_op x_add m_add (e_globI T.k_MOST_SCALE (by rfl)) e_int) a_nil))) (pg_name (i := 5) sc_scale_of.nd rfl (.inl rfl)) (tgN_ok (by rfl))
    (b_cons (s_asgT rfl (e_call (ok_lengths_of T) (hr.mono (by decide)) (by rfl) T.g_lengths_of T.f_lengths_of.kp T.b_lengths_of tk (a_cons (e_fz (pv 5)) (a_cons (e_fz (pv 0)) (a_cons (e_fz (pv 1)) a_nil))) (len_cons (len_cons (len_cons len_nil)))) (show PGs _ _ (gNames [6, 7]) from (pgs_cons (pg_name (i := 6) sc_scale_of.nd rfl (.inl rfl)) (pgs_cons (pg_name (i := 7) sc_scale_of.nd rfl (.inl rfl)) pgs_nil))) rfl)
    (b_one (s_if (t_cmp op_le o_le (bl_cmp _) (e_b2 (pe_callB (call_max2 rfl) (by rfl) T.n_max bb_max (pa_cons (e_var (pv 6)) (pa_cons (e_var (pv 2)) pa_nil))) o_max2) (e_b2 (pe_callB (call_min2 rfl) (by rfl) T.n_min bb_min (pa_cons (e_var (pv 7)) (pa_cons (e_var (pv 3)) pa_nil))) o_min2) (nomark _))
    (b_one (s_app (ps_expr (pe_bm PySem.F.plainAttrs_list PySem.F.slot_list_append PySem.F.type_list_append mt_append (pv 4) (pa_cons (e_fz (pv 5)) pa_nil)))))
    b_nil))))
    (b_one (s_ret (e_b1 (pe_callTy call_tuple_of (by rfl) T.n_tuple bb_tuple (pa_cons (e_var (pv 4)) pa_nil)) o_tupOf))))))))

theorem ok__law_scales (T : Txt K mg a fd) : FnOk P w K mg base (L2.CX P w) 2 (a 13) (fd 13) ["parts", "error", "low", "high"] (spD (gx K mg) 4 false F__law_scales) :=
  fn0 T.f__law_scales sc__law_scales (fun cdv A outer s H E hr => by
  have tk := @tk_fn P w K mg base "_law_scales" (a 13) ["parts", "error", "low", "high", "rows", "scale", "ends"] (gx K mg) [] cdv A outer s H E (defScope st__law_scales)
  exact (show PSs _ _ (tS _ m__law_scales) from
    (b_cons (s_asg (i := 4) sc__law_scales.nd rfl (.inl rfl) (e_lst a_nil))
    (b_cons (s_for po_fn rfl (i_range2 (by rfl) T.n_range (a_cons e_int (a_cons e_int a_nil))) (pg_name (i := 5) sc__law_scales.nd rfl (.inl rfl)) (tgN_ok (by rfl))
    (b_cons (s_asg (i := 6) sc__law_scales.nd rfl (.inl rfl) (e_call (ok__law_bounds T) (hr.mono (by decide)) (by rfl) T.g__law_bounds T.f__law_bounds.kp T.b__law_bounds tk (a_cons (e_tup (a_cons (e_fz (pv 5)) (a_cons (e_fz (pv 0)) (a_cons (e_fz (pv 1)) a_nil)))) a_nil) (len_cons len_nil)))
    (b_one (s_if (PW.pt (w_and (t_cmp op_le o_le (bl_cmp _) (e_ix ix_seq o_ix (e_var (pv 6)) e_int (fun _ _ => rfl)) (e_var (pv 3)) (nomark _)) (w_and (t_cmp op_ge o_ge (bl_cmp _) (e_ix ix_seq o_ix (e_var (pv 6)) e_int (fun _ _ => rfl)) (e_var (pv 2)) (nomark _)) (w_and1 (t_cmp op_le o_le (bl_cmp _) (e_var (pv 2)) (e_var (pv 3)) (nomark _))))))
    (b_one (s_app (ps_expr (pe_bm PySem.F.plainAttrs_list PySem.F.slot_list_append PySem.F.type_list_append mt_append (pv 4) (pa_cons (e_fz (pv 5)) pa_nil)))))
    b_nil))))
    (b_one (s_ret (e_b1 (pe_callTy call_tuple_of (by rfl) T.n_tuple bb_tuple (pa_cons (e_var (pv 4)) pa_nil)) o_tupOf)))))))

theorem ok_check_told (T : Txt K mg a fd) : FnOk P w K mg base (L2.CX P w) 5 (a 14) (fd 14) ["reading"] (spD (gx K mg) 1 false F_check_told) :=
  fn0 T.f_check_told sc_check_told (fun cdv A outer s H E hr => by
  have tk := @tk_fn P w K mg base "check_told" (a 14) ["reading", "scale", "parts", "error"] (gx K mg) [] cdv A outer s H E (defScope st_check_told)
  exact (show PSs _ _ (tS _ m_check_told) from
    (b_cons (s_if (PW.pt (w_or (t_not (t_any (e_isi .tup (pe_callB call_isi (by rfl) T.n_isinstance bb_isinstance (pa_cons (e_var (pv 0)) (pa_cons (pe_bltn (by rfl) T.n_tuple bb_tuple rfl) pa_nil)))))) (w_or1 (t_cmp (x_ne hr) o_ne bl_ne (e_b1 (pe_callB call_len (by rfl) T.n_len bb_len (pa_cons (e_var (pv 0)) pa_nil)) o_len) e_int (nomark _)))))
    (b_one (s_raise rfl tk (pmk_own PySem.F.excBase_ValueError T.x_BadNumber T.e_BadNumber.g T.e_BadNumber.k (raises_own T.e_BadNumber.b T.e_BadNumber.t) (by rfl)) (fun _ _ _ h => h) (T.c_BadNumber)))
    b_nil)
    (b_cons (s_asgT rfl (e_fz (pv 0)) (show PGs _ _ (gNames [1, 2, 3]) from (pgs_cons (pg_name (i := 1) sc_check_told.nd rfl (.inl rfl)) (pgs_cons (pg_name (i := 2) sc_check_told.nd rfl (.inl rfl)) (pgs_cons (pg_name (i := 3) sc_check_told.nd rfl (.inl rfl)) pgs_nil)))) rfl)
    (b_one (s_drop (e_call (ok_check_reading T) (hr.mono (by decide)) (by rfl) T.g_check_reading T.f_check_reading.kp T.b_check_reading tk (a_cons (e_fz (pv 1)) (a_cons (e_fz (pv 2)) (a_cons (e_fz (pv 3)) a_nil))) (len_cons (len_cons (len_cons len_nil))))))))))

theorem ok_common_lengths (T : Txt K mg a fd) : FnOk P w K mg base (L2.CX P w) 1 (a 15) (fd 15) ["one", "other"] (spD (gx K mg) 2 false F_common_lengths) :=
  fn0 T.f_common_lengths sc_common_lengths (fun cdv A outer s H E hr => by
  have tk := @tk_fn P w K mg base "common_lengths" (a 15) ["one", "other", "least", "greatest"] (gx K mg) [] cdv A outer s H E (defScope st_common_lengths)
  exact (show PSs _ _ (tS _ m_common_lengths) from
    (b_cons (s_asg (i := 2) sc_common_lengths.nd rfl (.inl rfl) (e_b2 (pe_callB (call_max2 rfl) (by rfl) T.n_max bb_max (pa_cons (e_ix ix_seq o_ix (e_var (pv 0)) e_int (fun _ _ => rfl)) (pa_cons (e_ix ix_seq o_ix (e_var (pv 1)) e_int (fun _ _ => rfl)) pa_nil))) o_max2))
    (b_cons (s_asg (i := 3) sc_common_lengths.nd rfl (.inl rfl) (e_b2 (pe_callB (call_min2 rfl) (by rfl) T.n_min bb_min (pa_cons (e_ix ix_seq o_ix (e_var (pv 0)) e_int (fun _ _ => rfl)) (pa_cons (e_ix ix_seq o_ix (e_var (pv 1)) e_int (fun _ _ => rfl)) pa_nil))) o_min2))
    (b_cons (s_if (t_cmp op_gt o_gt (bl_cmp _) (e_var (pv 2)) (e_var (pv 3)) (nomark _))
    (b_one (s_ret e_non))
    b_nil)
    (b_one (s_ret (e_tup (a_cons (e_fz (pv 2)) (a_cons (e_fz (pv 3)) a_nil))))))))))

theorem ok_between (T : Txt K mg a fd) : FnOk P w K mg base (L2.CX P w) 6 (a 16) (fd 16) ["one", "other"] (spD (gx K mg) 2 false F_between) :=
  fn0 T.f_between sc_between (fun cdv A outer s H E hr => by
  have tk := @tk_fn P w K mg base "between" (a 16) ["one", "other"] (gx K mg) [] cdv A outer s H E (defScope st_between)
  exact (show PSs _ _ (tS _ m_between) from
    (b_cons (s_drop (e_call (ok_check_told T) (hr.mono (by decide)) (by rfl) T.g_check_told T.f_check_told.kp T.b_check_told tk (a_cons (e_fz (pv 0)) a_nil) (len_cons len_nil)))
    (b_cons (s_drop (e_call (ok_check_told T) (hr.mono (by decide)) (by rfl) T.g_check_told T.f_check_told.kp T.b_check_told tk (a_cons (e_fz (pv 1)) a_nil) (len_cons len_nil)))
    (b_one (s_ret (e_call (ok_common_lengths T) (hr.mono (by decide)) (by rfl) T.g_common_lengths T.f_common_lengths.kp T.b_common_lengths tk (a_cons (e_call (ok_lengths_of T) (hr.mono (by decide)) (by rfl) T.g_lengths_of T.f_lengths_of.kp T.b_lengths_of tk (a_cons (e_ix ix_seq o_ix (e_var (pv 0)) e_int (fun _ _ => rfl)) (a_cons (e_ix ix_seq o_ix (e_var (pv 0)) e_int (fun _ _ => rfl)) (a_cons (e_ix ix_seq o_ix (e_var (pv 0)) e_int (fun _ _ => rfl)) a_nil))) (len_cons (len_cons (len_cons len_nil)))) (a_cons (e_call (ok_lengths_of T) (hr.mono (by decide)) (by rfl) T.g_lengths_of T.f_lengths_of.kp T.b_lengths_of tk (a_cons (e_ix ix_seq o_ix (e_var (pv 1)) e_int (fun _ _ => rfl)) (a_cons (e_ix ix_seq o_ix (e_var (pv 1)) e_int (fun _ _ => rfl)) (a_cons (e_ix ix_seq o_ix (e_var (pv 1)) e_int (fun _ _ => rfl)) a_nil))) (len_cons (len_cons (len_cons len_nil)))) a_nil)) (len_cons (len_cons len_nil)))))))))

theorem ok__law_refused (T : Txt K mg a fd) : FnOk P w K mg base (L2.CX P w) 7 (a 17) (fd 17) ["kind", "one", "other"] (spD (gx K mg) 3 false F__law_refused) :=
  fn0 T.f__law_refused sc__law_refused (fun cdv A outer s H E hr => by
  have tk := @tk_fn P w K mg base "_law_refused" (a 17) ["kind", "one", "other", "e"] (gx K mg) [] cdv A outer s H E (defScope st__law_refused)
  exact (show PSs _ _ (tS _ m__law_refused) from
    (b_cons (s_try1 (v := .bl true) rfl rfl sc__law_refused.nd rfl rfl ⟨by rfl, by decide, .inl T.e_BadNumber.g⟩ T.c_BadNumber T.m_BadNumber rfl (fun _ _ _ tk _ => (b_one (s_if (t_cmp (x_eq hr) o_eq bl_eq (e_var (pv 0)) e_int (nomark _))
    (b_one (s_drop (e_call (ok_length T) (hr.mono (by decide)) (by rfl) T.g_length T.f_length.kp T.b_length tk (a_cons (e_ix ix_seq o_ix (e_var (pv 1)) e_int (fun _ _ => rfl)) (a_cons (e_ix ix_seq o_ix (e_var (pv 1)) e_int (fun _ _ => rfl)) (a_cons (e_ix ix_seq o_ix (e_var (pv 1)) e_int (fun _ _ => rfl)) a_nil))) (len_cons (len_cons (len_cons len_nil))))))
    (b_one (s_if (t_cmp (x_eq hr) o_eq bl_eq (e_var (pv 0)) e_int (nomark _))
    (b_one (s_drop (e_call (ok_between T) (hr.mono (by decide)) (by rfl) T.g_between T.f_between.kp T.b_between tk (a_cons (e_fz (pv 1)) (a_cons (e_fz (pv 2)) a_nil)) (len_cons (len_cons len_nil)))))
    (b_one (s_if (t_cmp (x_eq hr) o_eq bl_eq (e_var (pv 0)) e_int (nomark _))
    (b_one (s_drop (e_call (ok_between T) (hr.mono (by decide)) (by rfl) T.g_between T.f_between.kp T.b_between tk (a_cons (e_fz (pv 2)) (a_cons (e_fz (pv 1)) a_nil)) (len_cons (len_cons len_nil)))))
    (b_one (s_drop (e_call (ok_scale_of T) (hr.mono (by decide)) (by rfl) T.g_scale_of T.f_scale_of.kp T.b_scale_of tk (a_cons (e_ix ix_seq o_ix (e_var (pv 1)) e_int (fun _ _ => rfl)) (a_cons (e_ix ix_seq o_ix (e_var (pv 1)) e_int (fun _ _ => rfl)) (a_cons (e_ix ix_seq o_ix (e_var (pv 1)) e_int (fun _ _ => rfl)) (a_cons (e_ix ix_seq o_ix (e_var (pv 1)) e_int (fun _ _ => rfl)) a_nil)))) (len_cons (len_cons (len_cons (len_cons len_nil)))))))))))))) (fun _ _ _ zc fl => pss_one (ps_ret (pe_and (pe_callB (call_isE T.q_BadNumber.1 zc fl) (by rfl) T.n_isinstance bb_isinstance (pa_cons (pv 3) (pa_cons (pe_glob (v := .ref (a (ix_MapError))) (by rfl) T.g_MapError rfl) pa_nil))) (pe_one (pe_not (pe_callB (call_isET T.q_BadNumber.1 zc fl) (by rfl) T.n_isinstance bb_isinstance (pa_cons (pv 3) (pa_cons (pe_tup (pa_cons (pe_glob (v := .ref (a (ix_BadPoint))) (by rfl) T.g_BadPoint rfl) (pa_cons (pe_glob (v := .ref (a (ix_BadCorners))) (by rfl) T.g_BadCorners rfl) (pa_cons (pe_glob (v := .ref (a (ix_BadShop))) (by rfl) T.g_BadShop rfl) pa_nil)))) pa_nil)))))))) (fun _ => hts_is T.q_BadNumber.2.1 T.q_BadNumber.2.2))
    (b_one (s_ret e_bl)))))

theorem ok_law (T : Txt K mg a fd) : FnOk P w K mg base (L2.CX P w) 8 (a 18) (fd 18) ["script"] (spD (gx K mg) 1 false F_law) :=
  fn0 T.f_law sc_law (fun cdv A outer s H E hr => by
  have tk := @tk_fn P w K mg base "law" (a 18) ["script", "state", "one", "other", "low", "high", "due", "parts", "error", "ends", "at", "wrong", "spot", "bad", "bent", "kind"] (gx K mg) [] cdv A outer s H E (defScope st_law)
  exact (show PSs _ _ (tS _ m_law) from
    (b_cons (s_asg (i := 1) sc_law.nd rfl (.inl rfl) (e_call (ok__law_start T) (hr.mono (by decide)) (by rfl) T.g__law_start T.f__law_start.kp T.b__law_start tk (a_cons (e_fz (pv 0)) a_nil) (len_cons len_nil)))
    (b_cons (s_asg (i := 2) sc_law.nd rfl (.inl rfl) (e_callL (ok__law_reading T) (hr.mono (by decide)) (by rfl) T.g__law_reading T.f__law_reading.kp T.b__law_reading tk (pv 1) a_nil len_nil))
    (b_cons (s_asg (i := 3) sc_law.nd rfl (.inr rfl) (e_callL (ok__law_other T) (hr.mono (by decide)) (by rfl) T.g__law_other T.f__law_other.kp T.b__law_other tk (pv 1) (a_cons (e_fz (pv 2)) a_nil) (len_cons len_nil)))
    (b_cons (s_if (t_not (t_any (e_call (ok__law_alike T 6) (hr.mono (by decide)) (by rfl) T.g__law_alike T.f__law_alike.kp T.b__law_alike tk (a_cons (e_call (ok_length T) (hr.mono (by decide)) (by rfl) T.g_length T.f_length.kp T.b_length tk (a_cons (e_ix ix_seq o_ix (e_var (pv 2)) e_int (fun _ _ => rfl)) (a_cons (e_ix ix_seq o_ix (e_var (pv 2)) e_int (fun _ _ => rfl)) (a_cons (e_ix ix_seq o_ix (e_var (pv 2)) e_int (fun _ _ => rfl)) a_nil))) (len_cons (len_cons (len_cons len_nil)))) (a_cons (e_call (ok__law_bounds T) (hr.mono (by decide)) (by rfl) T.g__law_bounds T.f__law_bounds.kp T.b__law_bounds tk (a_cons (e_fz (pv 2)) a_nil) (len_cons len_nil)) a_nil)) (len_cons (len_cons len_nil)))))
    (b_one (s_ret e_bl))
    b_nil)
    (b_cons (s_if (t_not (t_any (e_call (ok__law_alike T 6) (hr.mono (by decide)) (by rfl) T.g__law_alike T.f__law_alike.kp T.b__law_alike tk (a_cons (e_callK [0, 1, 2] (ok_length T) (hr.mono (by decide)) (by rfl) T.g_length T.f_length.kp (T.f_length.bindsK (fun _ _ _ _ _ _ us hl => match us, hl with | [_, _, _], _ => rfl)) rfl tk (k_cons (e_ix ix_seq o_ix (e_var (pv 3)) e_int (fun _ _ => rfl)) (k_cons (e_ix ix_seq o_ix (e_var (pv 3)) e_int (fun _ _ => rfl)) (k_cons (e_ix ix_seq o_ix (e_var (pv 3)) e_int (fun _ _ => rfl)) k_nil))) (len_cons (len_cons (len_cons len_nil))) (fun ws hl => match ws, hl with | [_, _, _], _ => rfl)) (a_cons (e_call (ok__law_bounds T) (hr.mono (by decide)) (by rfl) T.g__law_bounds T.f__law_bounds.kp T.b__law_bounds tk (a_cons (e_fz (pv 3)) a_nil) (len_cons len_nil)) a_nil)) (len_cons (len_cons len_nil)))))
    (b_one (s_ret e_bl))
    b_nil)
    (b_cons (s_asg (i := 4) sc_law.nd rfl (.inl rfl) (e_b2 (pe_callB (call_max2 rfl) (by rfl) T.n_max bb_max (pa_cons (e_ix ix_seq o_ix (e_call (ok__law_bounds T) (hr.mono (by decide)) (by rfl) T.g__law_bounds T.f__law_bounds.kp T.b__law_bounds tk (a_cons (e_fz (pv 2)) a_nil) (len_cons len_nil)) e_int (fun _ _ => rfl)) (pa_cons (e_ix ix_seq o_ix (e_call (ok__law_bounds T) (hr.mono (by decide)) (by rfl) T.g__law_bounds T.f__law_bounds.kp T.b__law_bounds tk (a_cons (e_fz (pv 3)) a_nil) (len_cons len_nil)) e_int (fun _ _ => rfl)) pa_nil))) o_max2))
    (b_cons (s_asg (i := 5) sc_law.nd rfl (.inl rfl) (e_b2 (pe_callB (call_min2 rfl) (by rfl) T.n_min bb_min (pa_cons (e_ix ix_seq o_ix (e_call (ok__law_bounds T) (hr.mono (by decide)) (by rfl) T.g__law_bounds T.f__law_bounds.kp T.b__law_bounds tk (a_cons (e_fz (pv 2)) a_nil) (len_cons len_nil)) e_int (fun _ _ => rfl)) (pa_cons (e_ix ix_seq o_ix (e_call (ok__law_bounds T) (hr.mono (by decide)) (by rfl) T.g__law_bounds T.f__law_bounds.kp T.b__law_bounds tk (a_cons (e_fz (pv 3)) a_nil) (len_cons len_nil)) e_int (fun _ _ => rfl)) pa_nil))) o_min2))
    (b_cons (s_asg (i := 6) sc_law.nd rfl (.inl rfl) (e_tup (a_cons (e_fz (pv 4)) (a_cons (e_fz (pv 5)) a_nil))))
    (b_cons (s_if (t_cmp op_gt o_gt (bl_cmp _) (e_var (pv 4)) (e_var (pv 5)) (nomark _))
    (b_one (s_asg (i := 6) sc_law.nd rfl (.inl rfl) e_non))
    b_nil)
    (b_cons (s_if (PW.pt (w_or (t_not (t_any (e_call (ok__law_alike T 6) (hr.mono (by decide)) (by rfl) T.g__law_alike T.f__law_alike.kp T.b__law_alike tk (a_cons (e_call (ok_between T) (hr.mono (by decide)) (by rfl) T.g_between T.f_between.kp T.b_between tk (a_cons (e_fz (pv 2)) (a_cons (e_fz (pv 3)) a_nil)) (len_cons (len_cons len_nil))) (a_cons (e_fz (pv 6)) a_nil)) (len_cons (len_cons len_nil))))) (w_or1 (t_not (t_any (e_call (ok__law_alike T 6) (hr.mono (by decide)) (by rfl) T.g__law_alike T.f__law_alike.kp T.b__law_alike tk (a_cons (e_call (ok_between T) (hr.mono (by decide)) (by rfl) T.g_between T.f_between.kp T.b_between tk (a_cons (e_fz (pv 3)) (a_cons (e_fz (pv 2)) a_nil)) (len_cons (len_cons len_nil))) (a_cons (e_fz (pv 6)) a_nil)) (len_cons (len_cons len_nil))))))))
    (b_one (s_ret e_bl))
    b_nil)
    (b_cons (s_asg (i := 7) sc_law.nd rfl (.inl rfl) (e_callL (ok__law_take T) (hr.mono (by decide)) (by rfl) T.g__law_take T.f__law_take.kp T.b__law_take tk (pv 1) (a_cons e_int a_nil) (len_cons len_nil)))
    (b_cons (s_asg (i := 8) sc_law.nd rfl (.inl rfl) (e_callL (ok__law_take T) (hr.mono (by decide)) (by rfl) T.g__law_take T.f__law_take.kp T.b__law_take tk (pv 1) (a_cons e_int a_nil) (len_cons len_nil)))
    (b_cons (s_asg (i := 9) sc_law.nd rfl (.inl rfl) (e_call (ok__law_bounds T) (hr.mono (by decide)) (by rfl) T.g__law_bounds T.f__law_bounds.kp T.b__law_bounds tk (a_cons (e_tup (a_cons (e_op x_add m_add e_int (e_callL (ok__law_take T) (hr.mono (by decide)) (by rfl) T.g__law_take T.f__law_take.kp T.b__law_take tk (pv 1) (a_cons e_int a_nil) (len_cons len_nil))) (a_cons (e_fz (pv 7)) (a_cons (e_fz (pv 8)) a_nil)))) a_nil) (len_cons len_nil)))
    (b_cons (s_asg (i := 4) sc_law.nd rfl (.inl rfl) (e_b2 (pe_callB (call_max2 rfl) (by rfl) T.n_max bb_max (pa_cons e_int (pa_cons (e_op op_sub o_sub (e_ix ix_seq o_ix (e_var (pv 9)) e_int (fun _ _ => rfl)) (e_callL (ok__law_take T) (hr.mono (by decide)) (by rfl) T.g__law_take T.f__law_take.kp T.b__law_take tk (pv 1) (a_cons e_int a_nil) (len_cons len_nil))) pa_nil))) o_max2))
    (b_cons (s_asg (i := 5) sc_law.nd rfl (.inl rfl) (e_op x_add m_add (e_ix ix_seq o_ix (e_var (pv 9)) (e_callL (ok__law_take T) (hr.mono (by decide)) (by rfl) T.g__law_take T.f__law_take.kp T.b__law_take tk (pv 1) (a_cons e_int a_nil) (len_cons len_nil)) (fun _ _ => rfl)) (e_callL (ok__law_take T) (hr.mono (by decide)) (by rfl) T.g__law_take T.f__law_take.kp T.b__law_take tk (pv 1) (a_cons e_int a_nil) (len_cons len_nil))))
    (b_cons (s_if (t_not (t_any (e_call (ok__law_alike T 6) (hr.mono (by decide)) (by rfl) T.g__law_alike T.f__law_alike.kp T.b__law_alike tk (a_cons (e_call (ok_scale_of T) (hr.mono (by decide)) (by rfl) T.g_scale_of T.f_scale_of.kp T.b_scale_of tk (a_cons (e_fz (pv 7)) (a_cons (e_fz (pv 8)) (a_cons (e_fz (pv 4)) (a_cons (e_fz (pv 5)) a_nil)))) (len_cons (len_cons (len_cons (len_cons len_nil))))) (a_cons (e_call (ok__law_scales T) (hr.mono (by decide)) (by rfl) T.g__law_scales T.f__law_scales.kp T.b__law_scales tk (a_cons (e_fz (pv 7)) (a_cons (e_fz (pv 8)) (a_cons (e_fz (pv 4)) (a_cons (e_fz (pv 5)) a_nil)))) (len_cons (len_cons (len_cons (len_cons len_nil))))) a_nil)) (len_cons (len_cons len_nil)))))
    (b_one (s_ret e_bl))
    b_nil)
    (b_cons (s_asg (i := 10) sc_law.nd rfl (.inl rfl) (e_callL (ok__law_take T) (hr.mono (by decide)) (by rfl) T.g__law_take T.f__law_take.kp T.b__law_take tk (pv 1) (a_cons e_int a_nil) (len_cons len_nil)))
    (b_cons (s_for po_fn rfl (i_items (e_tup (a_cons (e_un un_neg o_neg e_int) (a_cons e_bl (a_cons e_non (a_cons e_str (a_cons (e_tup (a_cons e_int (a_cons e_int a_nil))) a_nil))))))) (pg_name (i := 11) sc_law.nd rfl (.inl rfl)) (tgN_ok (by rfl))
    (b_cons (s_asg (i := 14) sc_law.nd rfl (.inr rfl) (e_op x_add m_add (e_op x_add m_add (e_sl (e_var (pv 2)) o_no (o_at (e_var (pv 10)))) (e_tup (a_cons (e_fz (pv 11)) a_nil))) (e_sl (e_var (pv 2)) (o_at (e_op x_add m_add (e_var (pv 10)) e_int)) o_no)))
    (b_one (s_if (t_not (t_any (e_b1 (pe_callB (cr_all rfl) (by rfl) T.n_all bb_all (pa_cons (e_lc (own := [("kind", 15)]) rfl sc_law.nd (i_range1 (by rfl) T.n_range (a_cons e_int a_nil)) (blkOk_by (own := [("kind", 15)]) (N := ["script", "state", "one", "other", "low", "high", "due", "parts", "error", "ends", "at", "wrong", "spot", "bad", "bent", "kind"]) (sc := defScope st_law) (by decide +kernel)) (fun _ _ _ _ _ => (pg_name (i := 15) sc_law.nd rfl (.inl rfl))) (tgN_ok (by rfl)) (tgIn_N (by decide)) (fun _ _ _ _ _ => ts_nil) (fun _ _ _ _ _ => (e_call (ok__law_refused T) (hr.mono (by decide)) (by rfl) T.g__law_refused T.f__law_refused.kp T.b__law_refused tk_in (a_cons (e_fz (pv 15)) (a_cons (e_fz (pv 14)) (a_cons (e_fz (pv 3)) a_nil))) (len_cons (len_cons (len_cons len_nil)))))) pa_nil)) o_all)))
    (b_one (s_ret e_bl))
    b_nil))))
    (b_cons (s_asg (i := 12) sc_law.nd rfl (.inl rfl) (e_callL (ok__law_take T) (hr.mono (by decide)) (by rfl) T.g__law_take T.f__law_take.kp T.b__law_take tk (pv 1) (a_cons e_int a_nil) (len_cons len_nil)))
    (b_cons (s_for po_fn rfl (i_items (e_tup (a_cons (e_un un_neg o_neg e_int) (a_cons e_bl (a_cons e_non (a_cons e_str a_nil)))))) (pg_name (i := 11) sc_law.nd rfl (.inl rfl)) (tgN_ok (by rfl))
    (b_cons (s_asg (i := 14) sc_law.nd rfl (.inr rfl) (e_op x_add m_add (e_op x_add m_add (e_sl (e_tup (a_cons (e_fz (pv 7)) (a_cons (e_fz (pv 8)) (a_cons (e_fz (pv 4)) (a_cons (e_fz (pv 5)) a_nil))))) o_no (o_at (e_var (pv 12)))) (e_tup (a_cons (e_fz (pv 11)) a_nil))) (e_sl (e_tup (a_cons (e_fz (pv 7)) (a_cons (e_fz (pv 8)) (a_cons (e_fz (pv 4)) (a_cons (e_fz (pv 5)) a_nil))))) (o_at (e_op x_add m_add (e_var (pv 12)) e_int)) o_no)))
    (b_one (s_if (t_not (t_any (e_call (ok__law_refused T) (hr.mono (by decide)) (by rfl) T.g__law_refused T.f__law_refused.kp T.b__law_refused tk (a_cons e_int (a_cons (e_fz (pv 14)) (a_cons (e_fz (pv 3)) a_nil))) (len_cons (len_cons (len_cons len_nil))))))
    (b_one (s_ret e_bl))
    b_nil))))
    (b_cons (s_if (PW.pt (w_or (t_not (t_any (e_call (ok__law_refused T) (hr.mono (by decide)) (by rfl) T.g__law_refused T.f__law_refused.kp T.b__law_refused tk (a_cons e_int (a_cons (e_op x_add m_add (e_tup (a_cons e_int a_nil)) (e_sl (e_var (pv 2)) (o_at e_int) o_no)) (a_cons (e_fz (pv 3)) a_nil))) (len_cons (len_cons (len_cons len_nil)))))) (w_or1 (t_not (t_any (e_call (ok__law_refused T) (hr.mono (by decide)) (by rfl) T.g__law_refused T.f__law_refused.kp T.b__law_refused tk (a_cons e_int (a_cons (e_op x_add m_add (e_tup (a_cons e_int a_nil)) (e_sl (e_var (pv 2)) (o_at e_int) o_no)) (a_cons (e_fz (pv 3)) a_nil))) (len_cons (len_cons (len_cons len_nil)))))))))
    (b_one (s_ret e_bl))
    b_nil)
    (b_cons (s_for po_fn rfl (i_items (e_tup (a_cons (e_frE (e_b1 (pe_callTy call_list_of (by rfl) T.n_list bb_list (pa_cons (e_var (pv 2)) pa_nil)) o_lstOf)) (a_cons (e_sl (e_var (pv 2)) o_no (o_at e_int)) (a_cons (e_op x_add m_add (e_var (pv 2)) (e_tup (a_cons e_int a_nil))) (a_cons e_non a_nil)))))) (pg_name (i := 13) sc_law.nd rfl (.inl rfl)) (tgN_ok (by rfl))
    (b_one (s_if (PW.pt (w_or (t_not (t_any (e_call (ok__law_refused T) (hr.mono (by decide)) (by rfl) T.g__law_refused T.f__law_refused.kp T.b__law_refused tk (a_cons e_int (a_cons (e_fz (pv 13)) (a_cons (e_fz (pv 3)) a_nil))) (len_cons (len_cons (len_cons len_nil)))))) (w_or1 (t_not (t_any (e_call (ok__law_refused T) (hr.mono (by decide)) (by rfl) T.g__law_refused T.f__law_refused.kp T.b__law_refused tk (a_cons e_int (a_cons (e_fz (pv 13)) (a_cons (e_fz (pv 3)) a_nil))) (len_cons (len_cons (len_cons len_nil)))))))))
    (b_one (s_ret e_bl))
    b_nil)))
    (b_one (s_ret e_bl))))))))))))))))))))))))))

end
end Lw
namespace Lw
open PySem L2 Dd
/-! what the law draws from the script -/
structure S where
  cells : List Int
  here : Int
  first : Int
  plain : Bool
  mixed : Int
def S.d (s : S) : D := .box true .lst [.box false .lst (s.cells.map D.int), .int s.here, .int s.first, .bl s.plain, .int s.mixed]
def S.cell (s : S) : Int := if 0 < s.cells.length then (s.cells[(s.here % (s.cells.length : Int)).toNat]?).getD 0 else 0
def S.mix (s : S) : Int := (s.mixed * 48271 + s.cell + 7 * s.here + 1) % 2147483647
def S.take (s : S) (m : Int) : Int := if 0 < s.first then s.first % m else if s.plain = true ∧ s.here < (s.cells.length : Int) then s.cell % m else ((s.mix * s.mix + 69621 * s.mix) % 2147483629 / 5) % m
def S.next (s : S) (m : Int) : S := if 0 < s.first then { s with first := s.first / m } else if s.plain = true ∧ s.here < (s.cells.length : Int) then { s with here := s.here + 1 } else { s with here := s.here + 1, mixed := s.mix }
theorem S.cell_at (s : S) (h : 0 < s.cells.length) : atI (s.cells.map D.int) (s.here % (s.cells.length : Int)) = some (D.int s.cell) := by
  have h1 : 0 ≤ s.here % (s.cells.length : Int) := Int.emod_nonneg _ (by omega)
  have h2 : s.here % (s.cells.length : Int) < s.cells.length := Int.emod_lt_of_pos _ (by omega)
  have h3 : (s.here % (s.cells.length : Int)).toNat < s.cells.length := by omega
  rw [show s.here % (s.cells.length : Int) = (((s.here % (s.cells.length : Int)).toNat : Nat) : Int) by omega]
  refine atI_nat ?_
  rw [List.getElem?_map]
  unfold S.cell
  rw [if_pos h, List.getElem?_eq_getElem h3] <;> rfl
theorem S.mix_nn (s : S) : 0 ≤ s.mix := Int.emod_nonneg _ (by decide)
theorem S.mix_lt (s : S) : s.mix < 2147483647 := Int.emod_lt_of_pos _ (by decide)
theorem S.take_nn (s : S) {m : Int} (h : 0 < m) : 0 ≤ s.take m := by
  unfold S.take
  split
  · exact Int.emod_nonneg _ (by omega)
  · split <;> exact Int.emod_nonneg _ (by omega)
theorem S.take_lt (s : S) {m : Int} (h : 0 < m) : s.take m < m := by
  unfold S.take
  split
  · exact Int.emod_lt_of_pos _ h
  · split <;> exact Int.emod_lt_of_pos _ h
theorem take_eq (s : S) (m : Int) (h : 0 < m) (h3 : m < 18446744073709551616) : F__law_take [s.d, .int m] = .ok (.int (s.take m)) [(s.next m).d] := by
  have h2 : m.natAbs < 18446744073709551616 := by omega
  have hm := s.mix_nn
  have hm2 := s.mix_lt
  have q1 : okMul s.mix s.mix = true := by
    simp only [okMul, Bool.or_eq_true, decide_eq_true_eq]
    omega
  have q2 : ∀ i j : Int, j.natAbs < 2 ^ 64 → okMul i j = true := fun i j z => by
    simp only [okMul, Bool.or_eq_true, decide_eq_true_eq]
    exact .inr z
  have q2' : ∀ i j : Int, i.natAbs < 2 ^ 64 → okMul i j = true := fun i j z => by
    simp only [okMul, Bool.or_eq_true, decide_eq_true_eq]
    exact .inl z
  have q3 : ∀ c, c = s.cell → (s.mixed * 48271 + c + 7 * s.here + 1) % 2147483647 = s.mix := fun c e => by rw [e] <;> rfl
  have q4 : okMul 69621 s.mix = true := q2' _ _ (by decide)
  have q5 : okMul 7 s.here = true := q2' _ _ (by decide)
  have q6 : okMul s.mixed 48271 = true := q2 _ _ (by decide)
  have q7 := q3 _ rfl
  by_cases hf : 0 < s.first
  · simp [F__law_take, m__law_take, S.d, hf, h, h2, S.take, S.next]
  · by_cases hc : 0 < s.cells.length
    · have q8 := s.cell_at hc
      by_cases hq : s.plain = true ∧ s.here < (s.cells.length : Int)
      · simp [F__law_take, m__law_take, S.d, hf, h, hc, hq.1, hq.2, q8, S.take, S.next]
      · cases hp : s.plain with
        | true =>
          have hn : ¬ s.here < (s.cells.length : Int) := fun z => hq ⟨hp, z⟩
          simp [F__law_take, m__law_take, S.d, hf, h, hc, hp, hn, q8, S.take, S.next, q1, q4, q5, q6, q7]
        | false => simp [F__law_take, m__law_take, S.d, hf, h, hc, hp, q8, S.take, S.next, q1, q4, q5, q6, q7]
    · have e : s.cells = [] := List.length_eq_zero_iff.mp (by omega)
      have q8 : s.cell = 0 := by
        unfold S.cell
        rw [if_neg hc]
      rw [q8, Int.add_zero] at q7
      cases hp : s.plain with
      | false => simp [F__law_take, m__law_take, S.d, hf, h, e, hp, S.take, S.next, q1, q4, q5, q6, q7]
      | true =>
        by_cases hn : s.here < (0 : Int)
        · simp [F__law_take, m__law_take, S.d, hf, h, e, hp, hn, q8, S.take, S.next, q1, q4, q5, q6, q7]
        · simp [F__law_take, m__law_take, S.d, hf, h, e, hp, hn, S.take, S.next, q1, q4, q5, q6, q7]
/-- as it begins -/
theorem start_eq (ns : List Int) (hl : ns.length ≤ 63) : ∃ s : S, F__law_start [D.fl (ns.map D.int)] = .ok s.d [] := by
  have hf : frzL (ns.map D.int) = true := frzL_ints ns
  obtain ⟨e, ρ', h1, h2⟩ := lc_do (it := dItems (dFz 0)) (t := tgN 4) (test := dYes) (elt := bind1 fInt1 (dVar 4)) (vs := [4]) (ρ := [some (D.fl (ns.map D.int)), none, none, none, none]) (ρ1 := [some (D.fl (ns.map D.int)), none, none, none, none]) (f := true) (e := false) ns D.int (fun n => some (.int n))
    (fun ρ => ρ = [some (D.fl (ns.map D.int)), none, none, none, none]) (by simp) (by omega) rfl (fun n _ ρ h => by
      subst h
      refine ⟨_, rfl, .inr ⟨false, _, true, .int n, false, _, rfl, rfl, rfl, rfl, rfl⟩⟩)
  have h3 : ρ' = [some (D.fl (ns.map D.int)), none, none, none, none] := by
    rcases h2 with h | h <;> exact h
  subst h3
  have fm : ns.filterMap (fun n => some (D.int n)) = ns.map D.int := by
    induction ns with
    | nil => rfl
    | cons a r ih => simp
  rw [fm] at h1
  have pw : (10 : Int) ^ 18 = 1000000000000000000 := by decide
  match ns, h1 with
  | [], h1 =>
    simp only [List.map_nil] at h1
    exact ⟨⟨[], 0, 0, false, 12345⟩, by simp [F__law_start, m__law_start, h1, S.d, -v_dLc]⟩
  | [x], h1 =>
    simp only [List.map_cons, List.map_nil] at h1
    by_cases hx : (1000000000000000000 : Int) ≤ x
    · exact ⟨⟨[x], 0, x, false, 12346⟩, by simp [F__law_start, m__law_start, h1, S.d, -v_dLc, hx, fPow, fEq]⟩
    · exact ⟨⟨[x], 0, 0, false, 12346⟩, by simp [F__law_start, m__law_start, h1, S.d, -v_dLc, hx, fPow, fEq]⟩
  | x :: y :: r, h1 =>
    simp only [List.map_cons] at h1
    by_cases hx : (1000000000000000000 : Int) ≤ x
    · exact ⟨⟨x :: y :: r, 0, x, decide (y % 2 = 0), 12345 + ((r.length : Int) + 1 + 1)⟩, by simp [F__law_start, m__law_start, h1, S.d, -v_dLc, hx, fPow, fEq, eqV', sv, show (0:Int) < (r.length : Int) + 1 + 1 by omega, show (1:Int) < (r.length : Int) + 1 + 1 by omega]⟩
    · exact ⟨⟨x :: y :: r, 0, 0, decide (y % 2 = 0), 12345 + ((r.length : Int) + 1 + 1)⟩, by simp [F__law_start, m__law_start, h1, S.d, -v_dLc, hx, fPow, fEq, eqV', sv, show (0:Int) < (r.length : Int) + 1 + 1 by omega, show (1:Int) < (r.length : Int) + 1 + 1 by omega]⟩
/-! plain data, alike to itself -/
def pl : Nat → D → Bool
  | 0, _ => false
  | n + 1, d => match d with
    | .box o .tup ds => !o && (decide (ds.length ≤ 1000000) && ds.all (pl n))
    | .box _ _ _ => false
    | _ => true
theorem pl_frz : ∀ (n : Nat) (d : D), pl n d = true → frz d = true
  | 0, _, h => nomatch h
  | n + 1, d, h => by
    match d, h with
    | .non, _ => rfl
    | .bl _, _ => rfl
    | .int _, _ => rfl
    | .str _, _ => rfl
    | .box false .tup ds, h =>
      simp [pl] at h
      have q : ∀ l : List D, (∀ x ∈ l, pl n x = true) → frzL l = true := fun l => by
        induction l with
        | nil => intro _; rfl
        | cons a l ih => intro z; simp [pl_frz n a (z a List.mem_cons_self), ih fun x hx => z x (List.mem_cons_of_mem _ hx)]
      simp [q ds h.2]
theorem alike_refl (n : Nat) : ∀ d : D, pl n d = true → F__law_alike n [d, d] = .ok (.bl true) [] := by
  induction n with
  | zero => intro _ h; exact nomatch h
  | succ n IH =>
    intro d h
    show runD false 3 (m__law_alike (F__law_alike n)) [d, d] = _
    match d, h with
    | .non, _ => simp [m__law_alike]
    | .bl b, _ => simp [m__law_alike, fEq, eqV', isi]
    | .int _, _ => simp [m__law_alike, fEq, eqV', isi]
    | .str _, _ => simp [m__law_alike, fEq, eqV', isi]
    | .box false .tup ds, h =>
      simp [pl] at h
      have hz := pl_frz (n + 1) (.box false .tup ds) (by simp [pl, h.1] <;> exact h.2)
      have fr : frzL ds = true := by simpa using hz
      obtain ⟨e, ρ', h1, h2⟩ := lc_do (it := dRange1 (dCons (bind1 fLen (dVar 1)) dNil)) (t := tgN 2) (test := dYes) (elt := dCall (F__law_alike n) (dCons (bind2 fIx (dVar 0) (dVar 2)) (dCons (bind2 fIx (dVar 1) (dVar 2)) dNil))) (vs := [2])
        (ρ := [some (.box false .tup ds), some (.box false .tup ds), none]) (ρ1 := [some (.box false .tup ds), some (.box false .tup ds), none]) (f := true) (e := false) (List.range ds.length) (fun i => D.int (0 + (i : Int))) (fun _ => some (.bl true))
        (fun ρ => ρ = [some (.box false .tup ds), some (.box false .tup ds), none]) (by
          have c : okR (ds.length : Int) = true := decide_eq_true (by have := h.1; omega)
          simp [c, rangeD]) (by simpa using h.1) rfl (fun i hi ρ hρ => by
          subst hρ
          have hi : i < ds.length := List.mem_range.mp hi
          have ha : atI ds (i : Int) = some ds[i] := atI_nat (List.getElem?_eq_getElem hi)
          have hp : pl n ds[i] = true := h.2 _ (List.getElem_mem hi)
          have hf := pl_frz n _ hp
          have ih := IH _ hp
          refine ⟨[some (.box false .tup ds), some (.box false .tup ds), some (D.int (0 + (i : Int)))], rfl, .inr ⟨false, _, true, .bl true, false, [some (.box false .tup ds), some (.box false .tup ds), some (D.int (0 + (i : Int)))], rfl, rfl, ?_, rfl, rfl⟩⟩
          simp [ha, hf, ih])
      have h3 : ρ' = [some (.box false .tup ds), some (.box false .tup ds), none] := by
        rcases h2 with h | h <;> exact h
      subst h3
      have al : ∀ l : List Nat, blL (l.filterMap fun _ => some (D.bl true)) = some (l.map fun _ => true) := fun l => by
        induction l with
        | nil => rfl
        | cons a l ih => simp at ih; simp [blL, ih]
      have al2 : ∀ l : List Nat, (l.map fun _ => true).all id = true := fun l => by
        induction l with
        | nil => rfl
        | cons a l ih => simp
      simp [m__law_alike, isi, fNe, eqV', -v_dLc, h1, fAll]
      have z := al (List.range ds.length)
      simp at z
      simp [z]
def p__law_reading_0 : DS := (dAsg 1 (bind2 fIx (dTup (dCons (dC (.int 1)) (dCons (bind2 fPlus (dC (.int 1)) (dCallL F__law_take 0 (dCons (dC (.int 99)) dNil))) (dCons (bind2 fPlus (dC (.int 1)) (dCallL F__law_take 0 (dCons (bind2 fPow (dC (.int 10)) (dC (.int 9))) dNil))) dNil)))) (dCallL F__law_take 0 (dCons (dC (.int 3)) dNil))))
def p__law_reading_1 : DS := (dAsg 2 (bind2 fIx (dTup (dCons (dC (.int 0)) (dCons (dCallL F__law_take 0 (dCons (dC (.int 50)) dNil)) (dCons (dCallL F__law_take 0 (dCons (bind2 fPow (dC (.int 10)) (dC (.int 12))) dNil)) dNil)))) (dCallL F__law_take 0 (dCons (dC (.int 3)) dNil))))
def p__law_reading_2 : DS := (dAsg 3 (bind2 fIx (dTup (dCons (dC (.int 0)) (dCons (dFz 2) (dCons (bind2 fPlus (dVar 2) (dC (.int 1))) (dCons (dCallL F__law_take 0 (dCons (dC (.int 10)) dNil)) dNil))))) (dCallL F__law_take 0 (dCons (dC (.int 4)) dNil))))
def p__law_reading_3 : DS := (dRet (dTup (dCons (dFz 1) (dCons (dFz 2) (dCons (dFz 3) dNil)))))
def p__law_reading : DS := (dSeq (p__law_reading_0) (dSeq (p__law_reading_1) (dSeq (p__law_reading_2) (p__law_reading_3))))
theorem m__law_reading_eq : m__law_reading = p__law_reading := rfl
def p__law_other_0 : DS := (dIf (dT (bind2 fEq (dCallL F__law_take 0 (dCons (dC (.int 3)) dNil)) (dC (.int 0)))) (dRet (dCallL F__law_reading 0 dNil)) dPass)
def p__law_other_1 : DS := (dAsg 2 (bind2 fPlus (dC (.int 1)) (dCallL F__law_take 0 (dCons (dC (.int 9)) dNil))))
def p__law_other_2 : DS := (dAsg 3 (bind2 fIx (dCall F__law_bounds (dCons (dFz 1) dNil)) (dCallL F__law_take 0 (dCons (dC (.int 2)) dNil))))
def p__law_other_3 : DS := (dAsg 4 (dCallL F__law_take 0 (dCons (dC (.int 4)) dNil)))
def p__law_other_4 : DS := (dRet (dTup (dCons (dFz 2) (dCons (bind2 fMax2 (dC (.int 0)) (bind2 fPlus (bind2 fSub (bind2 fPlus (bind2 fDivW (dVar 3) (dVar 2)) (dCallL F__law_take 0 (dCons (dC (.int 3)) dNil))) (dC (.int 1))) (bind2 fIx (dTup (dCons (dFz 4) (dCons (bind1 fNeg (dVar 4)) dNil))) (dCallL F__law_take 0 (dCons (dC (.int 2)) dNil))))) (dCons (dFz 4) dNil)))))
def p__law_other : DS := (dSeq (p__law_other_0) (dSeq (p__law_other_1) (dSeq (p__law_other_2) (dSeq (p__law_other_3) (p__law_other_4)))))
theorem m__law_other_eq : m__law_other = p__law_other := rfl
def p__law_refused_0 : DS := (dTry1 (dIf (dT (bind2 fEq (dVar 0) (dC (.int 0)))) (dDrop (dCall F_length (dCons (bind2 fIx (dVar 1) (dC (.int 0))) (dCons (bind2 fIx (dVar 1) (dC (.int 1))) (dCons (bind2 fIx (dVar 1) (dC (.int 2))) dNil))))) (dIf (dT (bind2 fEq (dVar 0) (dC (.int 1)))) (dDrop (dCall F_between (dCons (dFz 1) (dCons (dFz 2) dNil)))) (dIf (dT (bind2 fEq (dVar 0) (dC (.int 2)))) (dDrop (dCall F_between (dCons (dFz 2) (dCons (dFz 1) dNil)))) (dDrop (dCall F_scale_of (dCons (bind2 fIx (dVar 1) (dC (.int 0))) (dCons (bind2 fIx (dVar 1) (dC (.int 1))) (dCons (bind2 fIx (dVar 1) (dC (.int 2))) (dCons (bind2 fIx (dVar 1) (dC (.int 3))) dNil))))))))) "BadNumber" 3 (.bl true))
def p__law_refused_1 : DS := (dRet (dC (.bl false)))
def p__law_refused : DS := (dSeq (p__law_refused_0) (p__law_refused_1))
theorem m__law_refused_eq : m__law_refused = p__law_refused := rfl
def p__law_scales_0 : DS := (dAsg 4 (dLst dNil))
def p__law_scales_1b_0 : DS := (dAsg 6 (dCall F__law_bounds (dCons (dTup (dCons (dFz 5) (dCons (dFz 0) (dCons (dFz 1) dNil)))) dNil)))
def p__law_scales_1b_1 : DS := (dIf (dAnd (dT (bind2 fLe (bind2 fIx (dVar 6) (dC (.int 0))) (dVar 3))) (dAnd (dT (bind2 fGe (bind2 fIx (dVar 6) (dC (.int 1))) (dVar 2))) (dT (bind2 fLe (dVar 2) (dVar 3))))) (dApp 4 (dFz 5)) dPass)
def p__law_scales_1b : DS := (dSeq (p__law_scales_1b_0) (p__law_scales_1b_1))
def p__law_scales_1 : DS := (dFor (dRange2 (dCons (dC (.int 1)) (dCons (dC (.int 100)) dNil))) (tgN 5) (p__law_scales_1b))
def p__law_scales_2 : DS := (dRet (bind1 fTupOf (dVar 4)))
def p__law_scales : DS := (dSeq (p__law_scales_0) (dSeq (p__law_scales_1) (p__law_scales_2)))
theorem m__law_scales_eq : m__law_scales = p__law_scales := rfl
def p_law_0 : DS := (dAsg 1 (dCall F__law_start (dCons (dFz 0) dNil)))
def p_law_1 : DS := (dAsg 2 (dCallL F__law_reading 1 dNil))
def p_law_2 : DS := (dAsg 3 (dCallL F__law_other 1 (dCons (dFz 2) dNil)))
def p_law_3 : DS := (dIf (dNot (dT (dCall (F__law_alike 6) (dCons (dCall F_length (dCons (bind2 fIx (dVar 2) (dC (.int 0))) (dCons (bind2 fIx (dVar 2) (dC (.int 1))) (dCons (bind2 fIx (dVar 2) (dC (.int 2))) dNil)))) (dCons (dCall F__law_bounds (dCons (dFz 2) dNil)) dNil))))) (dRet (dC (.bl false))) dPass)
def p_law_4 : DS := (dIf (dNot (dT (dCall (F__law_alike 6) (dCons (dCall (dPerm [0, 1, 2] F_length) (dCons (bind2 fIx (dVar 3) (dC (.int 0))) (dCons (bind2 fIx (dVar 3) (dC (.int 1))) (dCons (bind2 fIx (dVar 3) (dC (.int 2))) dNil)))) (dCons (dCall F__law_bounds (dCons (dFz 3) dNil)) dNil))))) (dRet (dC (.bl false))) dPass)
def p_law_5 : DS := (dAsg 4 (bind2 fMax2 (bind2 fIx (dCall F__law_bounds (dCons (dFz 2) dNil)) (dC (.int 0))) (bind2 fIx (dCall F__law_bounds (dCons (dFz 3) dNil)) (dC (.int 0)))))
def p_law_6 : DS := (dAsg 5 (bind2 fMin2 (bind2 fIx (dCall F__law_bounds (dCons (dFz 2) dNil)) (dC (.int 1))) (bind2 fIx (dCall F__law_bounds (dCons (dFz 3) dNil)) (dC (.int 1)))))
def p_law_7 : DS := (dAsg 6 (dTup (dCons (dFz 4) (dCons (dFz 5) dNil))))
def p_law_8 : DS := (dIf (dT (bind2 fGt (dVar 4) (dVar 5))) (dAsg 6 (dC .non)) dPass)
def p_law_9 : DS := (dIf (dOr (dNot (dT (dCall (F__law_alike 6) (dCons (dCall F_between (dCons (dFz 2) (dCons (dFz 3) dNil))) (dCons (dFz 6) dNil))))) (dNot (dT (dCall (F__law_alike 6) (dCons (dCall F_between (dCons (dFz 3) (dCons (dFz 2) dNil))) (dCons (dFz 6) dNil)))))) (dRet (dC (.bl false))) dPass)
def p_law_10 : DS := (dAsg 7 (dCallL F__law_take 1 (dCons (dC (.int 40)) dNil)))
def p_law_11 : DS := (dAsg 8 (dCallL F__law_take 1 (dCons (dC (.int 5)) dNil)))
def p_law_12 : DS := (dAsg 9 (dCall F__law_bounds (dCons (dTup (dCons (bind2 fPlus (dC (.int 1)) (dCallL F__law_take 1 (dCons (dC (.int 110)) dNil))) (dCons (dFz 7) (dCons (dFz 8) dNil)))) dNil)))
def p_law_13 : DS := (dAsg 4 (bind2 fMax2 (dC (.int 0)) (bind2 fSub (bind2 fIx (dVar 9) (dC (.int 0))) (dCallL F__law_take 1 (dCons (dC (.int 4)) dNil)))))
def p_law_14 : DS := (dAsg 5 (bind2 fPlus (bind2 fIx (dVar 9) (dCallL F__law_take 1 (dCons (dC (.int 2)) dNil))) (dCallL F__law_take 1 (dCons (dC (.int 3)) dNil))))
def p_law_15 : DS := (dIf (dNot (dT (dCall (F__law_alike 6) (dCons (dCall F_scale_of (dCons (dFz 7) (dCons (dFz 8) (dCons (dFz 4) (dCons (dFz 5) dNil))))) (dCons (dCall F__law_scales (dCons (dFz 7) (dCons (dFz 8) (dCons (dFz 4) (dCons (dFz 5) dNil))))) dNil))))) (dRet (dC (.bl false))) dPass)
def p_law_16 : DS := (dAsg 10 (dCallL F__law_take 1 (dCons (dC (.int 3)) dNil)))
def p_law_17b_0 : DS := (dAsg 14 (bind2 fPlus (bind2 fPlus (dSl (dVar 2) dNo (dAt (dVar 10))) (dTup (dCons (dFz 11) dNil))) (dSl (dVar 2) (dAt (bind2 fPlus (dVar 10) (dC (.int 1)))) dNo)))
def p_law_17b_1 : DS := (dIf (dNot (dT (bind1 fAll (dLc (dRange1 (dCons (dC (.int 3)) dNil)) (tgN 15) dYes (dCall F__law_refused (dCons (dFz 15) (dCons (dFz 14) (dCons (dFz 3) dNil)))) [15])))) (dRet (dC (.bl false))) dPass)
def p_law_17b : DS := (dSeq (p_law_17b_0) (p_law_17b_1))
def p_law_17 : DS := (dFor (dItems (dTup (dCons (bind1 fNeg (dC (.int 1))) (dCons (dC (.bl true)) (dCons (dC .non) (dCons (dC (.str "2")) (dCons (dTup (dCons (dC (.int 2)) (dCons (dC (.int 1)) dNil))) dNil))))))) (tgN 11) (p_law_17b))
def p_law_18 : DS := (dAsg 12 (dCallL F__law_take 1 (dCons (dC (.int 2)) dNil)))
def p_law_19b_0 : DS := (dAsg 14 (bind2 fPlus (bind2 fPlus (dSl (dTup (dCons (dFz 7) (dCons (dFz 8) (dCons (dFz 4) (dCons (dFz 5) dNil))))) dNo (dAt (dVar 12))) (dTup (dCons (dFz 11) dNil))) (dSl (dTup (dCons (dFz 7) (dCons (dFz 8) (dCons (dFz 4) (dCons (dFz 5) dNil))))) (dAt (bind2 fPlus (dVar 12) (dC (.int 1)))) dNo)))
def p_law_19b_1 : DS := (dIf (dNot (dT (dCall F__law_refused (dCons (dC (.int 3)) (dCons (dFz 14) (dCons (dFz 3) dNil)))))) (dRet (dC (.bl false))) dPass)
def p_law_19b : DS := (dSeq (p_law_19b_0) (p_law_19b_1))
def p_law_19 : DS := (dFor (dItems (dTup (dCons (bind1 fNeg (dC (.int 1))) (dCons (dC (.bl false)) (dCons (dC .non) (dCons (dC (.str "2")) dNil)))))) (tgN 11) (p_law_19b))
def p_law_20 : DS := (dIf (dOr (dNot (dT (dCall F__law_refused (dCons (dC (.int 0)) (dCons (bind2 fPlus (dTup (dCons (dC (.int 0)) dNil)) (dSl (dVar 2) (dAt (dC (.int 1))) dNo)) (dCons (dFz 3) dNil)))))) (dNot (dT (dCall F__law_refused (dCons (dC (.int 1)) (dCons (bind2 fPlus (dTup (dCons (dC (.int 0)) dNil)) (dSl (dVar 2) (dAt (dC (.int 1))) dNo)) (dCons (dFz 3) dNil))))))) (dRet (dC (.bl false))) dPass)
def p_law_21b : DS := (dIf (dOr (dNot (dT (dCall F__law_refused (dCons (dC (.int 1)) (dCons (dFz 13) (dCons (dFz 3) dNil)))))) (dNot (dT (dCall F__law_refused (dCons (dC (.int 2)) (dCons (dFz 13) (dCons (dFz 3) dNil))))))) (dRet (dC (.bl false))) dPass)
def p_law_21 : DS := (dFor (dItems (dTup (dCons (dFrE (bind1 fLstOf (dVar 2))) (dCons (dSl (dVar 2) dNo (dAt (dC (.int 2)))) (dCons (bind2 fPlus (dVar 2) (dTup (dCons (dC (.int 0)) dNil))) (dCons (dC .non) dNil)))))) (tgN 13) (p_law_21b))
def p_law_22 : DS := (dRet (dC (.bl true)))
def p_law : DS := (dSeq (p_law_0) (dSeq (p_law_1) (dSeq (p_law_2) (dSeq (p_law_3) (dSeq (p_law_4) (dSeq (p_law_5) (dSeq (p_law_6) (dSeq (p_law_7) (dSeq (p_law_8) (dSeq (p_law_9) (dSeq (p_law_10) (dSeq (p_law_11) (dSeq (p_law_12) (dSeq (p_law_13) (dSeq (p_law_14) (dSeq (p_law_15) (dSeq (p_law_16) (dSeq (p_law_17) (dSeq (p_law_18) (dSeq (p_law_19) (dSeq (p_law_20) (dSeq (p_law_21) (p_law_22)))))))))))))))))))))))
theorem m_law_eq : m_law = p_law := rfl
/-! readings -/
def lo (s p e : Int) : Int := (if p - e > 0 then p - e else 0) * s
def hi (s p e : Int) : Int := (p + e) * s
def rd (s p e : Int) : D := .tup [.int s, .int p, .int e]
theorem bounds_eq (s p e : Int) (h : s.natAbs < 18446744073709551616) : F__law_bounds [rd s p e] = .ok (.tup [.int (lo s p e), .int (hi s p e)]) [] := by
  have q : ∀ i, okMul i s = true := fun i => okMul_r h
  simp [F__law_bounds, m__law_bounds, rd, q, lo, hi]
theorem lengths_eq (s p e : Int) (h : s.natAbs < 18446744073709551616) : F_lengths_of [.int s, .int p, .int e] = .ok (.tup [.int (lo s p e), .int (hi s p e)]) [] := by
  have q : ∀ i, okMul i s = true := fun i => okMul_r h
  simp [F_lengths_of, m_lengths_of, q, lo, hi]
theorem count_eq (v l : Int) : F_is_count [.int v, .int l] = .ok (.bl (decide (l ≤ v))) [] := by
  have h : F_is_int [.int v] = .ok (.bl true) [] := by simp [F_is_int, m_is_int, isi]
  simp [F_is_count, m_is_count, h]
theorem counts_eq (ns : List Int) (h : ∀ n ∈ ns, 0 ≤ n) : F_check_counts [.tup (ns.map .int)] = .ok .non [] := by
  have go : ∀ (l : List Int) (o : Option D), (∀ n ∈ l, 0 ≤ n) → ∃ o', forLoop (tgN 1) (dIf (dNot (dT (dCall F_is_count (dCons (dFz 1) (dCons (dC (.int 0)) dNil))))) (dRaise "BadNumber") dPass) (l.map D.int) [some (.tup (ns.map .int)), o] = .nx [some (.tup (ns.map .int)), o'] := by
    intro l
    induction l with
    | nil => intro o _; exact ⟨o, rfl⟩
    | cons a l ih =>
      intro o h
      obtain ⟨o', q⟩ := ih (some (.int a)) fun n hn => h n (List.mem_cons_of_mem _ hn)
      have ha := h a List.mem_cons_self
      exact ⟨o', by simp [forLoop, count_eq, ha, q]⟩
  obtain ⟨o', q⟩ := go ns none h
  simp [F_check_counts, m_check_counts, q]
theorem reading_eq (s p e : Int) (h1 : 1 ≤ s) (h2 : 0 ≤ p) (h3 : 0 ≤ e) : F_check_reading [.int s, .int p, .int e] = .ok .non [] := by
  have q := counts_eq [p, e] (by simp [h2, h3])
  simp at q
  simp [F_check_reading, m_check_reading, count_eq, h1, q]
theorem told_eq (s p e : Int) (h1 : 1 ≤ s) (h2 : 0 ≤ p) (h3 : 0 ≤ e) : F_check_told [rd s p e] = .ok .non [] := by
  have q := reading_eq s p e h1 h2 h3
  simp [F_check_told, m_check_told, rd, isi, fNe, eqV', q]
def com (a b c d : Int) : D := if (if c > a then c else a) > (if d < b then d else b) then .non else .tup [.int (if c > a then c else a), .int (if d < b then d else b)]
theorem commonL_eq (a b c d : Int) : F_common_lengths [.tup [.int a, .int b], .tup [.int c, .int d]] = .ok (com a b c d) [] := by
  by_cases h : (if d < b then d else b) < (if c > a then c else a)
  · simp [F_common_lengths, m_common_lengths, com, h]
  · simp [F_common_lengths, m_common_lengths, com, h]
theorem frz_com (a b c d : Int) : frz (com a b c d) = true := by
  by_cases h : (if c > a then c else a) > (if d < b then d else b)
  · rw [com, if_pos h] <;> rfl
  · rw [com, if_neg h] <;> rfl
theorem between_eq (s p e s' p' e' : Int) (h : s.natAbs < 18446744073709551616) (h' : s'.natAbs < 18446744073709551616) (h1 : 1 ≤ s) (h2 : 0 ≤ p) (h3 : 0 ≤ e) (h1' : 1 ≤ s') (h2' : 0 ≤ p') (h3' : 0 ≤ e') : F_between [rd s p e, rd s' p' e'] = .ok (com (lo s p e) (hi s p e) (lo s' p' e') (hi s' p' e')) [] := by
  have t1 := told_eq s p e h1 h2 h3
  have t2 := told_eq s' p' e' h1' h2' h3'
  have l1 := lengths_eq s p e h
  have l2 := lengths_eq s' p' e' h'
  have c := commonL_eq (lo s p e) (hi s p e) (lo s' p' e') (hi s' p' e')
  have f := frz_com (lo s p e) (hi s p e) (lo s' p' e') (hi s' p' e')
  simp [rd] at t1 t2
  simp [F_between, m_between, rd, t1, t2, l1, l2, c, f]
theorem length_eq (s p e : Int) (h : s.natAbs < 18446744073709551616) (h1 : 1 ≤ s) (h2 : 0 ≤ p) (h3 : 0 ≤ e) : F_length [.int s, .int p, .int e] = .ok (.tup [.int (lo s p e), .int (hi s p e)]) [] := by
  simp [F_length, m_length, reading_eq s p e h1 h2 h3, lengths_eq s p e h]
/-- the scales at which some length between lo and hi is so read -/
def fits (p e least most : Int) (i : Nat) : Option D := if (if least > lo (1 + i) p e then least else lo (1 + i) p e) ≤ (if most < hi (1 + i) p e then most else hi (1 + i) p e) then some (.int (1 + i)) else none
theorem scale_eq (p e least most : Int) (h2 : 0 ≤ p) (h3 : 0 ≤ e) (h4 : 0 ≤ least) (h5 : 0 ≤ most) : F_scale_of [.int p, .int e, .int least, .int most] = .ok (.tup ((List.range 99).filterMap (fits p e least most))) [] := by
  have q := counts_eq [p, e, least, most] (by simp [h2, h3, h4, h5])
  simp at q
  have go : ∀ (l : List Nat) (acc : List D) (o5 o6 o7 : Option D), (∀ n ∈ l, n < 99) → acc.length + l.length ≤ 99 → ∃ o5' o6' o7', forLoop (tgN 5) (dSeq (dAsgT [6, 7] (dCall F_lengths_of (dCons (dFz 5) (dCons (dFz 0) (dCons (dFz 1) dNil))))) (dIf (dT (bind2 fLe (bind2 fMax2 (dVar 6) (dVar 2)) (bind2 fMin2 (dVar 7) (dVar 3)))) (dApp 4 (dFz 5)) dPass)) (l.map fun (i : Nat) => D.int (1 + (i : Int)))
      [some (.int p), some (.int e), some (.int least), some (.int most), some (.box true .lst acc), o5, o6, o7] = .nx [some (.int p), some (.int e), some (.int least), some (.int most), some (.box true .lst (acc ++ l.filterMap (fits p e least most))), o5', o6', o7'] := by
    intro l
    induction l with
    | nil => intro acc o5 o6 o7 _ _; exact ⟨o5, o6, o7, by simp [forLoop]⟩
    | cons a l ih =>
      intro acc o5 o6 o7 hm hl
      have ha := hm a List.mem_cons_self
      have hl : acc.length + (l.length + 1) ≤ 99 := hl
      have le := lengths_eq (1 + (a : Int)) p e (by omega)
      by_cases c : (if least > lo (1 + a) p e then least else lo (1 + a) p e) ≤ (if most < hi (1 + a) p e then most else hi (1 + a) p e)
      · obtain ⟨o5', o6', o7', z⟩ := ih (acc ++ [.int (1 + a)]) (some (.int (1 + a))) (some (.int (lo (1 + a) p e))) (some (.int (hi (1 + a) p e))) (fun n hn => hm n (List.mem_cons_of_mem _ hn)) (by simp <;> omega)
        refine ⟨o5', o6', o7', ?_⟩
        have fi : fits p e least most a = some (.int (1 + a)) := by
          unfold fits
          rw [if_pos c]
        simp [forLoop, le, c, z, fi, show acc.length < 1000000 by omega]
      · obtain ⟨o5', o6', o7', z⟩ := ih acc (some (.int (1 + a))) (some (.int (lo (1 + a) p e))) (some (.int (hi (1 + a) p e))) (fun n hn => hm n (List.mem_cons_of_mem _ hn)) (by omega)
        refine ⟨o5', o6', o7', ?_⟩
        have fi : fits p e least most a = none := by
          unfold fits
          rw [if_neg c]
        simp [forLoop, le, c, z, fi]
  obtain ⟨o5', o6', o7', z⟩ := go (List.range 99) [] none none none (fun n hn => List.mem_range.mp hn) (by simp)
  have fr : frzL ((List.range 99).filterMap (fits p e least most)) = true := by
    have g : ∀ l : List Nat, frzL (l.filterMap (fits p e least most)) = true := fun l => by
      induction l with
      | nil => rfl
      | cons a l ih =>
        by_cases c : (if least > lo (1 + a) p e then least else lo (1 + a) p e) ≤ (if most < hi (1 + a) p e then most else hi (1 + a) p e)
        · have fi : fits p e least most a = some (.int (1 + a)) := by
            unfold fits
            rw [if_pos c]
          simp [fi, ih]
        · have fi : fits p e least most a = none := by
            unfold fits
            rw [if_neg c]
          simp [fi, ih]
    exact g _
  have rr : rangeD 1 99 = (List.range 99).map fun (i : Nat) => D.int (1 + (i : Int)) := rfl
  have c1 : okR 1 = true := by decide
  have c2 : okR 100 = true := by decide
  generalize (List.range 99).filterMap (fits p e least most) = L at *
  generalize (List.range 99).map (fun (i : Nat) => D.int (1 + (i : Int))) = R at *
  simp [F_scale_of, m_scale_of, q, c1, c2, rr, z, fr]
theorem at2 (a b i : Int) (h : 0 ≤ i) (h2 : i < 2) : atI [D.int a, D.int b] i = some (.int (if i = 0 then a else b)) := by
  have : i = 0 ∨ i = 1 := by omega
  rcases this with rfl | rfl <;> simp
theorem at3 (a b c i : Int) (h : 0 ≤ i) (h2 : i < 3) : atI [D.int a, D.int b, D.int c] i = some (.int (if i = 0 then a else if i = 1 then b else c)) := by
  have : i = 0 ∨ i = 1 ∨ i = 2 := by omega
  rcases this with rfl | rfl | rfl <;> simp
theorem at4 (a b c d i : Int) (h : 0 ≤ i) (h2 : i < 4) : atI [D.int a, D.int b, D.int c, D.int d] i = some (.int (if i = 0 then a else if i = 1 then b else if i = 2 then c else d)) := by
  have : i = 0 ∨ i = 1 ∨ i = 2 ∨ i = 3 := by omega
  rcases this with rfl | rfl | rfl | rfl <;> simp
def Rd (sc p e : Int) : Prop := 1 ≤ sc ∧ sc ≤ 1000000000 ∧ 0 ≤ p ∧ 0 ≤ e
theorem law_reading_eq (s : S) : ∃ (sc p e : Int) (s' : S), F__law_reading [s.d] = .ok (rd sc p e) [s'.d] ∧ Rd sc p e := by
  have r0 : ∃ sc s', p__law_reading_0 [some s.d, none, none, none] = .nx [some (S.d s'), some (.int sc), none, none] ∧ 1 ≤ sc ∧ sc ≤ 1000000000 := by
    have a1 := s.take_nn (m := 99) (by decide)
    have a2 := (s.next 99).take_nn (m := 1000000000) (by decide)
    have a3 := s.take_lt (m := 99) (by decide)
    have a4 := (s.next 99).take_lt (m := 1000000000) (by decide)
    refine ⟨if ((s.next 99).next 1000000000).take 3 = 0 then 1 else if ((s.next 99).next 1000000000).take 3 = 1 then 1 + s.take 99 else 1 + (s.next 99).take 1000000000, ((s.next 99).next 1000000000).next 3, ?_, ?_, ?_⟩
    · simp [p__law_reading_0, take_eq, at3, S.take_nn, S.take_lt, fPow]
    · split
      · omega
      · split <;> omega
    · split
      · omega
      · split <;> omega
  obtain ⟨sc, s1, r0, c1, c2⟩ := r0
  have r1 : ∃ p s', p__law_reading_1 [some s1.d, some (.int sc), none, none] = .nx [some (S.d s'), some (.int sc), some (.int p), none] ∧ 0 ≤ p := by
    have a1 := s1.take_nn (m := 50) (by decide)
    have a2 := (s1.next 50).take_nn (m := 1000000000000) (by decide)
    refine ⟨if ((s1.next 50).next 1000000000000).take 3 = 0 then 0 else if ((s1.next 50).next 1000000000000).take 3 = 1 then s1.take 50 else (s1.next 50).take 1000000000000, ((s1.next 50).next 1000000000000).next 3, ?_, ?_⟩
    · simp [p__law_reading_1, take_eq, at3, S.take_nn, S.take_lt, fPow]
    · split
      · omega
      · split <;> omega
  obtain ⟨p, s2, r1, c3⟩ := r1
  have r2 : ∃ e s', p__law_reading_2 [some s2.d, some (.int sc), some (.int p), none] = .nx [some (S.d s'), some (.int sc), some (.int p), some (.int e)] ∧ 0 ≤ e := by
    have a1 := s2.take_nn (m := 10) (by decide)
    refine ⟨if (s2.next 10).take 4 = 0 then 0 else if (s2.next 10).take 4 = 1 then p else if (s2.next 10).take 4 = 2 then p + 1 else s2.take 10, (s2.next 10).next 4, ?_, ?_⟩
    · simp [p__law_reading_2, take_eq, at4, S.take_nn, S.take_lt]
    · split
      · omega
      · split
        · omega
        · split <;> omega
  obtain ⟨e, s3, r2, c4⟩ := r2
  refine ⟨sc, p, e, s3, ?_, c1, c2, c3, c4⟩
  rw [F__law_reading, m__law_reading_eq]
  simp [p__law_reading, r0, r1, r2, p__law_reading_3, rd]
theorem law_other_eq (s : S) (a p e : Int) (h : Rd a p e) : ∃ (sc p' e' : Int) (s' : S), F__law_other [s.d, rd a p e] = .ok (rd sc p' e') [s'.d] ∧ Rd sc p' e' := by
  by_cases c : s.take 3 = 0
  · obtain ⟨sc, p', e', s', h1, h2⟩ := law_reading_eq (s.next 3)
    refine ⟨sc, p', e', s', ?_, h2⟩
    have f1 : frz (rd a p e) = true := rfl
    have f2 : frz (rd sc p' e') = true := rfl
    generalize rd a p e = r1 at *
    generalize rd sc p' e' = r2 at *
    rw [F__law_other, m__law_other_eq]
    simp [p__law_other, p__law_other_0, take_eq, c, fEq, eqV', h1, f1, f2]
  · have b := bounds_eq a p e (by have := h.1; have := h.2.1; omega)
    have f1 : frz (rd a p e) = true := rfl
    have r0 : p__law_other_0 [some s.d, some (rd a p e), none, none, none] = .nx [some (S.d (s.next 3)), some (rd a p e), none, none, none] := by
      simp [p__law_other_0, take_eq, c, fEq, eqV']
    have t1 := (s.next 3).take_nn (m := 9) (by decide)
    have t2 := (s.next 3).take_lt (m := 9) (by decide)
    have r1 : p__law_other_1 [some (S.d (s.next 3)), some (rd a p e), none, none, none] = .nx [some (S.d ((s.next 3).next 9)), some (rd a p e), some (.int (1 + (s.next 3).take 9)), none, none] := by
      simp [p__law_other_1, take_eq]
    generalize (s.next 3).next 9 = s1 at *
    have hs : 1 ≤ 1 + (s.next 3).take 9 ∧ 1 + (s.next 3).take 9 ≤ 9 := by omega
    generalize 1 + (s.next 3).take 9 = sc at *
    have r2 : ∃ x, p__law_other_2 [some (S.d s1), some (rd a p e), some (.int sc), none, none] = .nx [some (S.d (s1.next 2)), some (rd a p e), some (.int sc), some (.int x), none] := by
      exact ⟨_, by simp [p__law_other_2, b, f1, take_eq, at2, S.take_nn, S.take_lt]; rfl⟩
    obtain ⟨x, r2⟩ := r2
    generalize s1.next 2 = s2 at *
    have t3 := s2.take_nn (m := 4) (by decide)
    have r3 : p__law_other_3 [some (S.d s2), some (rd a p e), some (.int sc), some (.int x), none] = .nx [some (S.d (s2.next 4)), some (rd a p e), some (.int sc), some (.int x), some (.int (s2.take 4))] := by
      simp [p__law_other_3, take_eq]
    generalize s2.take 4 = er at *
    generalize s2.next 4 = s3 at *
    have n1 : sc.natAbs < 18446744073709551616 := by omega
    have n2 : 0 < sc := by omega
    have r4 : ∃ y, p__law_other_4 [some (S.d s3), some (rd a p e), some (.int sc), some (.int x), some (.int er)] = .rt (rd sc (if y > 0 then y else 0) er) [some (S.d ((s3.next 3).next 2)), some (rd a p e), some (.int sc), some (.int x), some (.int er)] := by
      exact ⟨x / sc + s3.take 3 - 1 + (if (s3.next 3).take 2 = 0 then er else -er), by simp [p__law_other_4, n1, n2, take_eq, at2, S.take_nn, S.take_lt, rd]⟩
    obtain ⟨y, r4⟩ := r4
    refine ⟨sc, if y > 0 then y else 0, er, (s3.next 3).next 2, ?_, by omega, by omega, by split <;> omega, t3⟩
    rw [F__law_other, m__law_other_eq]
    simp [p__law_other, r0, r1, r2, r3, r4]
/-- wrong ones -/
def Wr (d : D) : Prop := frz d = true ∧ F_is_count [d, .int 0] = .ok (.bl false) [] ∧ F_is_count [d, .int 1] = .ok (.bl false) []
theorem wr_m1 : Wr (.int (-1)) := ⟨rfl, by simp [count_eq], by simp [count_eq]⟩
theorem is_int_b (b : Bool) : F_is_int [.bl b] = .ok (.bl false) [] := by simp [F_is_int, m_is_int, isi]
theorem is_int_s (b : Str) : F_is_int [.str b] = .ok (.bl false) [] := by simp [F_is_int, m_is_int, isi]
theorem is_int_n : F_is_int [.non] = .ok (.bl false) [] := by simp [F_is_int, m_is_int, isi]
theorem is_int_t (ds : List D) : F_is_int [.tup ds] = .ok (.bl false) [] := by simp [F_is_int, m_is_int, isi]
theorem wr_of (d : D) (f : frz d = true) (h : F_is_int [d] = .ok (.bl false) []) : Wr d := ⟨f, by simp [F_is_count, m_is_count, h, f], by simp [F_is_count, m_is_count, h, f]⟩
/-- what stands in the place of a number, and is one -/
def Ok0 (d : D) : Prop := frz d = true ∧ F_is_count [d, .int 0] = .ok (.bl true) []
theorem ok0 {i : Int} (h : 0 ≤ i) : Ok0 (.int i) := ⟨rfl, by simp [count_eq, h]⟩
def Bd0 (d : D) : Prop := frz d = true ∧ F_is_count [d, .int 0] = .ok (.bl false) []
theorem counts_bad (pre post : List D) (b : D) (hp : ∀ d ∈ pre, Ok0 d) (hb : Bd0 b) (hq : frzL post = true) : F_check_counts [.tup (pre ++ b :: post)] = .ex "BadNumber" [] := by
  have fp : frzL pre = true := by
    induction pre with
    | nil => rfl
    | cons a l ih => simp [(hp a List.mem_cons_self).1, ih fun x hx => hp x (List.mem_cons_of_mem _ hx)]
  have ff : frzL (pre ++ b :: post) = true := by simp [fp, hb.1, hq]
  have go : ∀ (l : List D) (T : D) (o : Option D), (∀ d ∈ l, Ok0 d) → ∃ ρ, forLoop (tgN 1) (dIf (dNot (dT (dCall F_is_count (dCons (dFz 1) (dCons (dC (.int 0)) dNil))))) (dRaise "BadNumber") dPass) (l ++ b :: post) [some T, o] = .ex "BadNumber" [] ρ := by
    intro l
    induction l with
    | nil => intro T o _; exact ⟨[some T, some b], by simp [forLoop, hb.1, hb.2]⟩
    | cons a l ih =>
      intro T o h
      obtain ⟨ρ, q⟩ := ih T (some a) fun n hn => h n (List.mem_cons_of_mem _ hn)
      have ha := h a List.mem_cons_self
      exact ⟨ρ, by simp [forLoop, ha.1, ha.2, q]⟩
  obtain ⟨ρ, q⟩ := go pre (.tup (pre ++ b :: post)) none hp
  generalize pre ++ b :: post = L at *
  simp [F_check_counts, m_check_counts, ff, q]
theorem Bd0.of {d : D} (h : Wr d) : Bd0 d := ⟨h.1, h.2.1⟩
def Cr (d1 d2 d3 : D) : Prop := F_check_reading [d1, d2, d3] = .ex "BadNumber" []
theorem cr1 (d1 d2 d3 : D) (f1 : frz d1 = true) (f2 : frz d2 = true) (f3 : frz d3 = true) (h : F_is_count [d1, .int 1] = .ok (.bl false) []) : Cr d1 d2 d3 := by
  simp [Cr, F_check_reading, m_check_reading, f1, f2, f3, h]
theorem cr2 (s : Int) (d2 d3 : D) (hs : 1 ≤ s) (h2 : Bd0 d2) (f3 : frz d3 = true) : Cr (.int s) d2 d3 := by
  have q := counts_bad [] [d3] d2 (fun _ z => nomatch z) h2 (by simp [f3])
  simp at q
  simp [Cr, F_check_reading, m_check_reading, count_eq, hs, h2.1, f3, q]
theorem cr3 (s p : Int) (d3 : D) (hs : 1 ≤ s) (hp : 0 ≤ p) (h3 : Bd0 d3) : Cr (.int s) (.int p) d3 := by
  have q := counts_bad [.int p] [] d3 (fun d z => by cases z with | head => exact ok0 hp | tail _ z => exact nomatch z) h3 rfl
  simp at q
  simp [Cr, F_check_reading, m_check_reading, count_eq, hs, h3.1, q]
theorem told_bad (d1 d2 d3 : D) (f1 : frz d1 = true) (f2 : frz d2 = true) (f3 : frz d3 = true) (h : Cr d1 d2 d3) : F_check_told [.tup [d1, d2, d3]] = .ex "BadNumber" [] := by
  simp only [Cr] at h
  simp [F_check_told, m_check_told, isi, fNe, eqV', f1, f2, f3, h]
theorem refused_told (d : D) (s p e : Int) (f : frz d = true) (h : F_check_told [d] = .ex "BadNumber" []) (hr : Rd s p e) : F__law_refused [.int 1, d, rd s p e] = .ok (.bl true) [] ∧ F__law_refused [.int 2, d, rd s p e] = .ok (.bl true) [] := by
  have t := told_eq s p e hr.1 hr.2.2.1 hr.2.2.2
  have fr : frz (rd s p e) = true := rfl
  have b1 : F_between [d, rd s p e] = .ex "BadNumber" [] := by
    generalize rd s p e = r at *
    simp [F_between, m_between, f, h]
  have b2 : F_between [rd s p e, d] = .ex "BadNumber" [] := by
    generalize rd s p e = r at *
    simp [F_between, m_between, f, fr, t, h]
  generalize rd s p e = r at *
  rw [F__law_refused, m__law_refused_eq]
  constructor
  · simp [p__law_refused, p__law_refused_0, dTry1, fEq, eqV', f, fr, b1]
  · simp [p__law_refused, p__law_refused_0, dTry1, fEq, eqV', f, fr, b2]
theorem refused_0 (d1 d2 d3 r : D) (f1 : frz d1 = true) (f2 : frz d2 = true) (f3 : frz d3 = true) (h : Cr d1 d2 d3) : F__law_refused [.int 0, .tup [d1, d2, d3], r] = .ok (.bl true) [] := by
  simp only [Cr] at h
  have b1 : F_length [d1, d2, d3] = .ex "BadNumber" [] := by
    simp [F_length, m_length, f1, f2, f3, h]
  rw [F__law_refused, m__law_refused_eq]
  simp [p__law_refused, p__law_refused_0, dTry1, fEq, eqV', f1, f2, f3, b1]
theorem refused_3 (d1 d2 d3 d4 r : D) (f1 : frz d1 = true) (f2 : frz d2 = true) (f3 : frz d3 = true) (f4 : frz d4 = true) (h : F_check_counts [.tup [d1, d2, d3, d4]] = .ex "BadNumber" []) : F__law_refused [.int 3, .tup [d1, d2, d3, d4], r] = .ok (.bl true) [] := by
  have b1 : F_scale_of [d1, d2, d3, d4] = .ex "BadNumber" [] := by
    simp [F_scale_of, m_scale_of, f1, f2, f3, f4, h]
  rw [F__law_refused, m__law_refused_eq]
  simp [p__law_refused, p__law_refused_0, dTry1, fEq, eqV', f1, f2, f3, f4, b1]
theorem com_symm (a b c d : Int) : com c d a b = com a b c d := by
  have e1 : (if a > c then a else c) = (if c > a then c else a) := by split <;> split <;> omega
  have e2 : (if b < d then b else d) = (if d < b then d else b) := by split <;> split <;> omega
  rw [com, com, e1, e2]
theorem pl_com (a b c d : Int) : pl 6 (com a b c d) = true := by
  by_cases h : (if c > a then c else a) > (if d < b then d else b)
  · rw [com, if_pos h] <;> rfl
  · rw [com, if_neg h] <;> rfl
theorem pl_pair (x y : Int) : pl 6 (.tup [.int x, .int y]) = true := rfl
/-- the law's scales -/
def dues (p e low high : Int) (i : Nat) : Option D := if lo (1 + i) p e ≤ high ∧ hi (1 + i) p e ≥ low ∧ low ≤ high then some (.int (1 + i)) else none
theorem dues_fits (p e low high : Int) (h3 : 0 ≤ p) (h4 : 0 ≤ e) (i : Nat) : dues p e low high i = fits p e low high i := by
  have q : lo (1 + i) p e ≤ hi (1 + i) p e := Int.mul_le_mul_of_nonneg_right (by split <;> omega) (by omega)
  unfold dues fits
  by_cases c : lo (1 + i) p e ≤ high ∧ hi (1 + i) p e ≥ low ∧ low ≤ high
  · rw [if_pos c, if_pos]
    split <;> split <;> omega
  · rw [if_neg c, if_neg]
    intro z
    apply c
    split at z <;> split at z <;> omega
theorem frz_dues (p e low high : Int) : ∀ l : List Nat, frzL (l.filterMap (dues p e low high)) = true ∧ ∀ x ∈ l.filterMap (dues p e low high), pl 5 x = true := fun l => by
  refine ⟨?_, ?_⟩
  · induction l with
    | nil => rfl
    | cons n l ih =>
      by_cases c : lo (1 + n) p e ≤ high ∧ hi (1 + n) p e ≥ low ∧ low ≤ high
      · have fi : dues p e low high n = some (.int (1 + n)) := by
          unfold dues
          rw [if_pos c]
        simp [fi, ih]
      · have fi : dues p e low high n = none := by
          unfold dues
          rw [if_neg c]
        simp [fi, ih]
  · intro x hx
    obtain ⟨n, _, hn⟩ := List.mem_filterMap.mp hx
    unfold dues at hn
    split at hn
    · cases hn; rfl
    · cases hn
theorem law_scales_eq (p e low high : Int) : F__law_scales [.int p, .int e, .int low, .int high] = .ok (.tup ((List.range 99).filterMap (dues p e low high))) [] := by
  have go : ∀ (l : List Nat) (acc : List D) (o5 o6 : Option D), (∀ n ∈ l, n < 99) → acc.length + l.length ≤ 99 → ∃ o5' o6', forLoop (tgN 5) p__law_scales_1b (l.map fun (i : Nat) => D.int (1 + (i : Int)))
      [some (.int p), some (.int e), some (.int low), some (.int high), some (.box true .lst acc), o5, o6] = .nx [some (.int p), some (.int e), some (.int low), some (.int high), some (.box true .lst (acc ++ l.filterMap (dues p e low high))), o5', o6'] := by
    intro l
    induction l with
    | nil => intro acc o5 o6 _ _; exact ⟨o5, o6, by simp [forLoop]⟩
    | cons n l ih =>
      intro acc o5 o6 hm hl
      have ha := hm n List.mem_cons_self
      have hl : acc.length + (l.length + 1) ≤ 99 := hl
      have le := bounds_eq (1 + (n : Int)) p e (by omega)
      simp only [rd] at le
      by_cases c : lo (1 + n) p e ≤ high ∧ hi (1 + n) p e ≥ low ∧ low ≤ high
      · obtain ⟨o5', o6', z⟩ := ih (acc ++ [.int (1 + n)]) (some (.int (1 + n))) (some (.tup [.int (lo (1 + n) p e), .int (hi (1 + n) p e)])) (fun n hn => hm n (List.mem_cons_of_mem _ hn)) (by simp <;> omega)
        refine ⟨o5', o6', ?_⟩
        have fi : dues p e low high n = some (.int (1 + n)) := by
          unfold dues
          rw [if_pos c]
        have c2 : low ≤ hi (1 + n) p e := c.2.1
        have hb : p__law_scales_1b [some (.int p), some (.int e), some (.int low), some (.int high), some (.box true .lst acc), some (.int (1 + n)), o6] = .nx [some (.int p), some (.int e), some (.int low), some (.int high), some (.box true .lst (acc ++ [.int (1 + n)])), some (.int (1 + n)), some (.tup [.int (lo (1 + n) p e), .int (hi (1 + n) p e)])] := by
          simp [p__law_scales_1b, p__law_scales_1b_0, p__law_scales_1b_1, le, c.1, c2, c.2.2, show acc.length < 1000000 by omega]
        rw [List.map_cons, for_cons (t := tgN 5) (by rfl) hb, z, List.filterMap_cons, fi, List.append_assoc] <;> rfl
      · obtain ⟨o5', o6', z⟩ := ih acc (some (.int (1 + n))) (some (.tup [.int (lo (1 + n) p e), .int (hi (1 + n) p e)])) (fun n hn => hm n (List.mem_cons_of_mem _ hn)) (by omega)
        refine ⟨o5', o6', ?_⟩
        have fi : dues p e low high n = none := by
          unfold dues
          rw [if_neg c]
        have hb : p__law_scales_1b [some (.int p), some (.int e), some (.int low), some (.int high), some (.box true .lst acc), some (.int (1 + n)), o6] = .nx [some (.int p), some (.int e), some (.int low), some (.int high), some (.box true .lst acc), some (.int (1 + n)), some (.tup [.int (lo (1 + n) p e), .int (hi (1 + n) p e)])] := by
          by_cases c1 : lo (1 + n) p e ≤ high
          · by_cases c2 : low ≤ hi (1 + n) p e
            · have c3 : ¬ low ≤ high := fun z => c ⟨c1, c2, z⟩
              simp [p__law_scales_1b, p__law_scales_1b_0, p__law_scales_1b_1, le, c1, c2, c3]
            · simp [p__law_scales_1b, p__law_scales_1b_0, p__law_scales_1b_1, le, c1, c2]
          · simp [p__law_scales_1b, p__law_scales_1b_0, p__law_scales_1b_1, le, c1]
        rw [List.map_cons, for_cons (t := tgN 5) (by rfl) hb, z, List.filterMap_cons, fi] <;> rfl
  obtain ⟨o5', o6', z⟩ := go (List.range 99) [] none none (fun n hn => List.mem_range.mp hn) (by simp)
  have fr := (frz_dues p e low high (List.range 99)).1
  have rr : rangeD 1 99 = (List.range 99).map fun (i : Nat) => D.int (1 + (i : Int)) := rfl
  have c1 : okR 1 = true := by decide
  have c2 : okR 100 = true := by decide
  rw [F__law_scales, m__law_scales_eq]
  generalize (List.range 99).filterMap (dues p e low high) = L at *
  generalize (List.range 99).map (fun (i : Nat) => D.int (1 + (i : Int))) = R at *
  simp [p__law_scales, p__law_scales_0, p__law_scales_1, p__law_scales_2, c1, c2, rr, z, fr]
theorem plus_t (xs ys : List D) (h1 : frzL xs = true) (h2 : frzL ys = true) (h3 : xs.length + ys.length ≤ 1000000) : fPlus (.tup xs) (.tup ys) = some (true, .tup (xs ++ ys)) := by
  simp [fPlus, fCatT, h1, h2, h3]
section
variable (sc : D) (s : S) (a p e a' p' e' : Int) (o4 o5 o6 o7 o8 o9 o10 o11 o12 o13 o14 : Option D)
theorem q3 (h : Rd a p e) : p_law_3 [some sc, some (S.d s), some (rd a p e), some (rd a' p' e'), o4, o5, o6, o7, o8, o9, o10, o11, o12, o13, o14, none] = .nx [some sc, some (S.d s), some (rd a p e), some (rd a' p' e'), o4, o5, o6, o7, o8, o9, o10, o11, o12, o13, o14, none] := by
  obtain ⟨h1, h2, h3, h4⟩ := h
  have l := length_eq a p e (by omega) h1 h3 h4
  have b := bounds_eq a p e (by omega)
  have q := alike_refl 6 _ (pl_pair (lo a p e) (hi a p e))
  simp only [rd] at b
  simp [p_law_3, rd, l, b, q]
theorem q4 (h : Rd a' p' e') : p_law_4 [some sc, some (S.d s), some (rd a p e), some (rd a' p' e'), o4, o5, o6, o7, o8, o9, o10, o11, o12, o13, o14, none] = .nx [some sc, some (S.d s), some (rd a p e), some (rd a' p' e'), o4, o5, o6, o7, o8, o9, o10, o11, o12, o13, o14, none] := by
  obtain ⟨h1, h2, h3, h4⟩ := h
  have l := length_eq a' p' e' (by omega) h1 h3 h4
  have b := bounds_eq a' p' e' (by omega)
  have q := alike_refl 6 _ (pl_pair (lo a' p' e') (hi a' p' e'))
  simp only [rd] at b
  simp [p_law_4, rd, l, b, q, dPerm, permL]
theorem q58 (h : Rd a p e) (h' : Rd a' p' e') : ∃ o4' o5', (dSeq p_law_5 (dSeq p_law_6 (dSeq p_law_7 p_law_8))) [some sc, some (S.d s), some (rd a p e), some (rd a' p' e'), o4, o5, o6, o7, o8, o9, o10, o11, o12, o13, o14, none] = .nx [some sc, some (S.d s), some (rd a p e), some (rd a' p' e'), o4', o5', some (com (lo a p e) (hi a p e) (lo a' p' e') (hi a' p' e')), o7, o8, o9, o10, o11, o12, o13, o14, none] := by
  have b := bounds_eq a p e (by have := h.1; have := h.2.1; omega)
  have b' := bounds_eq a' p' e' (by have := h'.1; have := h'.2.1; omega)
  have f1 : frz (rd a p e) = true := rfl
  have f2 : frz (rd a' p' e') = true := rfl
  generalize rd a p e = r1 at *
  generalize rd a' p' e' = r2 at *
  generalize lo a p e = x at *
  generalize hi a p e = y at *
  generalize lo a' p' e' = x' at *
  generalize hi a' p' e' = y' at *
  by_cases h : (if y' < y then y' else y) < (if x' > x then x' else x)
  · exact ⟨some (.int (if x' > x then x' else x)), some (.int (if y' < y then y' else y)), by simp [p_law_5, p_law_6, p_law_7, p_law_8, b, b', f1, f2, h, com]⟩
  · exact ⟨some (.int (if x' > x then x' else x)), some (.int (if y' < y then y' else y)), by simp [p_law_5, p_law_6, p_law_7, p_law_8, b, b', f1, f2, h, com]⟩
theorem q9 (h : Rd a p e) (h' : Rd a' p' e') : p_law_9 [some sc, some (S.d s), some (rd a p e), some (rd a' p' e'), o4, o5, some (com (lo a p e) (hi a p e) (lo a' p' e') (hi a' p' e')), o7, o8, o9, o10, o11, o12, o13, o14, none] = .nx [some sc, some (S.d s), some (rd a p e), some (rd a' p' e'), o4, o5, some (com (lo a p e) (hi a p e) (lo a' p' e') (hi a' p' e')), o7, o8, o9, o10, o11, o12, o13, o14, none] := by
  have n1 : a.natAbs < 18446744073709551616 := by have := h.1; have := h.2.1; omega
  have n2 : a'.natAbs < 18446744073709551616 := by have := h'.1; have := h'.2.1; omega
  have b1 := between_eq a p e a' p' e' n1 n2 h.1 h.2.2.1 h.2.2.2 h'.1 h'.2.2.1 h'.2.2.2
  have b2 := between_eq a' p' e' a p e n2 n1 h'.1 h'.2.2.1 h'.2.2.2 h.1 h.2.2.1 h.2.2.2
  rw [com_symm] at b2
  have q := alike_refl 6 _ (pl_com (lo a p e) (hi a p e) (lo a' p' e') (hi a' p' e'))
  have f1 : frz (rd a p e) = true := rfl
  have f2 : frz (rd a' p' e') = true := rfl
  have f3 := frz_com (lo a p e) (hi a p e) (lo a' p' e') (hi a' p' e')
  generalize rd a p e = r1 at *
  generalize rd a' p' e' = r2 at *
  generalize com (lo a p e) (hi a p e) (lo a' p' e') (hi a' p' e') = cm at *
  simp [p_law_9, b1, b2, q, f1, f2, f3]
theorem q1014 : ∃ (pa er low high : Int) (s' : S) (o9' : Option D), (dSeq p_law_10 (dSeq p_law_11 (dSeq p_law_12 (dSeq p_law_13 p_law_14)))) [some sc, some (S.d s), some (rd a p e), some (rd a' p' e'), o4, o5, o6, o7, o8, o9, o10, o11, o12, o13, o14, none] = .nx [some sc, some (S.d s'), some (rd a p e), some (rd a' p' e'), some (.int low), some (.int high), o6, some (.int pa), some (.int er), o9', o10, o11, o12, o13, o14, none] ∧ 0 ≤ pa ∧ 0 ≤ er ∧ 0 ≤ low ∧ 0 ≤ high := by
  have r10 : p_law_10 [some sc, some (S.d s), some (rd a p e), some (rd a' p' e'), o4, o5, o6, o7, o8, o9, o10, o11, o12, o13, o14, none] = .nx [some sc, some (S.d (s.next 40)), some (rd a p e), some (rd a' p' e'), o4, o5, o6, some (.int (s.take 40)), o8, o9, o10, o11, o12, o13, o14, none] := by simp [p_law_10, take_eq]
  have t1 := s.take_nn (m := 40) (by decide)
  generalize s.take 40 = pa at *
  generalize s.next 40 = s1 at *
  have r11 : p_law_11 [some sc, some (S.d s1), some (rd a p e), some (rd a' p' e'), o4, o5, o6, some (.int pa), o8, o9, o10, o11, o12, o13, o14, none] = .nx [some sc, some (S.d (s1.next 5)), some (rd a p e), some (rd a' p' e'), o4, o5, o6, some (.int pa), some (.int (s1.take 5)), o9, o10, o11, o12, o13, o14, none] := by simp [p_law_11, take_eq]
  have t2 := s1.take_nn (m := 5) (by decide)
  generalize s1.take 5 = er at *
  generalize s1.next 5 = s2 at *
  have t3 := s2.take_nn (m := 110) (by decide)
  have t4 := s2.take_lt (m := 110) (by decide)
  have b := bounds_eq (1 + s2.take 110) pa er (by omega)
  simp only [rd] at b
  have l1 : 0 ≤ lo (1 + s2.take 110) pa er := Int.mul_nonneg (by split <;> omega) (by omega)
  have l2 : 0 ≤ hi (1 + s2.take 110) pa er := Int.mul_nonneg (by omega) (by omega)
  have r12 : p_law_12 [some sc, some (S.d s2), some (rd a p e), some (rd a' p' e'), o4, o5, o6, some (.int pa), some (.int er), o9, o10, o11, o12, o13, o14, none] = .nx [some sc, some (S.d (s2.next 110)), some (rd a p e), some (rd a' p' e'), o4, o5, o6, some (.int pa), some (.int er), some (.tup [.int (lo (1 + s2.take 110) pa er), .int (hi (1 + s2.take 110) pa er)]), o10, o11, o12, o13, o14, none] := by simp [p_law_12, take_eq, b]
  generalize lo (1 + s2.take 110) pa er = x at *
  generalize hi (1 + s2.take 110) pa er = y at *
  generalize s2.next 110 = s3 at *
  have r13 : p_law_13 [some sc, some (S.d s3), some (rd a p e), some (rd a' p' e'), o4, o5, o6, some (.int pa), some (.int er), some (.tup [.int x, .int y]), o10, o11, o12, o13, o14, none] = .nx [some sc, some (S.d (s3.next 4)), some (rd a p e), some (rd a' p' e'), some (.int (if x - s3.take 4 > 0 then x - s3.take 4 else 0)), o5, o6, some (.int pa), some (.int er), some (.tup [.int x, .int y]), o10, o11, o12, o13, o14, none] := by simp [p_law_13, take_eq]
  have t5 : 0 ≤ (if x - s3.take 4 > 0 then x - s3.take 4 else 0) := by split <;> omega
  generalize (if x - s3.take 4 > 0 then x - s3.take 4 else 0) = low at *
  generalize s3.next 4 = s4 at *
  have t6 := (s4.next 2).take_nn (m := 3) (by decide)
  have r14 : p_law_14 [some sc, some (S.d s4), some (rd a p e), some (rd a' p' e'), some (.int low), o5, o6, some (.int pa), some (.int er), some (.tup [.int x, .int y]), o10, o11, o12, o13, o14, none] = .nx [some sc, some (S.d ((s4.next 2).next 3)), some (rd a p e), some (rd a' p' e'), some (.int low), some (.int ((if s4.take 2 = 0 then x else y) + (s4.next 2).take 3)), o6, some (.int pa), some (.int er), some (.tup [.int x, .int y]), o10, o11, o12, o13, o14, none] := by simp [p_law_14, take_eq, at2, S.take_nn, S.take_lt]
  refine ⟨pa, er, low, (if s4.take 2 = 0 then x else y) + (s4.next 2).take 3, (s4.next 2).next 3, some (.tup [.int x, .int y]), ?_, t1, t2, t5, by split <;> omega⟩
  simp only [v_seq, r10, r11, r12, r13, r14]
theorem q15 (pa er low high : Int) (h1 : 0 ≤ pa) (h2 : 0 ≤ er) (h3 : 0 ≤ low) (h4 : 0 ≤ high) : p_law_15 [some sc, some (S.d s), some (rd a p e), some (rd a' p' e'), some (.int low), some (.int high), o6, some (.int pa), some (.int er), o9, o10, o11, o12, o13, o14, none] = .nx [some sc, some (S.d s), some (rd a p e), some (rd a' p' e'), some (.int low), some (.int high), o6, some (.int pa), some (.int er), o9, o10, o11, o12, o13, o14, none] := by
  have q := scale_eq pa er low high h1 h2 h3 h4
  have w := law_scales_eq pa er low high
  have ed : dues pa er low high = fits pa er low high := funext fun i => dues_fits pa er low high h1 h2 i
  rw [← ed] at q
  obtain ⟨f1, f2⟩ := frz_dues pa er low high (List.range 99)
  have ll : ((List.range 99).filterMap (dues pa er low high)).length ≤ 99 := by
    have := List.length_filterMap_le (dues pa er low high) (List.range 99)
    simpa using this
  generalize (List.range 99).filterMap (dues pa er low high) = L at *
  have al := alike_refl 6 (.tup L) (by simp [pl]; exact ⟨by omega, f2⟩)
  simp [p_law_15, q, w, f1, al]
theorem q17b (k : Int) (hk : 0 ≤ k) (hk3 : k < 3) (w : D) (hw : Wr w) (h : Rd a p e) (h' : Rd a' p' e') : ∃ o14', p_law_17b [some sc, some (S.d s), some (rd a p e), some (rd a' p' e'), o4, o5, o6, o7, o8, o9, some (.int k), some w, o12, o13, o14, none] = .nx [some sc, some (S.d s), some (rd a p e), some (rd a' p' e'), o4, o5, o6, o7, o8, o9, some (.int k), some w, o12, o13, o14', none] := by
  obtain ⟨wf, w0, w1⟩ := hw
  have key : ∃ d1 d2 d3, p_law_17b_0 [some sc, some (S.d s), some (rd a p e), some (rd a' p' e'), o4, o5, o6, o7, o8, o9, some (.int k), some w, o12, o13, o14, none] = .nx [some sc, some (S.d s), some (rd a p e), some (rd a' p' e'), o4, o5, o6, o7, o8, o9, some (.int k), some w, o12, o13, some (.tup [d1, d2, d3]), none] ∧ frz d1 = true ∧ frz d2 = true ∧ frz d3 = true ∧ Cr d1 d2 d3 := by
    have : k = 0 ∨ k = 1 ∨ k = 2 := by omega
    rcases this with rfl | rfl | rfl
    · refine ⟨w, .int p, .int e, ?_, wf, rfl, rfl, cr1 _ _ _ wf rfl rfl w1⟩
      have pn : fPlus (D.box false Kd.tup []) (D.box false Kd.tup [w]) = some (true, D.box false Kd.tup [w]) := plus_t [] [w] rfl (by simp [wf]) (by simp)
      simp [p_law_17b_0, rd, wf, plus_t, pn, cutG, HT.sIx]
    · refine ⟨.int a, w, .int e, ?_, rfl, wf, rfl, cr2 _ _ _ h.1 ⟨wf, w0⟩ rfl⟩
      simp [p_law_17b_0, rd, wf, plus_t, cutG, HT.sIx]
    · refine ⟨.int a, .int p, w, ?_, rfl, rfl, wf, cr3 _ _ _ h.1 h.2.2.1 ⟨wf, w0⟩⟩
      have pn : fPlus (D.box false Kd.tup [D.int a, D.int p, w]) (D.box false Kd.tup []) = some (true, D.box false Kd.tup [D.int a, D.int p, w]) := plus_t [D.int a, D.int p, w] [] (by simp [wf]) rfl (by simp)
      simp [p_law_17b_0, rd, wf, plus_t, pn, cutG, HT.sIx]
  obtain ⟨d1, d2, d3, z, f1, f2, f3, c⟩ := key
  have e0 := refused_0 d1 d2 d3 (rd a' p' e') f1 f2 f3 c
  obtain ⟨e1, e2⟩ := refused_told (.tup [d1, d2, d3]) a' p' e' (by simp [f1, f2, f3]) (told_bad d1 d2 d3 f1 f2 f3 c) h'
  have ft : frz (.tup [d1, d2, d3]) = true := by simp [f1, f2, f3]
  have fr : frz (rd a' p' e') = true := rfl
  generalize D.tup [d1, d2, d3] = bt at *
  generalize rd a' p' e' = r2 at *
  refine ⟨some bt, ?_⟩
  obtain ⟨ee, ρ', y1, y2⟩ := lc_do (it := dRange1 (dCons (dC (.int 3)) dNil)) (t := tgN 15) (test := dYes) (elt := dCall F__law_refused (dCons (dFz 15) (dCons (dFz 14) (dCons (dFz 3) dNil)))) (vs := [15]) (ρ := [some sc, some (S.d s), some (rd a p e), some r2, o4, o5, o6, o7, o8, o9, some (.int k), some w, o12, o13, some bt, none]) (ρ1 := [some sc, some (S.d s), some (rd a p e), some r2, o4, o5, o6, o7, o8, o9, some (.int k), some w, o12, o13, some bt, none]) (f := true) (e := false)
    (List.range 3) (fun i => D.int (0 + (i : Int))) (fun _ => some (.bl true)) (fun ρ => ρ = [some sc, some (S.d s), some (rd a p e), some r2, o4, o5, o6, o7, o8, o9, some (.int k), some w, o12, o13, some bt, none]) (by
      have c : okR 3 = true := by decide
      simp [c, rangeD]) (by simp) rfl (fun i hi ρ hρ => by
      subst hρ
      have hi : i < 3 := List.mem_range.mp hi
      have : i = 0 ∨ i = 1 ∨ i = 2 := by omega
      rcases this with rfl | rfl | rfl
      · refine ⟨_, rfl, .inr ⟨false, _, true, .bl true, false, [some sc, some (S.d s), some (rd a p e), some r2, o4, o5, o6, o7, o8, o9, some (.int k), some w, o12, o13, some bt, some (D.int (0 + ((0 : Nat) : Int)))], rfl, rfl, ?_, rfl, rfl⟩⟩
        simp [ft, fr, e0]
      · refine ⟨_, rfl, .inr ⟨false, _, true, .bl true, false, [some sc, some (S.d s), some (rd a p e), some r2, o4, o5, o6, o7, o8, o9, some (.int k), some w, o12, o13, some bt, some (D.int (0 + ((1 : Nat) : Int)))], rfl, rfl, ?_, rfl, rfl⟩⟩
        simp [ft, fr, e1]
      · refine ⟨_, rfl, .inr ⟨false, _, true, .bl true, false, [some sc, some (S.d s), some (rd a p e), some r2, o4, o5, o6, o7, o8, o9, some (.int k), some w, o12, o13, some bt, some (D.int (0 + ((2 : Nat) : Int)))], rfl, rfl, ?_, rfl, rfl⟩⟩
        simp [ft, fr, e2])
  have y3 : ρ' = [some sc, some (S.d s), some (rd a p e), some r2, o4, o5, o6, o7, o8, o9, some (.int k), some w, o12, o13, some bt, none] := by
    rcases y2 with y | y <;> exact y
  subst y3
  have y4 : fAll (.box true .lst ((List.range 3).filterMap fun _ => some (D.bl true))) = some (true, .bl true) := rfl
  have z1 : p_law_17b_1 [some sc, some (S.d s), some (rd a p e), some r2, o4, o5, o6, o7, o8, o9, some (.int k), some w, o12, o13, some bt, none] = .nx [some sc, some (S.d s), some (rd a p e), some r2, o4, o5, o6, o7, o8, o9, some (.int k), some w, o12, o13, some bt, none] := by
    generalize (List.range 3).filterMap (fun _ => some (D.bl true)) = LL at *
    simp [p_law_17b_1, -v_dLc, y1, y4]
  simp only [p_law_17b, v_seq, z, z1]
theorem q19b (pa er low high k : Int) (h1 : 0 ≤ pa) (hk : 0 ≤ k) (hk2 : k < 2) (w : D) (hw : Wr w) : ∃ o14', p_law_19b [some sc, some (S.d s), some (rd a p e), some (rd a' p' e'), some (.int low), some (.int high), o6, some (.int pa), some (.int er), o9, o10, some w, some (.int k), o13, o14, none] = .nx [some sc, some (S.d s), some (rd a p e), some (rd a' p' e'), some (.int low), some (.int high), o6, some (.int pa), some (.int er), o9, o10, some w, some (.int k), o13, o14', none] := by
  obtain ⟨wf, w0, w1⟩ := hw
  have fr : frz (rd a' p' e') = true := rfl
  have : k = 0 ∨ k = 1 := by omega
  rcases this with rfl | rfl
  · have q := counts_bad [] [.int er, .int low, .int high] w (fun _ z => nomatch z) ⟨wf, w0⟩ rfl
    have r := refused_3 w (.int er) (.int low) (.int high) (rd a' p' e') wf rfl rfl rfl q
    have z0 : p_law_19b_0 [some sc, some (S.d s), some (rd a p e), some (rd a' p' e'), some (.int low), some (.int high), o6, some (.int pa), some (.int er), o9, o10, some w, some (.int 0), o13, o14, none] = .nx [some sc, some (S.d s), some (rd a p e), some (rd a' p' e'), some (.int low), some (.int high), o6, some (.int pa), some (.int er), o9, o10, some w, some (.int 0), o13, some (.tup [w, .int er, .int low, .int high]), none] := by
      have pn : fPlus (D.box false Kd.tup []) (D.box false Kd.tup [w]) = some (true, D.box false Kd.tup [w]) := plus_t [] [w] rfl (by simp [wf]) (by simp)
      simp [p_law_19b_0, wf, plus_t, pn, cutG, HT.sIx]
    generalize rd a' p' e' = r2 at *
    refine ⟨some (.tup [w, .int er, .int low, .int high]), ?_⟩
    simp [p_law_19b, z0, p_law_19b_1, wf, fr, r]
  · have q := counts_bad [.int pa] [.int low, .int high] w (fun d z => by cases z with | head => exact ok0 h1 | tail _ z => exact nomatch z) ⟨wf, w0⟩ rfl
    have r := refused_3 (.int pa) w (.int low) (.int high) (rd a' p' e') rfl wf rfl rfl q
    have z0 : p_law_19b_0 [some sc, some (S.d s), some (rd a p e), some (rd a' p' e'), some (.int low), some (.int high), o6, some (.int pa), some (.int er), o9, o10, some w, some (.int 1), o13, o14, none] = .nx [some sc, some (S.d s), some (rd a p e), some (rd a' p' e'), some (.int low), some (.int high), o6, some (.int pa), some (.int er), o9, o10, some w, some (.int 1), o13, some (.tup [.int pa, w, .int low, .int high]), none] := by
      simp [p_law_19b_0, wf, plus_t, cutG, HT.sIx]
    generalize rd a' p' e' = r2 at *
    refine ⟨some (.tup [.int pa, w, .int low, .int high]), ?_⟩
    simp [p_law_19b, z0, p_law_19b_1, wf, fr, r]
theorem q20 (h' : Rd a' p' e') : p_law_20 [some sc, some (S.d s), some (rd a p e), some (rd a' p' e'), o4, o5, o6, o7, o8, o9, o10, o11, o12, o13, o14, none] = .nx [some sc, some (S.d s), some (rd a p e), some (rd a' p' e'), o4, o5, o6, o7, o8, o9, o10, o11, o12, o13, o14, none] := by
  have c : Cr (.int 0) (.int p) (.int e) := cr1 _ _ _ rfl rfl rfl (by simp [count_eq])
  have e0 := refused_0 (.int 0) (.int p) (.int e) (rd a' p' e') rfl rfl rfl c
  obtain ⟨e1, _⟩ := refused_told (.tup [.int 0, .int p, .int e]) a' p' e' rfl (told_bad _ _ _ rfl rfl rfl c) h'
  have fr : frz (rd a' p' e') = true := rfl
  generalize rd a' p' e' = r2 at *
  simp [p_law_20, rd, plus_t, cutG, HT.sIx, fr, e0, e1]
theorem q21b (d : D) (f : frz d = true) (hd : F_check_told [d] = .ex "BadNumber" []) (h' : Rd a' p' e') : p_law_21b [some sc, some (S.d s), some (rd a p e), some (rd a' p' e'), o4, o5, o6, o7, o8, o9, o10, o11, o12, some d, o14, none] = .nx [some sc, some (S.d s), some (rd a p e), some (rd a' p' e'), o4, o5, o6, o7, o8, o9, o10, o11, o12, some d, o14, none] := by
  obtain ⟨e1, e2⟩ := refused_told d a' p' e' f hd h'
  have fr : frz (rd a' p' e') = true := rfl
  generalize rd a' p' e' = r2 at *
  simp [p_law_21b, f, fr, e1, e2]
end
theorem seq_split {m r : DS} {ρ ρ' : Dd.Env} (h : dSeq m r ρ = .nx ρ') : ∃ ρ1, m ρ = .nx ρ1 ∧ r ρ1 = .nx ρ' := by
  cases hm : m ρ with
  | nx ρ1 =>
    rw [v_seq, hm] at h
    exact ⟨ρ1, rfl, h⟩
  | _ =>
    rw [v_seq, hm] at h
    cases h
theorem q17 (sc : D) (s : S) (a p e a' p' e' : Int) (o4 o5 o6 o7 o8 o9 o10 o11 o12 o13 o14 : Option D) (k : Int) (hk : 0 ≤ k) (hk3 : k < 3) (h : Rd a p e) (h' : Rd a' p' e') : ∃ o11' o14', p_law_17 [some sc, some (S.d s), some (rd a p e), some (rd a' p' e'), o4, o5, o6, o7, o8, o9, some (.int k), o11, o12, o13, o14, none] = .nx [some sc, some (S.d s), some (rd a p e), some (rd a' p' e'), o4, o5, o6, o7, o8, o9, some (.int k), o11', o12, o13, o14', none] := by
  have go : ∀ (l : List D), (∀ w ∈ l, Wr w) → ∀ (o11 o14 : Option D), ∃ o11' o14', forLoop (tgN 11) p_law_17b l [some sc, some (S.d s), some (rd a p e), some (rd a' p' e'), o4, o5, o6, o7, o8, o9, some (.int k), o11, o12, o13, o14, none] = .nx [some sc, some (S.d s), some (rd a p e), some (rd a' p' e'), o4, o5, o6, o7, o8, o9, some (.int k), o11', o12, o13, o14', none] := by
    intro l
    induction l with
    | nil => intro _ o11 o14; exact ⟨o11, o14, rfl⟩
    | cons w l ih =>
      intro hl o11 o14
      obtain ⟨o14', z⟩ := q17b sc s a p e a' p' e' o4 o5 o6 o7 o8 o9 o12 o13 o14 k hk hk3 w (hl w List.mem_cons_self) h h'
      obtain ⟨x, y, w2⟩ := ih (fun v hv => hl v (List.mem_cons_of_mem _ hv)) (some w) o14'
      exact ⟨x, y, by rw [for_cons (t := tgN 11) (by rfl) z]; exact w2⟩
  obtain ⟨x, y, z⟩ := go [.int (-1), .bl true, .non, .str "2", .tup [.int 2, .int 1]] (fun w hw => by
    simp only [List.mem_cons, List.not_mem_nil, or_false] at hw
    rcases hw with rfl | rfl | rfl | rfl | rfl
    · exact wr_m1
    · exact wr_of _ rfl (is_int_b _)
    · exact wr_of _ rfl is_int_n
    · exact wr_of _ rfl (is_int_s _)
    · exact wr_of _ rfl (is_int_t _)) o11 o14
  exact ⟨x, y, by simp [p_law_17, z]⟩
theorem q19 (sc : D) (s : S) (a p e a' p' e' : Int) (o4 o5 o6 o7 o8 o9 o10 o11 o12 o13 o14 : Option D) (pa er low high k : Int) (h1 : 0 ≤ pa) (hk : 0 ≤ k) (hk2 : k < 2) : ∃ o11' o14', p_law_19 [some sc, some (S.d s), some (rd a p e), some (rd a' p' e'), some (.int low), some (.int high), o6, some (.int pa), some (.int er), o9, o10, o11, some (.int k), o13, o14, none] = .nx [some sc, some (S.d s), some (rd a p e), some (rd a' p' e'), some (.int low), some (.int high), o6, some (.int pa), some (.int er), o9, o10, o11', some (.int k), o13, o14', none] := by
  have go : ∀ (l : List D), (∀ w ∈ l, Wr w) → ∀ (o11 o14 : Option D), ∃ o11' o14', forLoop (tgN 11) p_law_19b l [some sc, some (S.d s), some (rd a p e), some (rd a' p' e'), some (.int low), some (.int high), o6, some (.int pa), some (.int er), o9, o10, o11, some (.int k), o13, o14, none] = .nx [some sc, some (S.d s), some (rd a p e), some (rd a' p' e'), some (.int low), some (.int high), o6, some (.int pa), some (.int er), o9, o10, o11', some (.int k), o13, o14', none] := by
    intro l
    induction l with
    | nil => intro _ o11 o14; exact ⟨o11, o14, rfl⟩
    | cons w l ih =>
      intro hl o11 o14
      obtain ⟨o14', z⟩ := q19b sc s a p e a' p' e' o6 o9 o10 o13 o14 pa er low high k h1 hk hk2 w (hl w List.mem_cons_self)
      obtain ⟨x, y, w2⟩ := ih (fun v hv => hl v (List.mem_cons_of_mem _ hv)) (some w) o14'
      exact ⟨x, y, by rw [for_cons (t := tgN 11) (by rfl) z]; exact w2⟩
  obtain ⟨x, y, z⟩ := go [.int (-1), .bl false, .non, .str "2"] (fun w hw => by
    simp only [List.mem_cons, List.not_mem_nil, or_false] at hw
    rcases hw with rfl | rfl | rfl | rfl
    · exact wr_m1
    · exact wr_of _ rfl (is_int_b _)
    · exact wr_of _ rfl is_int_n
    · exact wr_of _ rfl (is_int_s _)) o11 o14
  exact ⟨x, y, by simp [p_law_19, z]⟩
theorem told_lst (ds : List D) (h : frzL ds = true) : F_check_told [.fl ds] = .ex "BadNumber" [] := by
  simp [F_check_told, m_check_told, isi, h]
theorem told_two (x y : Int) : F_check_told [.tup [.int x, .int y]] = .ex "BadNumber" [] := by
  simp [F_check_told, m_check_told, isi, fNe, eqV']
theorem told_four (x y z w : Int) : F_check_told [.tup [.int x, .int y, .int z, .int w]] = .ex "BadNumber" [] := by
  simp [F_check_told, m_check_told, isi, fNe, eqV']
theorem told_non : F_check_told [.non] = .ex "BadNumber" [] := by
  simp [F_check_told, m_check_told, isi]
theorem q21 (sc : D) (s : S) (a p e a' p' e' : Int) (o4 o5 o6 o7 o8 o9 o10 o11 o12 o13 o14 : Option D) (h' : Rd a' p' e') : ∃ o13', p_law_21 [some sc, some (S.d s), some (rd a p e), some (rd a' p' e'), o4, o5, o6, o7, o8, o9, o10, o11, o12, o13, o14, none] = .nx [some sc, some (S.d s), some (rd a p e), some (rd a' p' e'), o4, o5, o6, o7, o8, o9, o10, o11, o12, o13', o14, none] := by
  have it : dItems (dTup (dCons (dFrE (bind1 fLstOf (dVar 2))) (dCons (dSl (dVar 2) dNo (dAt (dC (.int 2)))) (dCons (bind2 fPlus (dVar 2) (dTup (dCons (dC (.int 0)) dNil))) (dCons (dC .non) dNil))))) [some sc, some (S.d s), some (rd a p e), some (rd a' p' e'), o4, o5, o6, o7, o8, o9, o10, o11, o12, o13, o14, none] = .ok true [.fl [.int a, .int p, .int e], .tup [.int a, .int p], .tup [.int a, .int p, .int e, .int 0], .non] true [some sc, some (S.d s), some (rd a p e), some (rd a' p' e'), o4, o5, o6, o7, o8, o9, o10, o11, o12, o13, o14, none] := by
    simp [rd, dFrE, plus_t, cutG, HT.sIx]
  have g1 := q21b sc s a p e a' p' e' o4 o5 o6 o7 o8 o9 o10 o11 o12 o14 (.fl [.int a, .int p, .int e]) rfl (told_lst _ rfl) h'
  have g2 := q21b sc s a p e a' p' e' o4 o5 o6 o7 o8 o9 o10 o11 o12 o14 (.tup [.int a, .int p]) rfl (told_two _ _) h'
  have g3 := q21b sc s a p e a' p' e' o4 o5 o6 o7 o8 o9 o10 o11 o12 o14 (.tup [.int a, .int p, .int e, .int 0]) rfl (told_four _ _ _ _) h'
  have g4 := q21b sc s a p e a' p' e' o4 o5 o6 o7 o8 o9 o10 o11 o12 o14 .non rfl told_non h'
  refine ⟨some .non, ?_⟩
  rw [p_law_21, v_dFor, it]
  show forLoop (tgN 13) p_law_21b _ _ = _
  rw [for_cons (t := tgN 13) (by rfl) g1, for_cons (t := tgN 13) (by rfl) g2, for_cons (t := tgN 13) (by rfl) g3, for_cons (t := tgN 13) (by rfl) g4] <;> rfl
theorem law_true : ∀ ns : List Int, ns.length ≤ 63 → (∀ z ∈ ns, Builtin.Int.intBits z ≤ 1048576) → F_law [D.fl (ns.map D.int)] = .ok (.bl true) [] := by
  intro ns hl _
  obtain ⟨s0, st⟩ := start_eq ns hl
  have fs : frzL (ns.map D.int) = true := frzL_ints ns
  have p0 : p_law_0 [some (D.fl (ns.map D.int)), none, none, none, none, none, none, none, none, none, none, none, none, none, none, none] = .nx [some (D.fl (ns.map D.int)), some (S.d s0), none, none, none, none, none, none, none, none, none, none, none, none, none, none] := by
    simp [p_law_0, st, fs]
  generalize D.fl (ns.map D.int) = sc at *
  obtain ⟨a, p, e, s1, w1, hR⟩ := law_reading_eq s0
  have p1 : p_law_1 [some sc, some (S.d s0), none, none, none, none, none, none, none, none, none, none, none, none, none, none] = .nx [some sc, some (S.d s1), some (rd a p e), none, none, none, none, none, none, none, none, none, none, none, none, none] := by
    have f1 : frz (rd a p e) = true := rfl
    simp [p_law_1, w1]
  obtain ⟨a', p', e', s2, w2, hR'⟩ := law_other_eq s1 a p e hR
  have p2 : p_law_2 [some sc, some (S.d s1), some (rd a p e), none, none, none, none, none, none, none, none, none, none, none, none, none] = .nx [some sc, some (S.d s2), some (rd a p e), some (rd a' p' e'), none, none, none, none, none, none, none, none, none, none, none, none] := by
    have f1 : frz (rd a p e) = true := rfl
    have f2 : frz (rd a' p' e') = true := rfl
    generalize rd a p e = r1 at *
    generalize rd a' p' e' = r2 at *
    simp [p_law_2, w2, f1]
  have p3 := q3 sc s2 a p e a' p' e' none none none none none none none none none none none hR
  have p4 := q4 sc s2 a p e a' p' e' none none none none none none none none none none none hR'
  obtain ⟨o4, o5, z⟩ := q58 sc s2 a p e a' p' e' none none none none none none none none none none none hR hR'
  obtain ⟨_, p5, z⟩ := seq_split z
  obtain ⟨_, p6, z⟩ := seq_split z
  obtain ⟨_, p7, p8⟩ := seq_split z
  have p9 := q9 sc s2 a p e a' p' e' o4 o5 none none none none none none none none hR hR'
  generalize some (com (lo a p e) (hi a p e) (lo a' p' e') (hi a' p' e')) = o6 at *
  obtain ⟨pa, er, low, high, s3, o9, z, g1, g2, g3, g4⟩ := q1014 sc s2 a p e a' p' e' o4 o5 o6 none none none none none none none none
  obtain ⟨_, p10, z⟩ := seq_split z
  obtain ⟨_, p11, z⟩ := seq_split z
  obtain ⟨_, p12, z⟩ := seq_split z
  obtain ⟨_, p13, p14⟩ := seq_split z
  have p15 := q15 sc s3 a p e a' p' e' o6 o9 none none none none none pa er low high g1 g2 g3 g4
  have p16 : p_law_16 [some sc, some (S.d s3), some (rd a p e), some (rd a' p' e'), some (.int low), some (.int high), o6, some (.int pa), some (.int er), o9, none, none, none, none, none, none] = .nx [some sc, some (S.d (s3.next 3)), some (rd a p e), some (rd a' p' e'), some (.int low), some (.int high), o6, some (.int pa), some (.int er), o9, some (.int (s3.take 3)), none, none, none, none, none] := by
    simp [p_law_16, take_eq]
  have t1 := s3.take_nn (m := 3) (by decide)
  have t2 := s3.take_lt (m := 3) (by decide)
  generalize s3.take 3 = at_ at *
  generalize s3.next 3 = s4 at *
  obtain ⟨o11, o14, p17⟩ := q17 sc s4 a p e a' p' e' (some (.int low)) (some (.int high)) o6 (some (.int pa)) (some (.int er)) o9 none none none none none at_ t1 t2 hR hR'
  have p18 : p_law_18 [some sc, some (S.d s4), some (rd a p e), some (rd a' p' e'), some (.int low), some (.int high), o6, some (.int pa), some (.int er), o9, some (.int at_), o11, none, none, o14, none] = .nx [some sc, some (S.d (s4.next 2)), some (rd a p e), some (rd a' p' e'), some (.int low), some (.int high), o6, some (.int pa), some (.int er), o9, some (.int at_), o11, some (.int (s4.take 2)), none, o14, none] := by
    simp [p_law_18, take_eq]
  have t3 := s4.take_nn (m := 2) (by decide)
  have t4 := s4.take_lt (m := 2) (by decide)
  generalize s4.take 2 = sp at *
  generalize s4.next 2 = s5 at *
  obtain ⟨o11', o14', p19⟩ := q19 sc s5 a p e a' p' e' none none o6 none none o9 (some (.int at_)) o11 none none o14 pa er low high sp g1 t3 t4
  have p20 := q20 sc s5 a p e a' p' e' (some (.int low)) (some (.int high)) o6 (some (.int pa)) (some (.int er)) o9 (some (.int at_)) o11' (some (.int sp)) none o14' hR'
  obtain ⟨o13, p21⟩ := q21 sc s5 a p e a' p' e' (some (.int low)) (some (.int high)) o6 (some (.int pa)) (some (.int er)) o9 (some (.int at_)) o11' (some (.int sp)) none o14' hR'
  rw [F_law, m_law_eq]
  simp [p_law, p0, p1, p2, p3, p4, p5, p6, p7, p8, p9, p10, p11, p12, p13, p14, p15, p16, p17, p18, p19, p20, p21, p_law_22]
/-! the end -/
def fnL : List He.DefD := [mkD "_law_start" st__law_start, mkD "_law_take" st__law_take, mkD "_law_reading" st__law_reading, mkD "_law_bounds" st__law_bounds, mkD "_law_other" st__law_other, mkD "_law_alike" st__law_alike, mkD "is_int" st_is_int, mkD "is_count" st_is_count, mkD "check_counts" st_check_counts, mkD "check_reading" st_check_reading, mkD "lengths_of" st_lengths_of, mkD "length" st_length, mkD "scale_of" st_scale_of, mkD "_law_scales" st__law_scales, mkD "check_told" st_check_told, mkD "common_lengths" st_common_lengths, mkD "between" st_between, mkD "_law_refused" st__law_refused, mkD "law" st_law]
def faL : List He.Fa := [.glo "_law_start", .glo "_law_take", .glo "_law_reading", .glo "_law_bounds", .glo "_law_other", .glo "_law_alike", .glo "is_int", .glo "is_count", .glo "check_counts", .glo "check_reading", .glo "lengths_of", .glo "length", .glo "scale_of", .glo "_law_scales", .glo "check_told", .glo "common_lengths", .glo "between", .glo "_law_refused", .glo "law", .glo "BadNumber", .exc "BadNumber", .glo "MapError", .glo "BadPoint", .glo "BadCorners", .glo "BadShop", .exm "BadNumber" "BadNumber" true, .free "all", .free "bool", .free "int", .free "isinstance", .free "len", .free "list", .free "max", .free "min", .free "range", .free "str", .free "tuple", .int "MOST_SCALE" 99]
def loo0 : List Str := ["MapError", "BadShop", "BadPoint", "BadNumber", "BadCorners", "is_int", "is_count", "check_reading", "check_counts", "check_told", "lengths_of", "common_lengths", "MOST_SCALE", "length", "between", "scale_of", "_law_start", "_law_take", "_law_alike", "_law_bounds", "_law_reading", "_law_other", "_law_refused", "_law_scales"]
def looL : List Str := loo0
def chkL (K : PySem.W.Frag) : Bool := chkE K (He.ga K "BadNumber") (He.ga K "MapError") [He.ga K "BadPoint", He.ga K "BadCorners", He.ga K "BadShop"]
abbrev hkL : PySem.W.Hook := hookB 6 chkL faL fnL
def obL (s : PySem.W.SharedT) : AlB := obsBG 6 chkL faL fnL (HandSHeadRun.getT s)
abbrev rowL : PySem.W.OpenRow := PySem.Challenge.rw_sheetlines_k45_readings_and_refusals.row
theorem obL_eq (s : PySem.W.SharedT) : obL s = hkL.obs s.abs := obsBG_eq (HandSHeadRun.getT_eq s)
set_option maxHeartbeats 0 in
theorem runL (w : World) : HandSHeadRun.RunEq rowL (PySem.W.view rowL.prog [29]) hkL obL 4000 looL w := by
  intro os
  kernel_rfl
theorem factsL {P : Program} {w : World} {K : PySem.W.Frag} {h : Heap} {mg : Str → Option Value} {fa : Addr} (X : K.In h) (G : h.Ns mainGlobals mg) (hfa : mg "law" = some (.ref fa)) (ck : chkL K = true) (c : He.SaysD faL fnL K) :
    ∃ fd : FuncData, (∀ (s : Shared) (v : Value), BindsTo s fd ⟨[v], []⟩ [("script", v)]) ∧ ∀ base : Heap, K.In base → base.Ns mainGlobals mg → FnOk P w K mg base (L2.CX P w) 8 fa fd ["script"] (spHold K 63) := by
  obtain ⟨fd0, F0⟩ := got c 0 (x := "_law_start") (st := st__law_start) rfl
  obtain ⟨fd1, F1⟩ := got c 1 (x := "_law_take") (st := st__law_take) rfl
  obtain ⟨fd2, F2⟩ := got c 2 (x := "_law_reading") (st := st__law_reading) rfl
  obtain ⟨fd3, F3⟩ := got c 3 (x := "_law_bounds") (st := st__law_bounds) rfl
  obtain ⟨fd4, F4⟩ := got c 4 (x := "_law_other") (st := st__law_other) rfl
  obtain ⟨fd5, F5⟩ := got c 5 (x := "_law_alike") (st := st__law_alike) rfl
  obtain ⟨fd6, F6⟩ := got c 6 (x := "is_int") (st := st_is_int) rfl
  obtain ⟨fd7, F7⟩ := got c 7 (x := "is_count") (st := st_is_count) rfl
  obtain ⟨fd8, F8⟩ := got c 8 (x := "check_counts") (st := st_check_counts) rfl
  obtain ⟨fd9, F9⟩ := got c 9 (x := "check_reading") (st := st_check_reading) rfl
  obtain ⟨fd10, F10⟩ := got c 10 (x := "lengths_of") (st := st_lengths_of) rfl
  obtain ⟨fd11, F11⟩ := got c 11 (x := "length") (st := st_length) rfl
  obtain ⟨fd12, F12⟩ := got c 12 (x := "scale_of") (st := st_scale_of) rfl
  obtain ⟨fd13, F13⟩ := got c 13 (x := "_law_scales") (st := st__law_scales) rfl
  obtain ⟨fd14, F14⟩ := got c 14 (x := "check_told") (st := st_check_told) rfl
  obtain ⟨fd15, F15⟩ := got c 15 (x := "common_lengths") (st := st_common_lengths) rfl
  obtain ⟨fd16, F16⟩ := got c 16 (x := "between") (st := st_between) rfl
  obtain ⟨fd17, F17⟩ := got c 17 (x := "_law_refused") (st := st__law_refused) rfl
  obtain ⟨fd18, F18⟩ := got c 18 (x := "law") (st := st_law) rfl
  have e := hfa.symm.trans (He.glo_ok X G (c.fact 18 (f := .glo "law") rfl))
  cases e
  let a : Nat → Addr := fun j => He.ga K ((["_law_start", "_law_take", "_law_reading", "_law_bounds", "_law_other", "_law_alike", "is_int", "is_count", "check_counts", "check_reading", "lengths_of", "length", "scale_of", "_law_scales", "check_told", "common_lengths", "between", "_law_refused", "law", "BadNumber", "MapError", "BadPoint", "BadCorners", "BadShop"] : List Str).getD j "law")
  let fd : Nat → FuncData := fun j => ([fd0, fd1, fd2, fd3, fd4, fd5, fd6, fd7, fd8, fd9, fd10, fd11, fd12, fd13, fd14, fd15, fd16, fd17, fd18] : List FuncData).getD j fd0
  have T : Txt K mg a fd := {
    f__law_start := F0.fun,
    g__law_start := He.glo_ok X G (c.fact 0 (f := .glo "_law_start") rfl),
    b__law_start := F0.fun.binds (ps := ["script"]) fun _ _ _ _ _ _ us hl => match us, hl with | [_], _ => rfl,
    f__law_take := F1.fun,
    g__law_take := He.glo_ok X G (c.fact 1 (f := .glo "_law_take") rfl),
    b__law_take := F1.fun.binds (ps := ["state", "many"]) fun _ _ _ _ _ _ us hl => match us, hl with | [_, _], _ => rfl,
    f__law_reading := F2.fun,
    g__law_reading := He.glo_ok X G (c.fact 2 (f := .glo "_law_reading") rfl),
    b__law_reading := F2.fun.binds (ps := ["state"]) fun _ _ _ _ _ _ us hl => match us, hl with | [_], _ => rfl,
    f__law_bounds := F3.fun,
    g__law_bounds := He.glo_ok X G (c.fact 3 (f := .glo "_law_bounds") rfl),
    b__law_bounds := F3.fun.binds (ps := ["reading"]) fun _ _ _ _ _ _ us hl => match us, hl with | [_], _ => rfl,
    f__law_other := F4.fun,
    g__law_other := He.glo_ok X G (c.fact 4 (f := .glo "_law_other") rfl),
    b__law_other := F4.fun.binds (ps := ["state", "reading"]) fun _ _ _ _ _ _ us hl => match us, hl with | [_, _], _ => rfl,
    f__law_alike := F5.fun,
    g__law_alike := He.glo_ok X G (c.fact 5 (f := .glo "_law_alike") rfl),
    b__law_alike := F5.fun.binds (ps := ["told", "due"]) fun _ _ _ _ _ _ us hl => match us, hl with | [_, _], _ => rfl,
    f_is_int := F6.fun,
    g_is_int := He.glo_ok X G (c.fact 6 (f := .glo "is_int") rfl),
    b_is_int := F6.fun.binds (ps := ["value"]) fun _ _ _ _ _ _ us hl => match us, hl with | [_], _ => rfl,
    f_is_count := F7.fun,
    g_is_count := He.glo_ok X G (c.fact 7 (f := .glo "is_count") rfl),
    b_is_count := F7.fun.binds (ps := ["value", "least"]) fun _ _ _ _ _ _ us hl => match us, hl with | [_, _], _ => rfl,
    f_check_counts := F8.fun,
    g_check_counts := He.glo_ok X G (c.fact 8 (f := .glo "check_counts") rfl),
    b_check_counts := F8.fun.binds (ps := ["values"]) fun _ _ _ _ _ _ us hl => match us, hl with | [_], _ => rfl,
    f_check_reading := F9.fun,
    g_check_reading := He.glo_ok X G (c.fact 9 (f := .glo "check_reading") rfl),
    b_check_reading := F9.fun.binds (ps := ["scale", "parts", "error"]) fun _ _ _ _ _ _ us hl => match us, hl with | [_, _, _], _ => rfl,
    f_lengths_of := F10.fun,
    g_lengths_of := He.glo_ok X G (c.fact 10 (f := .glo "lengths_of") rfl),
    b_lengths_of := F10.fun.binds (ps := ["scale", "parts", "error"]) fun _ _ _ _ _ _ us hl => match us, hl with | [_, _, _], _ => rfl,
    f_length := F11.fun,
    g_length := He.glo_ok X G (c.fact 11 (f := .glo "length") rfl),
    b_length := F11.fun.binds (ps := ["scale", "parts", "error"]) fun _ _ _ _ _ _ us hl => match us, hl with | [_, _, _], _ => rfl,
    f_scale_of := F12.fun,
    g_scale_of := He.glo_ok X G (c.fact 12 (f := .glo "scale_of") rfl),
    b_scale_of := F12.fun.binds (ps := ["parts", "error", "least", "greatest"]) fun _ _ _ _ _ _ us hl => match us, hl with | [_, _, _, _], _ => rfl,
    f__law_scales := F13.fun,
    g__law_scales := He.glo_ok X G (c.fact 13 (f := .glo "_law_scales") rfl),
    b__law_scales := F13.fun.binds (ps := ["parts", "error", "low", "high"]) fun _ _ _ _ _ _ us hl => match us, hl with | [_, _, _, _], _ => rfl,
    f_check_told := F14.fun,
    g_check_told := He.glo_ok X G (c.fact 14 (f := .glo "check_told") rfl),
    b_check_told := F14.fun.binds (ps := ["reading"]) fun _ _ _ _ _ _ us hl => match us, hl with | [_], _ => rfl,
    f_common_lengths := F15.fun,
    g_common_lengths := He.glo_ok X G (c.fact 15 (f := .glo "common_lengths") rfl),
    b_common_lengths := F15.fun.binds (ps := ["one", "other"]) fun _ _ _ _ _ _ us hl => match us, hl with | [_, _], _ => rfl,
    f_between := F16.fun,
    g_between := He.glo_ok X G (c.fact 16 (f := .glo "between") rfl),
    b_between := F16.fun.binds (ps := ["one", "other"]) fun _ _ _ _ _ _ us hl => match us, hl with | [_, _], _ => rfl,
    f__law_refused := F17.fun,
    g__law_refused := He.glo_ok X G (c.fact 17 (f := .glo "_law_refused") rfl),
    b__law_refused := F17.fun.binds (ps := ["kind", "one", "other"]) fun _ _ _ _ _ _ us hl => match us, hl with | [_, _, _], _ => rfl,
    f_law := F18.fun,
    g_law := He.glo_ok X G (c.fact 18 (f := .glo "law") rfl),
    b_law := F18.fun.binds (ps := ["script"]) fun _ _ _ _ _ _ us hl => match us, hl with | [_], _ => rfl,
    e_BadNumber := exc_ga X G (c.fact 19 (f := .glo "BadNumber") rfl) (c.fact 20 (f := .exc "BadNumber") rfl),
    x_BadNumber := (He.exc_ok (c.fact 20 (f := .exc "BadNumber") rfl)).1,
    c_BadNumber := by
      have z : mg "BadNumber" = some (.ref (He.ga K "BadNumber")) := He.glo_ok X G (c.fact 19 (f := .glo "BadNumber") rfl)
      unfold gx
      simp only [z] <;> rfl,
    g_MapError := He.glo_ok X G (c.fact 21 (f := .glo "MapError") rfl),
    g_BadPoint := He.glo_ok X G (c.fact 22 (f := .glo "BadPoint") rfl),
    g_BadCorners := He.glo_ok X G (c.fact 23 (f := .glo "BadCorners") rfl),
    g_BadShop := He.glo_ok X G (c.fact 24 (f := .glo "BadShop") rfl),
    m_BadNumber := He.exm_ok (c.fact 25 (f := .exm "BadNumber" "BadNumber" true) rfl),
    q_BadNumber := chkE_ok ck,
    n_all := He.free_ok X G (c.fact 26 (f := .free "all") rfl),
    n_bool := He.free_ok X G (c.fact 27 (f := .free "bool") rfl),
    n_int := He.free_ok X G (c.fact 28 (f := .free "int") rfl),
    n_isinstance := He.free_ok X G (c.fact 29 (f := .free "isinstance") rfl),
    n_len := He.free_ok X G (c.fact 30 (f := .free "len") rfl),
    n_list := He.free_ok X G (c.fact 31 (f := .free "list") rfl),
    n_max := He.free_ok X G (c.fact 32 (f := .free "max") rfl),
    n_min := He.free_ok X G (c.fact 33 (f := .free "min") rfl),
    n_range := He.free_ok X G (c.fact 34 (f := .free "range") rfl),
    n_str := He.free_ok X G (c.fact 35 (f := .free "str") rfl),
    n_tuple := He.free_ok X G (c.fact 36 (f := .free "tuple") rfl),
    k_MOST_SCALE := He.int_ok X G (c.fact 37 (f := .int "MOST_SCALE" 99) rfl) }
  exact ⟨fd18, (fun s v => FunD.bindsA (ps := ["script"]) F18 (fun _ _ _ _ _ _ us hl => match us, hl with | [_], _ => rfl) s [v] rfl), fun base _ _ => law_ok law_true (ok_law T)⟩
end Lw
open PySem PySem.W PySem.Calls PyProof.Rows
theorem PySem.Challenge.cw_sheetlines_k45_readings_and_refusals_holds : PySem.Challenge.rw_sheetlines_k45_readings_and_refusals.Holds := by
  w_on; o_law
  refine HandSHeadRun.head_any (r := Lw.rowL) (q := view Lw.rowL.prog [29]) (H := Lw.hkL) (ob := Lw.obL) (M := 4000) (loose := Lw.looL) (d := HandSHeadRun.topDef Lw.rowL.prog 29) (kwd := []) Lw.obL_eq
    (by kernel_rfl) (fun s => by kernel_rfl) Lw.runL (by kernel_rfl) (by kernel_rfl) (by kernel_rfl) (by rfl) (by first | assumption | decide +kernel) (by decide +kernel) ⟨rfl, rfl, rfl, rfl, rfl, by decide +kernel⟩ ?hw ?hc
  case hw => w_witness2
  case hc =>
    refine Dd.walk_law (l := PySem.Challenge.rw_sheetlines_k45_readings_and_refusals) (m := 63) (lv := 8) rfl (by decide) (by kernel_rfl) ⟨rfl, by decide, by decide⟩ ?F
    intro w mg fa h Y G z0
    obtain ⟨K, KX, ck, c⟩ := Y
    have z : mg ("law" : PySem.Str) = some (.ref fa) := by
      rw [← show (HandSHeadRun.topDef Lw.rowL.prog 29).name = ("law" : PySem.Str) by kernel_rfl]
      exact z0
    obtain ⟨fd, hb, hF⟩ := Lw.factsL (P := (PySem.Challenge.rw_sheetlines_k45_readings_and_refusals).prog) (w := w) KX G z ck c
    exact ⟨K, fd, KX, hb, hF⟩
