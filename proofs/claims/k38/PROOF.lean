import PyProof.Rows.All
import Wide.All
import OpenK.AllK
import Wide.FinOn
import HandS.AnyAll
import HandS.ForExc
import HandS.Comp
import HandS.IsInst
import HandS.TupAny
import HandS.Deep
import HandS.WordsList
import HandS.WordsExc
import HandS.CallSlots
import HandS.Wide
import HandS.TupMul
import HandS.Head0
import HandS.Head1
import HandS.Head2
import HandS.HeadEnd
import HandS.HeadHook1
import HandS.HeadHook2
import HandS.EndBits
import HandS.ExcIs
import KE.KIsAll
import PyProof.GenQ
import HandS.Base
import HandS.GenOver
import HandS.GenBody
import PyProof.CollectWalk
import PyProof.TupleOfGen
import KE.GoesEnum
import HandS.Iter
import HandS.Strs
import HandS.Style
import HandS.SortInts
import HandS.Conv
import HandS.EndTab
import KE.KNestM
import KE.SortData
import HandS.Dict
import KE.KDictSum
import HandS.TryMany
import HandS.Rev
import PySem.Challenge.RW_sheetlines_k38_columns_behind_deeds
set_option Elab.async false
set_option linter.all false
set_option maxRecDepth 100000
set_option maxHeartbeats 8000000
/-! Tables of code objects: what hangs on a table is known, down to any depth. -/
namespace TBx
open PySem PySem.Spec PyProof.Rows L2
/-- c's code object has its table at P -/
abbrev cdO (ob : Obj) (c P : Addr) : HO := .frz ob (.ext fun h => PySem.W.CodeHd h c P)
def CdT (H : Hp) (c P : Addr) : Prop := ∃ ob, H c = some (cdO ob c P)
def TbS (H : Hp) (S : Addr → Prop) : Prop := ∀ Q, S Q → ∃ ps : Array Value, H Q = some (.tbl ps) ∧ TriplesOk ps.toList ∧ ∀ pos cv, codeAmong pos ps.toList = some cv → ∃ c Q', cv = .ref c ∧ CdT H c Q' ∧ S Q'
def Tb (H : Hp) (P : Addr) : Prop := ∃ S : Addr → Prop, S P ∧ TbS H S
theorem Tb.g {H : Hp} {P : Addr} (t : Tb H P) : GxR.TabG H P := by
  obtain ⟨S, h, k⟩ := t
  obtain ⟨ps, e, t, _⟩ := k P h
  exact ⟨ps, e, t⟩
theorem Tb.ps {H : Hp} {P : Addr} (t : Tb H P) : ∃ ps : Array Value, H P = some (.tbl ps) := let ⟨ps, e, _⟩ := t.g; ⟨ps, e⟩
theorem Tb.keep {H H' : Hp} {P : Addr} (t : Tb H P) (k : ∀ b o, H b = some o → ((∃ ps, o = .tbl ps) ∨ ∃ b u, o = .frz b u) → H' b = some o) : Tb H' P := by
  obtain ⟨S, h, s⟩ := t
  refine ⟨S, h, fun Q q => ?_⟩
  obtain ⟨ps, e, t, r⟩ := s Q q
  refine ⟨ps, k Q _ e (.inl ⟨_, rfl⟩), t, fun pos cv z => ?_⟩
  obtain ⟨c, Q', e1, e2, e3⟩ := r pos cv z
  exact ⟨c, Q', e1, let ⟨ob, e2⟩ := e2; ⟨ob, k c _ e2 (.inr ⟨_, _, rfl⟩)⟩, e3⟩
theorem Tb.upd {H : Hp} {P a : Addr} {o u : HO} (t : Tb H P) (e : H a = some u) (nt : ∀ ps, u ≠ .tbl ps) (nx : ∀ b v, u ≠ .frz b v) : Tb (L2.upd H a o) P := t.keep fun b w hb hw => by
  rw [upd_ne]
  · exact hb
  · rintro rfl
    rw [e] at hb
    cases hb
    rcases hw with ⟨ps, z⟩ | ⟨q, v, z⟩
    · exact nt ps z
    · exact nx q v z
theorem Tb.updN {H : Hp} {P a : Addr} {o : HO} (t : Tb H P) (nt : ∀ ps, H a ≠ some (.tbl ps)) (nx : ∀ b v, H a ≠ some (.frz b v)) : Tb (L2.upd H a o) P := t.keep fun b w hb hw => by
  rw [upd_ne]
  · exact hb
  · rintro rfl
    rcases hw with ⟨ps, rfl⟩ | ⟨q, v, rfl⟩
    · exact absurd hb (nt ps)
    · exact absurd hb (nx q v)
theorem Tb.new {H : Hp} {P a : Addr} {o : HO} (t : Tb H P) (e : H a = none) : Tb (L2.upd H a o) P := t.keep fun b w hb _ => by
  rw [upd_ne]
  · exact hb
  · rintro rfl
    rw [e] at hb
    cases hb
theorem Tb.empty {H : Hp} {P : Addr} (e : H P = some (.tbl #[])) : Tb H P := ⟨fun Q => Q = P, rfl, fun Q q => by
  subst q
  exact ⟨#[], e, trivial, fun pos cv z => by simp [codeAmong] at z⟩⟩
theorem Tb.code {H : Hp} {P : Addr} {ps : Array Value} {pos : Pos} {cv : Value} (t : Tb H P) (e : H P = some (.tbl ps)) (h : codeAmong pos ps.toList = some cv) : ∃ c Q, cv = .ref c ∧ CdT H c Q ∧ Tb H Q := by
  obtain ⟨S, hP, k⟩ := t
  obtain ⟨ps2, e2, _, r⟩ := k P hP
  rw [e] at e2
  cases e2
  obtain ⟨c, Q, e1, e3, e4⟩ := r pos cv h
  exact ⟨c, Q, e1, e3, S, e4, k⟩
theorem among_snoc {pos p2 : Pos} {c cv : Value} (l : List Value) (h : TriplesOk l) (e : codeAmong p2 (l ++ [rawInt pos.line, rawInt pos.col, c]) = some cv) : codeAmong p2 l = some cv ∨ cv = c := by
  fun_induction TriplesOk l with
  | case1 =>
    right
    simp only [List.nil_append, codeAmong, rawInt] at e
    split at e
    · exact (Option.some.inj e).symm
    · simp [codeAmong] at e
  | case2 a b c1 d c2 rest ih =>
    simp only [List.cons_append, codeAmong] at e ⊢
    split at e
    · rename_i q
      rw [if_pos q]
      exact .inl e
    · rename_i q
      rw [if_neg q]
      exact ih h e
  | case3 => exact h.elim
/-- a table has grown by a new code object with an empty table -/
theorem Tb.grow {H : Hp} {P Q c2 P2 : Addr} {ps : Array Value} {pos : Pos} {ob : Obj} (t : Tb H Q) (tP : Tb H P) (e : H P = some (.tbl ps)) (hc : H c2 = none) (hP2 : H P2 = none) (ne : c2 ≠ P2) :
    Tb (L2.upd (L2.upd (L2.upd H c2 (cdO ob c2 P2)) P2 (.tbl #[])) P (.tbl (ps ++ #[rawInt pos.line, rawInt pos.col, .ref c2]))) Q := by
  have nP : c2 ≠ P := fun z => by rw [z, e] at hc; cases hc
  have nP2 : P2 ≠ P := fun z => by rw [z, e] at hP2; cases hP2
  have at_ : ∀ b o, b ≠ P → H b = some o → (L2.upd (L2.upd (L2.upd H c2 (cdO ob c2 P2)) P2 (.tbl #[])) P (.tbl (ps ++ #[rawInt pos.line, rawInt pos.col, .ref c2]))) b = some o := fun b o n h => by
    rw [upd_ne n, upd_ne, upd_ne]
    · exact h
    · rintro rfl; rw [hc] at h; cases h
    · rintro rfl; rw [hP2] at h; cases h
  obtain ⟨S, hS, k⟩ := t
  obtain ⟨T, hT, kT⟩ := tP
  refine ⟨fun R => S R ∨ T R ∨ R = P2, .inl hS, fun R hR => ?_⟩
  have old : ∀ R, (∃ ps : Array Value, H R = some (.tbl ps) ∧ TriplesOk ps.toList ∧ ∀ pos cv, codeAmong pos ps.toList = some cv → ∃ c Q', cv = .ref c ∧ CdT H c Q' ∧ (S Q' ∨ T Q' ∨ Q' = P2)) →
      ∃ qs : Array Value, (L2.upd (L2.upd (L2.upd H c2 (cdO ob c2 P2)) P2 (.tbl #[])) P (.tbl (ps ++ #[rawInt pos.line, rawInt pos.col, .ref c2]))) R = some (.tbl qs) ∧ TriplesOk qs.toList ∧ ∀ p2 cv, codeAmong p2 qs.toList = some cv → ∃ c Q', cv = .ref c ∧ CdT (L2.upd (L2.upd (L2.upd H c2 (cdO ob c2 P2)) P2 (.tbl #[])) P (.tbl (ps ++ #[rawInt pos.line, rawInt pos.col, .ref c2]))) c Q' ∧ (S Q' ∨ T Q' ∨ Q' = P2) := fun R h => by
    obtain ⟨qs, e1, t1, r1⟩ := h
    have keepC : ∀ c Q', CdT H c Q' → CdT (L2.upd (L2.upd (L2.upd H c2 (cdO ob c2 P2)) P2 (.tbl #[])) P (.tbl (ps ++ #[rawInt pos.line, rawInt pos.col, .ref c2]))) c Q' := fun c Q' ⟨o, q⟩ => ⟨o, at_ c _ (fun z => by rw [z, e] at q; cases q) q⟩
    by_cases x : R = P
    · subst x
      rw [e] at e1
      cases e1
      refine ⟨_, upd_same, ?_, fun p2 cv z => ?_⟩
      · rw [show (ps ++ #[rawInt pos.line, rawInt pos.col, Value.ref c2]).toList = ps.toList ++ [rawInt pos.line, rawInt pos.col, .ref c2] by simp]
        exact TriplesOk_snoc _ _ _ _ t1
      · rw [show (ps ++ #[rawInt pos.line, rawInt pos.col, Value.ref c2]).toList = ps.toList ++ [rawInt pos.line, rawInt pos.col, .ref c2] by simp] at z
        rcases among_snoc _ t1 z with z | z
        · obtain ⟨c, Q', q1, q2, q3⟩ := r1 p2 cv z
          exact ⟨c, Q', q1, keepC c Q' q2, q3⟩
        · subst z
          refine ⟨c2, P2, rfl, ⟨ob, ?_⟩, .inr (.inr rfl)⟩
          rw [upd_ne nP, upd_ne ne, upd_same]
    · refine ⟨qs, at_ R _ x e1, t1, fun p2 cv z => ?_⟩
      obtain ⟨c, Q', q1, q2, q3⟩ := r1 p2 cv z
      exact ⟨c, Q', q1, keepC c Q' q2, q3⟩
  rcases hR with hR | hR | hR
  · obtain ⟨qs, e1, t1, r1⟩ := k R hR
    exact old R ⟨qs, e1, t1, fun p cv z => let ⟨c, Q', q1, q2, q3⟩ := r1 p cv z; ⟨c, Q', q1, q2, .inl q3⟩⟩
  · obtain ⟨qs, e1, t1, r1⟩ := kT R hR
    exact old R ⟨qs, e1, t1, fun p cv z => let ⟨c, Q', q1, q2, q3⟩ := r1 p cv z; ⟨c, Q', q1, q2, .inr (.inl q3)⟩⟩
  · subst hR
    refine ⟨#[], ?_, trivial, fun p cv z => by simp [codeAmong] at z⟩
    rw [upd_ne nP2, upd_same]
/-- all stands but tables, which may have grown; code objects may have come -/
structure Grw (H H' : Hp) : Prop where
  fr : ∀ a o, H a = some o → (∀ ps, o ≠ .tbl ps) → H' a = some o
  tg : ∀ P, Tb H P → Tb H' P
  dm : ∀ a, H a ≠ none → H' a ≠ none
  nt : ∀ q xs, H' q = some (.tup xs) → H q = some (.tup xs)
theorem Grw.refl (H : Hp) : Grw H H := ⟨fun _ _ h _ => h, fun _ t => t, fun _ h => h, fun _ _ h => h⟩
theorem Grw.grow {H : Hp} {P c2 P2 : Addr} {ps : Array Value} {pos : Pos} {ob : Obj} (tP : Tb H P) (e : H P = some (.tbl ps)) (hc : H c2 = none) (hP2 : H P2 = none) (ne : c2 ≠ P2) :
    Grw H (L2.upd (L2.upd (L2.upd H c2 (cdO ob c2 P2)) P2 (.tbl #[])) P (.tbl (ps ++ #[rawInt pos.line, rawInt pos.col, .ref c2]))) := by
  have at_ : ∀ b o, b ≠ P → H b = some o → (L2.upd (L2.upd (L2.upd H c2 (cdO ob c2 P2)) P2 (.tbl #[])) P (.tbl (ps ++ #[rawInt pos.line, rawInt pos.col, .ref c2]))) b = some o := fun b o n h => by
    rw [upd_ne n, upd_ne, upd_ne]
    · exact h
    · rintro rfl; rw [hc] at h; cases h
    · rintro rfl; rw [hP2] at h; cases h
  refine ⟨fun a o h n => at_ a o (fun z => ?_) h, fun Q t => t.grow tP e hc hP2 ne, fun a h => ?_, fun q xs h => ?_⟩
  · rw [z, e] at h
    exact n ps (Option.some.inj h).symm
  · by_cases x : a = P
    · rw [x, upd_same]; exact Option.some_ne_none _
    · cases q : H a with
      | none => exact absurd q h
      | some o => rw [at_ a o x q]; exact Option.some_ne_none _
  · by_cases x : q = P
    · rw [x, upd_same] at h; cases h
    · rw [upd_ne x] at h
      by_cases y : q = P2
      · rw [y, upd_same] at h; cases h
      · rw [upd_ne y] at h
        by_cases z : q = c2
        · rw [z, upd_same] at h; cases h
        · rw [upd_ne z] at h; exact h
end TBx
/-! Data: values without the heap, what stands for them, what a step may change. -/
namespace Dd
open PySem L2

/-- containers -/
inductive Kd where
  | tup | tpl | tps | lst | dic (ks : List Key) | dit (ks : List (List Key)) | dkl (ks : List Key) | dil (ks : List (List Key)) | obj (c : Str) (ns : List Str)
/-- data; a box is owned (by the one slot that holds it) or frozen -/
inductive D where
  | non | bl (b : Bool) | int (i : Int) | str (s : Str) | box (own : Bool) (k : Kd) (ds : List D)
abbrev D.tup (ds : List D) : D := .box false .tup ds
abbrev D.fl (ds : List D) : D := .box false .lst ds
abbrev D.ol (ds : List D) : D := .box true .lst ds

structure Gx where
  K : PySem.W.Frag
  cn : Str → Option Addr
  tb : List Addr

def Holds (G : Gx) (Z : Hp) (a : Addr) : Kd → List V → Prop
  | .tup, vs => SqT G.K Z a vs
  | .tpl, vs => ∃ o : Obj, Z a = some (.frz o (.tup vs)) ∧ o.cls = .type "tuple" ∧ o.dict = none
  | .tps, vs => Z a = some (.tup vs)
  | .lst, vs => SqL G.K Z a vs
  | .dkl ks, vs => ks.length = vs.length ∧ ∃ o : Obj, Z a = some (.frz o (.dK (ks.zip vs)))
  | .dil ks, vs => ks.length = vs.length ∧ ∃ o : Obj, Z a = some (.frz o (.dT (ks.zip vs)))
  | .dic ks, vs => ks.length = vs.length ∧ Rd Z a (.dK (ks.zip vs))
  | .dit ks, vs => ks.length = vs.length ∧ Rd Z a (.dT (ks.zip vs))
  | .obj c ns, vs => ns.length = vs.length ∧ ∃ C dx, G.cn c = some C ∧ Rd Z a (.ins C dx (ns.zip vs))
def HoIs (G : Gx) : Kd → List V → HO → Prop
  | .tup, _, _ => False
  | .tpl, _, _ => False
  | .tps, _, _ => False
  | .dkl _, _, _ => False
  | .dil _, _, _ => False
  | .lst, vs, o => o = .lst vs
  | .dic ks, vs, o => ks.length = vs.length ∧ o = .dK (ks.zip vs)
  | .dit ks, vs, o => ks.length = vs.length ∧ o = .dT (ks.zip vs)
  | .obj c ns, vs, o => ns.length = vs.length ∧ ∃ C dx, G.cn c = some C ∧ o = .ins C dx (ns.zip vs)

mutual
def Rep (G : Gx) (Z H : Hp) : D → V → List Addr → Prop
  | .non, v, F => v = .non ∧ F = []
  | .bl b, v, F => v = .bl b ∧ F = []
  | .int i, v, F => v = .int i ∧ F = []
  | .str s, v, F => v = .str s ∧ F = []
  | .box own k ds, v, F => ∃ a vs F', v = .ref a ∧ RepL G Z H ds vs F' ∧
      (own = false → F = F' ∧ Holds G Z a k vs ∧ (k = .tup ∨ F' = [])) ∧ (own = true → F = a :: F' ∧ ∃ o, H a = some o ∧ HoIs G k vs o)
def RepL (G : Gx) (Z H : Hp) : List D → List V → List Addr → Prop
  | [], vs, F => vs = [] ∧ F = []
  | d :: ds, vs, F => ∃ v vs' F1 F2, vs = v :: vs' ∧ F = F1 ++ F2 ∧ Rep G Z H d v F1 ∧ RepL G Z H ds vs' F2
end
mutual
/-- no owned part -/
def frz : D → Bool
  | .box own _ ds => !own && frzL ds
  | _ => true
def frzL : List D → Bool
  | [] => true
  | d :: ds => frz d && frzL ds
end
mutual
def fz : D → D
  | .box _ k ds => .box false k (fzL ds)
  | d => d
def fzL : List D → List D
  | [] => []
  | d :: ds => fz d :: fzL ds
end

def Ex (H H' : Hp) : Prop := ∀ a o, H a = some o → H' a = some o
theorem Ex.refl (H : Hp) : Ex H H := fun _ _ h => h
theorem Ex.trans {H H1 H2 : Hp} (a : Ex H H1) (b : Ex H1 H2) : Ex H H2 := fun x o h => b x o (a x o h)
theorem Ex.new {H : Hp} {p : Addr} {o : HO} (h : H p = none) : Ex H (upd H p o) := fun a u e => by
  rw [upd_ne (ne_of_none e h)]
  exact e
theorem ex_rd {H H' : Hp} {a : Addr} {u : HO} (e : Ex H H') (h : Rd H a u) : Rd H' a u := by
  rcases h with h | ⟨o, h⟩
  · exact Or.inl (e a _ h)
  · exact Or.inr ⟨o, e a _ h⟩
theorem ex_l {K : PySem.W.Frag} {H H' : Hp} {a : Addr} {xs : List V} (e : Ex H H') (h : SqL K H a xs) : SqL K H' a xs := by
  rcases h with h | h
  · exact Or.inl (ex_rd e h)
  · exact Or.inr h
theorem ex_t {K : PySem.W.Frag} {H H' : Hp} {a : Addr} {xs : List V} (e : Ex H H') (h : SqT K H a xs) : SqT K H' a xs := by
  rcases h with h | h
  · exact Or.inl (ex_rd e h)
  · exact Or.inr h
theorem Holds.ex {G : Gx} {Z Z' : Hp} {a : Addr} {k : Kd} {vs : List V} (e : Ex Z Z') (h : Holds G Z a k vs) : Holds G Z' a k vs := by
  cases k with
  | tup => exact ex_t e h
  | tpl => exact let ⟨o, h1, h2⟩ := h; ⟨o, e a _ h1, h2⟩
  | tps => exact e a _ h
  | dkl ks => exact ⟨h.1, let ⟨o, q⟩ := h.2; ⟨o, e a _ q⟩⟩
  | dil ks => exact ⟨h.1, let ⟨o, q⟩ := h.2; ⟨o, e a _ q⟩⟩
  | lst => exact ex_l e h
  | dic ks => exact ⟨h.1, ex_rd e h.2⟩
  | dit ks => exact ⟨h.1, ex_rd e h.2⟩
  | obj c ns => exact ⟨h.1, let ⟨C, dx, e1, e2⟩ := h.2; ⟨C, dx, e1, ex_rd e e2⟩⟩
theorem HoIs.holds {G : Gx} {Z : Hp} {a : Addr} {k : Kd} {vs : List V} {o : HO} (h : HoIs G k vs o) (e : Z a = some o) : Holds G Z a k vs := by
  cases k with
  | tup => exact h.elim
  | tpl => exact h.elim
  | tps => exact h.elim
  | dkl ks => exact h.elim
  | dil ks => exact h.elim
  | lst => obtain rfl : o = .lst vs := h; exact .inl (.inl e)
  | dic ks => obtain ⟨h1, rfl⟩ := h; exact ⟨h1, .inl e⟩
  | dit ks => obtain ⟨h1, rfl⟩ := h; exact ⟨h1, .inl e⟩
  | obj c ns => obtain ⟨h1, C, dx, h2, rfl⟩ := h; exact ⟨h1, C, dx, h2, .inl e⟩

section
variable {G : Gx} {Z Z' H H' : Hp}
mutual
theorem Rep.mono (eZ : Ex Z Z') : ∀ {d : D} {v : V} {F : List Addr}, Rep G Z H d v F → (∀ a ∈ F, ∀ o, H a = some o → (∀ ps, o ≠ .tbl ps) → H' a = some o) → Rep G Z' H' d v F
  | .non, _, _, h, _ => h
  | .bl _, _, _, h, _ => h
  | .int _, _, _, h, _ => h
  | .str _, _, _, h, _ => h
  | .box own k ds, v, F, h, e => by
    obtain ⟨a, vs, F', hv, hl, h1, h2⟩ := h
    refine ⟨a, vs, F', hv, RepL.mono eZ hl fun b hb o ho => e b ?_ o ho, fun q => ?_, fun q => ?_⟩
    · cases own with
      | false => rw [(h1 rfl).1]; exact hb
      | true => rw [(h2 rfl).1]; exact List.mem_cons_of_mem _ hb
    · obtain ⟨p1, p2, p3⟩ := h1 q
      exact ⟨p1, p2.ex eZ, p3⟩
    · obtain ⟨p1, o, p2, p3⟩ := h2 q
      exact ⟨p1, o, e a (by rw [p1]; exact List.mem_cons_self) o p2 (fun ps z => by subst z; cases k <;> simp [HoIs] at p3), p3⟩
theorem RepL.mono (eZ : Ex Z Z') : ∀ {ds : List D} {vs : List V} {F : List Addr}, RepL G Z H ds vs F → (∀ a ∈ F, ∀ o, H a = some o → (∀ ps, o ≠ .tbl ps) → H' a = some o) → RepL G Z' H' ds vs F
  | [], _, _, h, _ => h
  | d :: ds, vs, F, h, e => by
    obtain ⟨v, vs', F1, F2, e1, e2, h1, h2⟩ := h
    exact ⟨v, vs', F1, F2, e1, e2, Rep.mono eZ h1 fun a ha => e a (by rw [e2]; exact List.mem_append_left _ ha), RepL.mono eZ h2 fun a ha => e a (by rw [e2]; exact List.mem_append_right _ ha)⟩
end
mutual
theorem Rep.dom : ∀ {d : D} {v : V} {F : List Addr}, Rep G Z H d v F → ∀ a ∈ F, ∃ o, H a = some o ∧ (∀ ps, o ≠ .tbl ps) ∧ (∀ xs, o ≠ .tup xs) ∧ ∀ b u, o ≠ .frz b u
  | .non, _, _, h, _, ha => by rw [h.2] at ha; cases ha
  | .bl _, _, _, h, _, ha => by rw [h.2] at ha; cases ha
  | .int _, _, _, h, _, ha => by rw [h.2] at ha; cases ha
  | .str _, _, _, h, _, ha => by rw [h.2] at ha; cases ha
  | .box own k ds, v, F, h, b, hb => by
    obtain ⟨a, vs, F', hv, hl, h1, h2⟩ := h
    cases own with
    | false => rw [(h1 rfl).1] at hb; exact RepL.dom hl b hb
    | true =>
      obtain ⟨e, o, ho, hk⟩ := h2 rfl
      rw [e] at hb
      rcases List.mem_cons.mp hb with rfl | hb
      · refine ⟨o, ho, fun xs q => ?_, fun xs q => ?_, fun b u q => ?_⟩ <;> subst q <;> cases k <;> simp [HoIs] at hk
      · exact RepL.dom hl b hb
theorem RepL.dom : ∀ {ds : List D} {vs : List V} {F : List Addr}, RepL G Z H ds vs F → ∀ a ∈ F, ∃ o, H a = some o ∧ (∀ ps, o ≠ .tbl ps) ∧ (∀ xs, o ≠ .tup xs) ∧ ∀ b u, o ≠ .frz b u
  | [], _, _, h, _, ha => by rw [h.2] at ha; cases ha
  | d :: ds, vs, F, h, a, ha => by
    obtain ⟨v, vs', F1, F2, e1, e2, h1, h2⟩ := h
    rw [e2] at ha
    rcases List.mem_append.mp ha with ha | ha
    · exact Rep.dom h1 a ha
    · exact RepL.dom h2 a ha
end
mutual
theorem Rep.frz_nil : ∀ {d : D} {v : V} {F : List Addr}, Rep G Z H d v F → frz d = true → F = []
  | .non, _, _, h, _ => h.2
  | .bl _, _, _, h, _ => h.2
  | .int _, _, _, h, _ => h.2
  | .str _, _, _, h, _ => h.2
  | .box own k ds, v, F, h, e => by
    obtain ⟨a, vs, F', hv, hl, h1, h2⟩ := h
    cases own with
    | false => rw [(h1 rfl).1]; exact RepL.frz_nil hl (by simpa [frz] using e)
    | true => simp [frz] at e
theorem RepL.frz_nil : ∀ {ds : List D} {vs : List V} {F : List Addr}, RepL G Z H ds vs F → frzL ds = true → F = []
  | [], _, _, h, _ => h.2
  | d :: ds, vs, F, h, e => by
    obtain ⟨v, vs', F1, F2, e1, e2, h1, h2⟩ := h
    simp only [frzL, Bool.and_eq_true] at e
    rw [e2, Rep.frz_nil h1 e.1, RepL.frz_nil h2 e.2]; rfl
end
mutual
/-- all that d owns is frozen: it stands in Z' -/
theorem Rep.freeze (eZ : Ex Z Z') : ∀ {d : D} {v : V} {F : List Addr}, Rep G Z H d v F → (∀ a ∈ F, ∀ o, H a = some o → Z' a = some o) → Rep G Z' H' (fz d) v []
  | .non, _, _, h, _ => ⟨h.1, rfl⟩
  | .bl _, _, _, h, _ => ⟨h.1, rfl⟩
  | .int _, _, _, h, _ => ⟨h.1, rfl⟩
  | .str _, _, _, h, _ => ⟨h.1, rfl⟩
  | .box own k ds, v, F, h, e => by
    obtain ⟨a, vs, F', hv, hl, h1, h2⟩ := h
    refine ⟨a, vs, [], hv, RepL.freeze eZ hl fun b hb o ho => e b ?_ o ho, fun _ => ⟨rfl, ?_, .inr rfl⟩, fun q => nomatch q⟩
    · cases own with
      | false => rw [(h1 rfl).1]; exact hb
      | true => rw [(h2 rfl).1]; exact List.mem_cons_of_mem _ hb
    · cases own with
      | false => exact (h1 rfl).2.1.ex eZ
      | true =>
        obtain ⟨p1, o, p2, p3⟩ := h2 rfl
        exact p3.holds (e a (by rw [p1]; exact List.mem_cons_self) o p2)
theorem RepL.freeze (eZ : Ex Z Z') : ∀ {ds : List D} {vs : List V} {F : List Addr}, RepL G Z H ds vs F → (∀ a ∈ F, ∀ o, H a = some o → Z' a = some o) → RepL G Z' H' (fzL ds) vs []
  | [], _, _, h, _ => ⟨h.1, rfl⟩
  | d :: ds, vs, F, h, e => by
    obtain ⟨v, vs', F1, F2, e1, e2, h1, h2⟩ := h
    exact ⟨v, vs', [], [], e1, rfl, Rep.freeze eZ h1 fun a ha => e a (by rw [e2]; exact List.mem_append_left _ ha), RepL.freeze eZ h2 fun a ha => e a (by rw [e2]; exact List.mem_append_right _ ha)⟩
end
theorem RepL.length : ∀ {ds : List D} {vs : List V} {F : List Addr}, RepL G Z H ds vs F → ds.length = vs.length
  | [], _, _, h => by rw [h.1]; rfl
  | d :: ds, vs, F, h => by
    obtain ⟨v, vs', F1, F2, e1, e2, h1, h2⟩ := h
    rw [e1, List.length_cons, List.length_cons, RepL.length h2]
theorem RepL.append : ∀ {ds es : List D} {vs ws : List V} {F F' : List Addr}, RepL G Z H ds vs F → RepL G Z H es ws F' → RepL G Z H (ds ++ es) (vs ++ ws) (F ++ F')
  | [], _, _, _, _, _, h, k => by rw [h.1, h.2]; exact k
  | d :: ds, es, vs, ws, F, F', h, k => by
    obtain ⟨v, vs', F1, F2, e1, e2, h1, h2⟩ := h
    exact ⟨v, vs' ++ ws, F1, F2 ++ F', by rw [e1]; rfl, by rw [e2, List.append_assoc], h1, RepL.append h2 k⟩
theorem RepL.get : ∀ {ds : List D} {vs : List V} {F : List Addr} {i : Nat} {d : D}, RepL G Z H ds vs F → ds[i]? = some d → ∃ v A F1 B, vs[i]? = some v ∧ F = A ++ F1 ++ B ∧ Rep G Z H d v F1
  | [], _, _, _, _, _, e => by simp at e
  | c :: ds, vs, F, 0, d, h, e => by
    obtain ⟨v, vs', F1, F2, e1, e2, h1, h2⟩ := h
    simp only [List.getElem?_cons_zero, Option.some.injEq] at e
    subst e
    exact ⟨v, [], F1, F2, by rw [e1]; rfl, by rw [e2]; rfl, h1⟩
  | c :: ds, vs, F, i + 1, d, h, e => by
    obtain ⟨v, vs', F1, F2, e1, e2, h1, h2⟩ := h
    simp only [List.getElem?_cons_succ] at e
    obtain ⟨w, A, F3, B, g1, g2, g3⟩ := RepL.get h2 e
    exact ⟨w, F1 ++ A, F3, B, by rw [e1]; exact g1, by rw [e2, g2]; simp, g3⟩
theorem RepL.take : ∀ {ds : List D} {vs : List V} {F : List Addr} (n : Nat), RepL G Z H ds vs F → F = [] → RepL G Z H (ds.take n) (vs.take n) []
  | _, _, _, 0, _, _ => ⟨rfl, rfl⟩
  | [], _, _, _ + 1, h, _ => by rw [h.1]; exact ⟨rfl, rfl⟩
  | d :: ds, vs, F, n + 1, h, e => by
    obtain ⟨v, vs', F1, F2, e1, e2, h1, h2⟩ := h
    rw [e] at e2
    obtain ⟨rfl, rfl⟩ := List.append_eq_nil_iff.mp e2.symm
    exact ⟨v, vs'.take n, [], [], by rw [e1]; rfl, rfl, h1, RepL.take n h2 rfl⟩
theorem RepL.drop : ∀ {ds : List D} {vs : List V} {F : List Addr} (n : Nat), RepL G Z H ds vs F → F = [] → RepL G Z H (ds.drop n) (vs.drop n) []
  | _, _, _, 0, h, e => by rw [e] at h; exact h
  | [], _, _, _ + 1, h, _ => by rw [h.1]; exact ⟨rfl, rfl⟩
  | d :: ds, vs, F, n + 1, h, e => by
    obtain ⟨v, vs', F1, F2, e1, e2, h1, h2⟩ := h
    rw [e] at e2
    obtain ⟨rfl, rfl⟩ := List.append_eq_nil_iff.mp e2.symm
    rw [e1]
    exact RepL.drop n h2 rfl
theorem RepL.reverse : ∀ {ds : List D} {vs : List V} {F : List Addr}, RepL G Z H ds vs F → F = [] → RepL G Z H ds.reverse vs.reverse []
  | [], _, _, h, _ => by rw [h.1]; exact ⟨rfl, rfl⟩
  | d :: ds, vs, F, h, e => by
    obtain ⟨v, vs', F1, F2, e1, e2, h1, h2⟩ := h
    rw [e] at e2
    obtain ⟨rfl, rfl⟩ := List.append_eq_nil_iff.mp e2.symm
    rw [e1, List.reverse_cons, List.reverse_cons]
    exact RepL.append (F := []) (F' := []) (RepL.reverse h2 rfl) ⟨v, [], [], [], rfl, rfl, h1, rfl, rfl⟩
end
end Dd
/-! States, steps, what a piece of code does to data. -/
namespace Dd
open PySem L2 TBx

abbrev Env := List (Option D)
def RepS (G : Gx) (Z H : Hp) : Env → St → List Addr → Prop
  | [], σ, F => σ = [] ∧ F = []
  | none :: ρ, σ, F => ∃ x σ', σ = x :: σ' ∧ RepS G Z H ρ σ' F
  | some d :: ρ, σ, F => ∃ v σ' F1 F2, σ = some v :: σ' ∧ F = F1 ++ F2 ∧ Rep G Z H d v F1 ∧ RepS G Z H ρ σ' F2
/-- the tables of code objects that are tracked -/
def TpOk (Z H : Hp) : Prop := ∀ q xs, H q = some (.tup xs) → Z q = some (.tup xs)
/-- no table is frozen -/
def NoT (Z : Hp) : Prop := ∀ P ps, Z P ≠ some (.tbl ps)
def TbOk (G : Gx) (Z H : Hp) : Prop := (∀ P ∈ G.tb, Tb H P ∧ Z P = none) ∧ TpOk Z H ∧ NoT Z
structure State (G : Gx) (lk : List (Nat × V)) (Z H : Hp) (σ : St) (ρ : Env) (F : List Addr) : Prop where
  zh : Ex Z H
  rs : RepS G Z H ρ σ F
  nd : F.Nodup
  fz : ∀ a ∈ F, Z a = none
  lk : ∀ p ∈ lk, σ[p.1]? = some (some p.2)
  tb : TbOk G Z H
/-- all stands, tables may have grown -/
structure Exz (H H' : Hp) : Prop where
  fr : ∀ a o, H a = some o → (∀ ps, o ≠ .tbl ps) → H' a = some o
  tg : ∀ P, Tb H P → Tb H' P
  dm : ∀ a, H a ≠ none → H' a ≠ none
theorem Ex.z {H H' : Hp} (e : Ex H H') : Exz H H' := ⟨fun a o h _ => e a o h, fun P t => t.keep fun b o h _ => e b o h, fun a h => by
  cases q : H a with
  | none => exact absurd q h
  | some o => rw [e a o q]; exact Option.some_ne_none o⟩
theorem Exz.trans {H H1 H2 : Hp} (a : Exz H H1) (b : Exz H1 H2) : Exz H H2 := ⟨fun x o h t => b.fr x o (a.fr x o h t) t, fun P t => b.tg P (a.tg P t), fun x h => b.dm x (a.dm x h)⟩
/-- only new objects; only new ones are frozen -/
structure New (Z H Z' H' : Hp) : Prop where
  zz : Ex Z Z'
  hh : Exz H H'
  zh : Ex Z' H'
  nn : ∀ a, H a ≠ none → Z' a = Z a
  tp : ∀ q xs, H' q = some (.tup xs) → H q = some (.tup xs) ∨ Z' q = some (.tup xs)
  tz : ∀ P ps, Z' P = some (.tbl ps) → Z P = some (.tbl ps)
structure Step (Z H : Hp) (F : List Addr) (Z' H' : Hp) (F' : List Addr) : Prop where
  zz : Ex Z Z'
  zh : Ex Z' H'
  dm : ∀ a, H a ≠ none → H' a ≠ none
  fr : ∀ a o, H a = some o → a ∉ F → (∀ ps, o ≠ .tbl ps) → H' a = some o
  tg : ∀ P, Tb H P → P ∉ F → Tb H' P
  ff : ∀ a, a ∈ F' → a ∈ F ∨ H a = none
  zn : ∀ a, a ∉ F → H a ≠ none → Z a = none → Z' a = none
  tp : ∀ q xs, H' q = some (.tup xs) → H q = some (.tup xs) ∨ Z' q = some (.tup xs)
  tz : ∀ P ps, Z' P = some (.tbl ps) → Z P = some (.tbl ps)
theorem ne_none {α : Type} {x : Option α} {a : α} (h : x = some a) : x ≠ none := by rw [h]; exact Option.some_ne_none a
theorem New.refl {Z H : Hp} (h : Ex Z H) : New Z H Z H := ⟨Ex.refl _, (Ex.refl _).z, h, fun _ _ => rfl, fun _ _ h => .inl h, fun _ _ h => h⟩
theorem New.dm {Z H Z' H' : Hp} (n : New Z H Z' H') {a : Addr} (h : H a ≠ none) : H' a ≠ none := n.hh.dm a h
theorem New.trans {Z H Z1 H1 Z2 H2 : Hp} (a : New Z H Z1 H1) (b : New Z1 H1 Z2 H2) : New Z H Z2 H2 :=
  ⟨a.zz.trans b.zz, a.hh.trans b.hh, b.zh, fun x h => (b.nn x (a.dm h)).trans (a.nn x h), fun q xs h => (b.tp q xs h).elim (fun h => (a.tp q xs h).imp id (b.zz q _)) .inr, fun P ps h => a.tz P ps (b.tz P ps h)⟩
theorem New.step {Z H Z' H' : Hp} {F : List Addr} (n : New Z H Z' H') : Step Z H F Z' H' F :=
  ⟨n.zz, n.zh, fun _ h => n.dm h, fun a o h _ => n.hh.fr a o h, fun P t _ => n.hh.tg P t, fun _ h => .inl h, fun a _ h z => (n.nn a h).trans z, n.tp, n.tz⟩
theorem Step.refl {Z H : Hp} {F : List Addr} (h : Ex Z H) : Step Z H F Z H F := (New.refl h).step
theorem Step.notin {Z H Z' H' : Hp} {F F' : List Addr} (s : Step Z H F Z' H' F') {a : Addr} (h : a ∉ F) (h2 : H a ≠ none) : a ∉ F' := fun q => (s.ff a q).elim h h2
theorem Step.trans {Z H Z1 H1 Z2 H2 : Hp} {F F1 F2 : List Addr} (a : Step Z H F Z1 H1 F1) (b : Step Z1 H1 F1 Z2 H2 F2) : Step Z H F Z2 H2 F2 := by
  refine ⟨a.zz.trans b.zz, b.zh, fun x h => b.dm x (a.dm x h), fun x o h hn ht => b.fr x o (a.fr x o h hn ht) (a.notin hn (ne_none h)) ht, fun P t hn => b.tg P (a.tg P t hn) (a.notin hn (ne_none t.ps.choose_spec)), fun x hx => ?_, fun x hn h z => b.zn x (a.notin hn h) (a.dm x h) (a.zn x hn h z), fun q xs h => (b.tp q xs h).elim (fun h => (a.tp q xs h).imp id (b.zz q _)) .inr, fun P ps h => a.tz P ps (b.tz P ps h)⟩
  rcases b.ff x hx with h | h
  · exact a.ff x h
  · refine .inr ?_
    cases q : H x with
    | none => rfl
    | some o => exact absurd h (a.dm x (ne_none q))
theorem Step.sub {Z H Z1 H1 : Hp} {F F1 F2 : List Addr} (a : Step Z H F Z1 H1 F1) (h : ∀ x ∈ F2, x ∈ F1 ∨ H x = none) : Step Z H F Z1 H1 F2 :=
  ⟨a.zz, a.zh, a.dm, a.fr, a.tg, fun x hx => (h x hx).elim (a.ff x) .inr, a.zn, a.tp, a.tz⟩
/-- what is owned elsewhere may be left out of sight -/
theorem Step.more {Z H Z1 H1 : Hp} {F F1 F2 : List Addr} (a : Step Z H F Z1 H1 F1) (h : ∀ x ∈ F, x ∈ F2) : Step Z H F2 Z1 H1 F1 :=
  ⟨a.zz, a.zh, a.dm, fun x o e n => a.fr x o e fun q => n (h x q), fun P t n => a.tg P t fun q => n (h P q), fun x hx => (a.ff x hx).imp (h x) id, fun x n => a.zn x fun q => n (h x q), a.tp, a.tz⟩

section
variable {G : Gx} {lk : List (Nat × V)} {Z Z' H H' : Hp} {σ : St} {ρ : Env} {F F' : List Addr}
theorem RepS.mono (eZ : Ex Z Z') : ∀ {ρ : Env} {σ : St} {F : List Addr}, RepS G Z H ρ σ F → (∀ a ∈ F, ∀ o, H a = some o → (∀ ps, o ≠ .tbl ps) → H' a = some o) → RepS G Z' H' ρ σ F
  | [], _, _, h, _ => h
  | none :: ρ, σ, F, h, e => by
    obtain ⟨x, σ', e1, h1⟩ := h
    exact ⟨x, σ', e1, RepS.mono eZ h1 e⟩
  | some d :: ρ, σ, F, h, e => by
    obtain ⟨v, σ', F1, F2, e1, e2, h1, h2⟩ := h
    exact ⟨v, σ', F1, F2, e1, e2, h1.mono eZ fun a ha => e a (by rw [e2]; exact List.mem_append_left _ ha), RepS.mono eZ h2 fun a ha => e a (by rw [e2]; exact List.mem_append_right _ ha)⟩
theorem RepS.dom : ∀ {ρ : Env} {σ : St} {F : List Addr}, RepS G Z H ρ σ F → ∀ a ∈ F, ∃ o, H a = some o ∧ (∀ ps, o ≠ .tbl ps) ∧ (∀ xs, o ≠ .tup xs) ∧ ∀ b u, o ≠ .frz b u
  | [], _, _, h, _, ha => by rw [h.2] at ha; cases ha
  | none :: ρ, σ, F, h, a, ha => by
    obtain ⟨x, σ', e1, h1⟩ := h
    exact RepS.dom h1 a ha
  | some d :: ρ, σ, F, h, a, ha => by
    obtain ⟨v, σ', F1, F2, e1, e2, h1, h2⟩ := h
    rw [e2] at ha
    rcases List.mem_append.mp ha with ha | ha
    · exact h1.dom a ha
    · exact RepS.dom h2 a ha
theorem RepS.length : ∀ {ρ : Env} {σ : St} {F : List Addr}, RepS G Z H ρ σ F → ρ.length = σ.length
  | [], _, _, h => by rw [h.1]; rfl
  | none :: ρ, σ, F, h => by
    obtain ⟨x, σ', e1, h1⟩ := h
    rw [e1, List.length_cons, List.length_cons, RepS.length h1]
  | some d :: ρ, σ, F, h => by
    obtain ⟨v, σ', F1, F2, e1, e2, h1, h2⟩ := h
    rw [e1, List.length_cons, List.length_cons, RepS.length h2]
/-- a slot taken out -/
theorem RepS.get : ∀ {ρ : Env} {σ : St} {F : List Addr} {i : Nat} {d : D}, RepS G Z H ρ σ F → ρ[i]? = some (some d) → ∃ v A F1 B, σ[i]? = some (some v) ∧ F = A ++ F1 ++ B ∧ Rep G Z H d v F1 ∧ RepS G Z H (ρ.set i none) σ (A ++ B)
  | [], _, _, _, _, _, e => by simp at e
  | none :: ρ, σ, F, 0, d, h, e => by simp at e
  | some c :: ρ, σ, F, 0, d, h, e => by
    obtain ⟨v, σ', F1, F2, e1, e2, h1, h2⟩ := h
    simp only [List.getElem?_cons_zero, Option.some.injEq] at e
    subst e
    exact ⟨v, [], F1, F2, by rw [e1]; rfl, by rw [e2]; rfl, h1, some v, σ', e1, h2⟩
  | none :: ρ, σ, F, i + 1, d, h, e => by
    obtain ⟨x, σ', e1, h1⟩ := h
    simp only [List.getElem?_cons_succ] at e
    obtain ⟨v, A, F1, B, g1, g2, g3, g4⟩ := RepS.get h1 e
    exact ⟨v, A, F1, B, by rw [e1]; exact g1, g2, g3, x, σ', e1, g4⟩
  | some c :: ρ, σ, F, i + 1, d, h, e => by
    obtain ⟨v, σ', F1, F2, e1, e2, h1, h2⟩ := h
    simp only [List.getElem?_cons_succ] at e
    obtain ⟨w, A, F3, B, g1, g2, g3, g4⟩ := RepS.get h2 e
    exact ⟨w, F1 ++ A, F3, B, by rw [e1]; exact g1, by rw [e2, g2]; simp, g3, v, σ', F1, A ++ B, e1, by simp, h1, g4⟩
/-- a slot forgotten -/
theorem RepS.drop : ∀ {ρ : Env} {σ : St} {F : List Addr} (i : Nat) (x : Option V), RepS G Z H ρ σ F → ∃ F', RepS G Z H (ρ.set i none) (σ.set i x) F' ∧ F'.Sublist F
  | [], _, _, _, _, h => ⟨[], by rw [h.1]; exact ⟨rfl, rfl⟩, List.nil_sublist _⟩
  | none :: ρ, σ, F, 0, x, h => by
    obtain ⟨y, σ', e1, h1⟩ := h
    exact ⟨F, ⟨x, σ', by rw [e1]; rfl, h1⟩, List.Sublist.refl _⟩
  | some d :: ρ, σ, F, 0, x, h => by
    obtain ⟨v, σ', F1, F2, e1, e2, h1, h2⟩ := h
    exact ⟨F2, ⟨x, σ', by rw [e1]; rfl, h2⟩, by rw [e2]; exact List.sublist_append_right _ _⟩
  | none :: ρ, σ, F, i + 1, x, h => by
    obtain ⟨y, σ', e1, h1⟩ := h
    obtain ⟨F', g1, g2⟩ := RepS.drop i x h1
    exact ⟨F', ⟨y, σ'.set i x, by rw [e1]; rfl, g1⟩, g2⟩
  | some d :: ρ, σ, F, i + 1, x, h => by
    obtain ⟨v, σ', F1, F2, e1, e2, h1, h2⟩ := h
    obtain ⟨F', g1, g2⟩ := RepS.drop i x h2
    exact ⟨F1 ++ F', ⟨v, σ'.set i x, F1, F', by rw [e1]; rfl, rfl, h1, g1⟩, by rw [e2]; exact List.Sublist.append_left g2 _⟩
/-- an empty slot filled -/
theorem RepS.put : ∀ {ρ : Env} {σ : St} {F Gf : List Addr} {i : Nat} {d : D} {v : V}, RepS G Z H ρ σ F → ρ[i]? = some none → Rep G Z H d v Gf → ∃ A B, F = A ++ B ∧ RepS G Z H (ρ.set i (some d)) (σ.set i (some v)) (A ++ Gf ++ B)
  | [], _, _, _, _, _, _, _, e, _ => by simp at e
  | some c :: ρ, σ, F, Gf, 0, d, v, h, e, r => by simp at e
  | none :: ρ, σ, F, Gf, 0, d, v, h, e, r => by
    obtain ⟨y, σ', e1, h1⟩ := h
    exact ⟨[], F, rfl, v, σ', Gf, F, by rw [e1]; rfl, by simp, r, h1⟩
  | none :: ρ, σ, F, Gf, i + 1, d, v, h, e, r => by
    obtain ⟨y, σ', e1, h1⟩ := h
    obtain ⟨A, B, g1, g2⟩ := RepS.put (i := i) h1 (by simpa using e) r
    exact ⟨A, B, g1, y, σ'.set i (some v), by rw [e1]; rfl, g2⟩
  | some c :: ρ, σ, F, Gf, i + 1, d, v, h, e, r => by
    obtain ⟨w, σ', F1, F2, e1, e2, h1, h2⟩ := h
    obtain ⟨A, B, g1, g2⟩ := RepS.put (i := i) h2 (by simpa using e) r
    exact ⟨F1 ++ A, B, by rw [e2, g1, List.append_assoc], w, σ'.set i (some v), F1, A ++ Gf ++ B, by rw [e1]; rfl, by simp, h1, g2⟩
theorem tp_upd {H : Hp} {a : Addr} {u : HO} (hu : ∀ xs, u ≠ .tup xs) {q : Addr} {xs : List V} (e : upd H a u q = some (.tup xs)) : H q = some (.tup xs) := by
  by_cases z : q = a
  · rw [z, upd_same] at e; exact absurd (Option.some.inj e) (hu xs)
  · rw [upd_ne z] at e; exact e
theorem TbOk.new (t : TbOk G Z H) (n : New Z H Z' H') : TbOk G Z' H' := ⟨fun P h => by
  obtain ⟨q, z⟩ := t.1 P h
  exact ⟨n.hh.tg P q, (n.nn P (ne_none q.ps.choose_spec)).trans z⟩, fun q xs h => (n.tp q xs h).elim (fun h => n.zz q _ (t.2.1 q xs h)) id, fun P ps h => t.2.2 P ps (n.tz P ps h)⟩
theorem TbOk.step (t : TbOk G Z H) (s : Step Z H F Z' H' F') (nF : ∀ P ∈ G.tb, P ∉ F) : TbOk G Z' H' := ⟨fun P h => by
  obtain ⟨q, z⟩ := t.1 P h
  exact ⟨s.tg P q (nF P h), s.zn P (nF P h) (ne_none q.ps.choose_spec) z⟩, fun q xs h => (s.tp q xs h).elim (fun h => s.zz q _ (t.2.1 q xs h)) id, fun P ps h => t.2.2 P ps (s.tz P ps h)⟩
theorem TbOk.notin {K : List Addr} (t : TbOk G Z H) (d : ∀ a ∈ K, ∃ o, H a = some o ∧ (∀ ps, o ≠ .tbl ps) ∧ (∀ xs, o ≠ .tup xs) ∧ ∀ b u, o ≠ .frz b u) : ∀ P ∈ G.tb, P ∉ K := fun P h q => by
  obtain ⟨ps, e⟩ := (t.1 P h).1.ps
  obtain ⟨o, e2, n, _⟩ := d P q
  rw [e] at e2
  exact n ps (Option.some.inj e2).symm
theorem State.dom (S : State G lk Z H σ ρ F) {a : Addr} (h : a ∈ F) : H a ≠ none := let ⟨_, e, _⟩ := S.rs.dom a h; ne_none e
theorem State.new (S : State G lk Z H σ ρ F) (n : New Z H Z' H') : State G lk Z' H' σ ρ F :=
  ⟨n.zh, S.rs.mono n.zz fun a _ o e => n.hh.fr a o e, S.nd, fun a ha => (n.nn a (S.dom ha)).trans (S.fz a ha), S.lk, S.tb.new n⟩
theorem nodup_mid {A B C : List Addr} (h : (A ++ B ++ C).Nodup) : (A ++ C).Nodup ∧ B.Nodup ∧ (∀ a ∈ B, a ∉ A ++ C) := by
  rw [List.nodup_append] at h
  obtain ⟨h1, h2, h3⟩ := h
  rw [List.nodup_append] at h1
  obtain ⟨h4, h5, h6⟩ := h1
  refine ⟨List.nodup_append.mpr ⟨h4, h2, fun a ha b hb => h3 a (List.mem_append_left _ ha) b hb⟩, h5, fun a ha hm => ?_⟩
  rcases List.mem_append.mp hm with hm | hm
  · exact h6 a hm a ha rfl
  · exact h3 a (List.mem_append_right _ ha) a hm rfl
theorem nodup_put {A B C : List Addr} (h : (A ++ C).Nodup) (hB : B.Nodup) (d : ∀ a ∈ B, a ∉ A ++ C) : (A ++ B ++ C).Nodup := by
  rw [List.nodup_append] at h
  obtain ⟨h1, h2, h3⟩ := h
  refine List.nodup_append.mpr ⟨List.nodup_append.mpr ⟨h1, hB, fun a ha b hb e => d b hb (List.mem_append_left _ (e ▸ ha))⟩, h2, fun a ha b hb e => ?_⟩
  rcases List.mem_append.mp ha with ha | ha
  · exact h3 a ha b hb e
  · exact d a ha (List.mem_append_right _ (e ▸ hb))
theorem mem_mid {A B C : List Addr} {a : Addr} : a ∈ A ++ B ++ C ↔ a ∈ B ∨ a ∈ A ++ C := by
  simp only [List.mem_append]
  constructor
  · rintro ((h | h) | h)
    · exact .inr (.inl h)
    · exact .inl h
    · exact .inr (.inr h)
  · rintro (h | h | h)
    · exact .inl (.inr h)
    · exact .inl (.inl h)
    · exact .inr h
/-- what is fresh -/
structure Fresh (H : Hp) (F : List Addr) (Z' : Hp) (F' Gf : List Addr) : Prop where
  nd : Gf.Nodup
  nh : ∀ a ∈ Gf, a ∈ F ∨ H a = none
  nz : ∀ a ∈ Gf, Z' a = none
  nf : ∀ a ∈ Gf, a ∉ F'
theorem Fresh.nil {H Z' : Hp} {F F' : List Addr} : Fresh H F Z' F' [] := ⟨List.nodup_nil, by simp, by simp, by simp⟩
/-- slot i gets d, its old data forgotten -/
theorem State.set {i : Nat} {d : D} {v : V} {Gf : List Addr} (S : State G lk Z H σ ρ F) (hi : i < ρ.length) (r : Rep G Z H d v Gf) (nd : Gf.Nodup) (nz : ∀ a ∈ Gf, Z a = none) (nf : ∀ a ∈ Gf, a ∉ F) (hl : ∀ p ∈ lk, p.1 ≠ i) :
    ∃ F', State G lk Z H (σ.set i (some v)) (ρ.set i (some d)) F' ∧ ∀ a ∈ F', a ∈ F ∨ a ∈ Gf := by
  obtain ⟨F1, h1, h2⟩ := S.rs.drop i (some v)
  have e : (ρ.set i none)[i]? = some none := by rw [List.getElem?_set_self hi]
  obtain ⟨A, B, g1, g2⟩ := RepS.put h1 e r
  rw [List.set_set, List.set_set] at g2
  refine ⟨A ++ Gf ++ B, ⟨S.zh, g2, nodup_put (by rw [← g1]; exact h2.nodup S.nd) nd fun a ha hm => nf a ha (h2.subset (by rw [g1]; exact hm)), fun a ha => ?_, fun p hp => ?_, S.tb⟩, fun a ha => ?_⟩
  · rcases mem_mid.mp ha with h | h
    · exact nz a h
    · exact S.fz a (h2.subset (by rw [g1]; exact h))
  · rw [List.getElem?_set_ne (Ne.symm (hl p hp))]
    exact S.lk p hp
  · rcases mem_mid.mp ha with h | h
    · exact .inr h
    · exact .inl (h2.subset (by rw [g1]; exact h))
/-- slot i is emptied -/
theorem State.kill {i : Nat} (S : State G lk Z H σ ρ F) : ∃ F', State G lk Z H σ (ρ.set i none) F' ∧ F'.Sublist F := by
  by_cases hi : i < ρ.length
  · obtain ⟨F1, h1, h2⟩ := S.rs.drop i ((σ[i]?).getD none)
    have e : σ.set i ((σ[i]?).getD none) = σ := by
      have hs : i < σ.length := by rw [← S.rs.length]; exact hi
      rw [List.getElem?_eq_getElem hs, Option.getD_some, List.set_getElem_self]
    rw [e] at h1
    exact ⟨F1, ⟨S.zh, h1, h2.nodup S.nd, fun a ha => S.fz a (h2.subset ha), S.lk, S.tb⟩, h2⟩
  · rw [List.set_eq_of_length_le (Nat.le_of_not_lt hi)]
    exact ⟨F, S, List.Sublist.refl _⟩
/-- what slot i owns is frozen -/
theorem State.freeze {i : Nat} {d : D} (S : State G lk Z H σ ρ F) (hi : ρ[i]? = some (some d)) : ∃ v Z' F', σ[i]? = some (some v) ∧ Rep G Z' H (Dd.fz d) v [] ∧ State G lk Z' H σ (ρ.set i (some (Dd.fz d))) F' ∧ Step Z H F Z' H F' := by
  obtain ⟨v, A, F1, B, g1, g2, g3, g4⟩ := S.rs.get hi
  have hlt : i < ρ.length := by
    rcases Nat.lt_or_ge i ρ.length with h | h
    · exact h
    · rw [List.getElem?_eq_none h] at hi; cases hi
  obtain ⟨n1, n2, n3⟩ := nodup_mid (by rw [← g2]; exact S.nd)
  have zF : ∀ a ∈ F, Z a = none := S.fz
  let Z' : Hp := fun a => if a ∈ F1 then H a else Z a
  have z1 : ∀ a, a ∈ F1 → Z' a = H a := fun a h => if_pos h
  have z2 : ∀ a, a ∉ F1 → Z' a = Z a := fun a h => if_neg h
  have eZ : Ex Z Z' := fun a o h => by
    rw [z2 a fun q => by rw [zF a (by rw [g2]; exact mem_mid.mpr (.inl q))] at h; cases h]
    exact h
  have zh : Ex Z' H := fun a o h => by
    by_cases q : a ∈ F1
    · rw [← z1 a q]; exact h
    · rw [z2 a q] at h; exact S.zh a o h
  have tz : ∀ P ps, Z' P = some (.tbl ps) → Z P = some (.tbl ps) := fun P ps h => by
    by_cases q : P ∈ F1
    · rw [z1 P q] at h
      obtain ⟨o, e, n, _⟩ := g3.dom P q
      rw [h] at e
      exact absurd (Option.some.inj e).symm (n ps)
    · rw [z2 P q] at h; exact h
  have r : Rep G Z' H (Dd.fz d) v [] := g3.freeze eZ fun a ha o e => by rw [z1 a ha]; exact e
  obtain ⟨A', B', p1, p2⟩ := RepS.put (i := i) (d := Dd.fz d) (v := v) (g4.mono (Z' := Z') eZ fun a _ o e _ => e) (by rw [List.getElem?_set_self hlt]) r
  rw [List.set_set] at p2
  have es : σ.set i (some v) = σ := by
    have hs : i < σ.length := by rw [← S.rs.length]; exact hlt
    rw [List.getElem?_eq_getElem hs] at g1
    rw [← Option.some.inj g1, List.set_getElem_self]
  rw [es] at p2
  have ef : A' ++ [] ++ B' = A ++ B := by rw [List.append_nil, p1]
  rw [ef] at p2
  refine ⟨v, Z', A ++ B, g1, r, ⟨zh, p2, n1, fun a ha => ?_, S.lk, ⟨fun P hP => ⟨(S.tb.1 P hP).1, ?_⟩, fun q xs h => eZ q _ (S.tb.2.1 q xs h), fun P ps h => S.tb.2.2 P ps (tz P ps h)⟩⟩, ⟨eZ, zh, fun _ h => h, fun _ _ h _ _ => h, fun P t _ => t, fun a ha => .inl (by rw [g2]; exact mem_mid.mpr (.inr ha)), fun a hn _ z => ?_, fun _ _ h => .inl h, tz⟩⟩
  · rw [z2 a fun q => n3 a q ha]
    exact zF a (by rw [g2]; exact mem_mid.mpr (.inr ha))
  · have nP : P ∉ F := TbOk.notin S.tb S.rs.dom P hP
    rw [z2 P fun q => nP (by rw [g2]; exact mem_mid.mpr (.inl q))]
    exact (S.tb.1 P hP).2
  · rw [z2 a fun q => hn (by rw [g2]; exact mem_mid.mpr (.inl q))]
    exact z
end

/-! ### what code does -/
inductive Res (α : Type) where
  | ok (fr : Bool) (a : α) (eff : Bool) (ρ : Env)
  | ex (c : Str) (xs : List D) (ρ : Env)
  | bad
inductive SRes where
  | nx (ρ : Env) | rt (d : D) (ρ : Env) | bk (ρ : Env) | ct (ρ : Env) | ex (c : Str) (xs : List D) (ρ : Env) | bad
abbrev DE := Env → Res D
abbrev DT := Env → Res Bool
abbrev DA := Env → Res (List D)
abbrev DS := Env → SRes
abbrev EW := Str → List D → St → Hp → Prop
structure Cc where
  G : Gx
  lk : List (Nat × V)
  W : EW
def W0 : EW := fun _ _ _ _ => False

structure PostE (c : Cc) (Z H : Hp) (σ : St) (ρ : Env) (F : List Addr) (eff : Bool) (ρ' : Env) (Z' H' : Hp) (F' : List Addr) : Prop where
  st : Step Z H F Z' H' F'
  sta : State c.G c.lk Z' H' σ ρ' F'
  qui : eff = false → ρ' = ρ ∧ F' = F ∧ New Z H Z' H'
theorem PostE.refl {c : Cc} {Z H : Hp} {σ : St} {ρ : Env} {F : List Addr} (S : State c.G c.lk Z H σ ρ F) : PostE c Z H σ ρ F false ρ Z H F := ⟨Step.refl S.zh, S, fun _ => ⟨rfl, rfl, New.refl S.zh⟩⟩
theorem PostE.trans {c : Cc} {Z H Z1 H1 Z2 H2 : Hp} {σ : St} {ρ ρ1 ρ2 : Env} {F F1 F2 : List Addr} {e1 e2 : Bool} (a : PostE c Z H σ ρ F e1 ρ1 Z1 H1 F1) (b : PostE c Z1 H1 σ ρ1 F1 e2 ρ2 Z2 H2 F2) : PostE c Z H σ ρ F (e1 || e2) ρ2 Z2 H2 F2 :=
  ⟨a.st.trans b.st, b.sta, fun h => by
    rw [Bool.or_eq_false_iff] at h
    obtain ⟨p1, p2, p3⟩ := a.qui h.1
    obtain ⟨q1, q2, q3⟩ := b.qui h.2
    exact ⟨q1.trans p1, q2.trans p2, p3.trans q3⟩⟩
theorem PostE.new {c : Cc} {Z H Z' H' : Hp} {σ : St} {ρ : Env} {F : List Addr} (S : State c.G c.lk Z H σ ρ F) (n : New Z H Z' H') : PostE c Z H σ ρ F false ρ Z' H' F := ⟨n.step, S.new n, fun _ => ⟨rfl, rfl, n⟩⟩
/-- d, fresh or not, still stands behind another piece of code -/
theorem Rep.later {c : Cc} {H Z1 H1 Z2 H2 : Hp} {σ : St} {ρ1 ρ2 : Env} {F F1 F2 Gf : List Addr} {fr eff : Bool} {d : D} {v : V} (r : Rep c.G Z1 H1 d v Gf) (f : fr = true → Fresh H F Z1 F1 Gf) (b : PostE c Z1 H1 σ ρ1 F1 eff ρ2 Z2 H2 F2) (k : (!eff || fr || frz d) = true) : Rep c.G Z2 H2 d v Gf := by
  refine r.mono b.st.zz fun a ha o e => ?_
  cases eff with
  | false => exact (b.qui rfl).2.2.hh.fr a o e
  | true =>
    cases fr with
    | true => exact b.st.fr a o e ((f rfl).nf a ha)
    | false =>
      have k' : frz d = true := by simpa using k
      rw [r.frz_nil k'] at ha
      cases ha
theorem RepL.later {c : Cc} {H Z1 H1 Z2 H2 : Hp} {σ : St} {ρ1 ρ2 : Env} {F F1 F2 Gf : List Addr} {eff : Bool} {ds : List D} {vs : List V} (r : RepL c.G Z1 H1 ds vs Gf) (f : Fresh H F Z1 F1 Gf) (b : PostE c Z1 H1 σ ρ1 F1 eff ρ2 Z2 H2 F2) : RepL c.G Z2 H2 ds vs Gf :=
  r.mono b.st.zz fun a ha o e => b.st.fr a o e (f.nf a ha)
theorem Fresh.later {c : Cc} {H Z1 H1 Z2 H2 : Hp} {σ : St} {ρ1 ρ2 : Env} {F F1 F2 Gf : List Addr} {eff : Bool} (f : Fresh H F Z1 F1 Gf) (hd : ∀ a ∈ Gf, H1 a ≠ none) (b : PostE c Z1 H1 σ ρ1 F1 eff ρ2 Z2 H2 F2) : Fresh H F Z2 F2 Gf :=
  ⟨f.nd, f.nh, fun a ha => b.st.zn a (f.nf a ha) (hd a ha) (f.nz a ha), fun a ha => b.st.notin (f.nf a ha) (hd a ha)⟩
theorem Fresh.step {Z H Z1 H1 Z2 : Hp} {F F1 F2 Gf : List Addr} (a : Step Z H F Z1 H1 F1) (f : Fresh H1 F1 Z2 F2 Gf) : Fresh H F Z2 F2 Gf :=
  ⟨f.nd, fun x hx => by
    rcases f.nh x hx with h | h
    · exact a.ff x h
    · refine .inr ?_
      cases q : H x with
      | none => rfl
      | some o => exact absurd h (a.dm x (ne_none q)), f.nz, f.nf⟩
theorem Fresh.earlier {c : Cc} {Z H Z1 H1 Z2 : Hp} {σ : St} {ρ ρ1 : Env} {F F1 F2 Gf : List Addr} {eff : Bool} (a : PostE c Z H σ ρ F eff ρ1 Z1 H1 F1) (f : Fresh H1 F1 Z2 F2 Gf) : Fresh H F Z2 F2 Gf := f.step a.st
theorem Fresh.append {H Z : Hp} {F0 F A B : List Addr} (f : Fresh H F0 Z F A) (g : Fresh H F0 Z F B) (d : ∀ a ∈ A, a ∉ B) : Fresh H F0 Z F (A ++ B) :=
  ⟨List.nodup_append.mpr ⟨f.nd, g.nd, fun a ha b hb e => d a ha (e ▸ hb)⟩, fun a ha => (List.mem_append.mp ha).elim (f.nh a) (g.nh a), fun a ha => (List.mem_append.mp ha).elim (f.nz a) (g.nz a), fun a ha => (List.mem_append.mp ha).elim (f.nf a) (g.nf a)⟩

def tE (c : Cc) (m : DE) : TE := fun σ H Q => ∃ Z ρ F, State c.G c.lk Z H σ ρ F ∧ match m ρ with
  | .ok fr d eff ρ' => ∀ Z' H' F' v Gf, PostE c Z H σ ρ F eff ρ' Z' H' F' → Rep c.G Z' H' d v Gf → (fr = true → Fresh H F Z' F' Gf) → Q v H'
  | .ex x xs ρ' => ∀ Z' H' F', Step Z H F Z' H' F' → State c.G c.lk Z' H' σ ρ' F' → c.W x xs σ H'
  | .bad => False
def tT (c : Cc) (m : DT) : TT := fun σ H Q => ∃ Z ρ F, State c.G c.lk Z H σ ρ F ∧ match m ρ with
  | .ok _ b eff ρ' => ∀ Z' H' F', PostE c Z H σ ρ F eff ρ' Z' H' F' → Q b H'
  | .ex x xs ρ' => ∀ Z' H' F', Step Z H F Z' H' F' → State c.G c.lk Z' H' σ ρ' F' → c.W x xs σ H'
  | .bad => False
/-- a list of values: each fresh or frozen -/
def tA (c : Cc) (m : DA) : TA := fun σ H Q => ∃ Z ρ F, State c.G c.lk Z H σ ρ F ∧ match m ρ with
  | .ok _ ds eff ρ' => ∀ Z' H' F' vs Gf, PostE c Z H σ ρ F eff ρ' Z' H' F' → RepL c.G Z' H' ds vs Gf → Fresh H F Z' F' Gf → Q vs H'
  | .ex x xs ρ' => ∀ Z' H' F', Step Z H F Z' H' F' → State c.G c.lk Z' H' σ ρ' F' → c.W x xs σ H'
  | .bad => False
def SOut (c : Cc) (Z H : Hp) (F : List Addr) (D : Ends) : SRes → Prop
  | .nx ρ' => ∀ Z' H' F' σ', Step Z H F Z' H' F' → State c.G c.lk Z' H' σ' ρ' F' → D.nx σ' H'
  | .bk ρ' => ∀ Z' H' F' σ', Step Z H F Z' H' F' → State c.G c.lk Z' H' σ' ρ' F' → D.bk σ' H'
  | .ct ρ' => ∀ Z' H' F' σ', Step Z H F Z' H' F' → State c.G c.lk Z' H' σ' ρ' F' → D.ct σ' H'
  | .rt d ρ' => ∀ Z' H' F' σ' v Gf, Step Z H F Z' H' F' → State c.G c.lk Z' H' σ' ρ' F' → Rep c.G Z' H' d v Gf → Fresh H F Z' F' Gf → D.rt v H'
  | .ex x xs ρ' => ∀ Z' H' F' σ', Step Z H F Z' H' F' → State c.G c.lk Z' H' σ' ρ' F' → c.W x xs σ' H'
  | .bad => False
def tS (c : Cc) (m : DS) : TS := fun D σ H => ∃ Z ρ F, State c.G c.lk Z H σ ρ F ∧ SOut c Z H F D (m ρ)

theorem _root_.L2.PE.imp {X : Cx} {e : Expr} {t u : TE} (h : PE X e t) (k : ∀ σ H Q, u σ H Q → t σ H Q) : PE X e u := ⟨fun pins s σ H Q I w => h.run pins s σ H Q I (k σ H Q w)⟩
theorem _root_.L2.PT.imp {X : Cx} {e : Expr} {t u : TT} (h : PT X e t) (k : ∀ σ H Q, u σ H Q → t σ H Q) : PT X e u := ⟨fun pins s σ H Q I w => h.run pins s σ H Q I (k σ H Q w)⟩
theorem _root_.L2.PW.imp {X : Cx} {e : Expr} {t u : TT} (h : PW X e t) (k : ∀ σ H Q, u σ H Q → t σ H Q) : PW X e u := ⟨fun wh pins s σ H Q I w => h.run wh pins s σ H Q I (k σ H Q w)⟩
theorem _root_.L2.PA.imp {X : Cx} {e : List Expr} {t u : TA} (h : PA X e t) (k : ∀ σ H Q, u σ H Q → t σ H Q) : PA X e u := ⟨fun pos pins s σ H Q I w => h.run pos pins s σ H Q I (k σ H Q w)⟩
theorem _root_.L2.PS.imp {X : Cx} {e : Stmt} {t u : TS} (h : PS X e t) (k : ∀ D σ H, u D σ H → t D σ H) : PS X e u := ⟨fun pins s σ H D I w => h.run pins s σ H D I (k D σ H w)⟩
theorem _root_.L2.PSs.imp {X : Cx} {e : List Stmt} {t u : TS} (h : PSs X e t) (k : ∀ D σ H, u D σ H → t D σ H) : PSs X e u := ⟨fun pins s σ H D I w => h.run pins s σ H D I (k D σ H w)⟩

section
variable {c : Cc} {Z H : Hp} {σ : St} {ρ : Env} {F : List Addr}
theorem tE.ok {m : DE} {Q : VK} {fr d eff ρ'} (S : State c.G c.lk Z H σ ρ F) (e : m ρ = .ok fr d eff ρ') (k : ∀ Z' H' F' v Gf, PostE c Z H σ ρ F eff ρ' Z' H' F' → Rep c.G Z' H' d v Gf → (fr = true → Fresh H F Z' F' Gf) → Q v H') : tE c m σ H Q :=
  ⟨Z, ρ, F, S, by rw [e]; exact k⟩
theorem tE.ex {m : DE} {Q : VK} {x xs ρ'} (S : State c.G c.lk Z H σ ρ F) (e : m ρ = .ex x xs ρ') (k : ∀ Z' H' F', Step Z H F Z' H' F' → State c.G c.lk Z' H' σ ρ' F' → c.W x xs σ H') : tE c m σ H Q :=
  ⟨Z, ρ, F, S, by rw [e]; exact k⟩
theorem tT.ok {m : DT} {Q : Bool → Hp → Prop} {fr d eff ρ'} (S : State c.G c.lk Z H σ ρ F) (e : m ρ = .ok fr d eff ρ') (k : ∀ Z' H' F', PostE c Z H σ ρ F eff ρ' Z' H' F' → Q d H') : tT c m σ H Q :=
  ⟨Z, ρ, F, S, by rw [e]; exact k⟩
theorem tT.ex {m : DT} {Q : Bool → Hp → Prop} {x xs ρ'} (S : State c.G c.lk Z H σ ρ F) (e : m ρ = .ex x xs ρ') (k : ∀ Z' H' F', Step Z H F Z' H' F' → State c.G c.lk Z' H' σ ρ' F' → c.W x xs σ H') : tT c m σ H Q :=
  ⟨Z, ρ, F, S, by rw [e]; exact k⟩
theorem tA.ok {m : DA} {Q : List V → Hp → Prop} {fr d eff ρ'} (S : State c.G c.lk Z H σ ρ F) (e : m ρ = .ok fr d eff ρ') (k : ∀ Z' H' F' vs Gf, PostE c Z H σ ρ F eff ρ' Z' H' F' → RepL c.G Z' H' d vs Gf → Fresh H F Z' F' Gf → Q vs H') : tA c m σ H Q :=
  ⟨Z, ρ, F, S, by rw [e]; exact k⟩
theorem tA.ex {m : DA} {Q : List V → Hp → Prop} {x xs ρ'} (S : State c.G c.lk Z H σ ρ F) (e : m ρ = .ex x xs ρ') (k : ∀ Z' H' F', Step Z H F Z' H' F' → State c.G c.lk Z' H' σ ρ' F' → c.W x xs σ H') : tA c m σ H Q :=
  ⟨Z, ρ, F, S, by rw [e]; exact k⟩
theorem tS.nx {m : DS} {D : Ends} {ρ'} (S : State c.G c.lk Z H σ ρ F) (e : m ρ = .nx ρ') (k : ∀ Z' H' F' σ', Step Z H F Z' H' F' → State c.G c.lk Z' H' σ' ρ' F' → D.nx σ' H') : tS c m D σ H := ⟨Z, ρ, F, S, by rw [e]; exact k⟩
theorem tS.bk {m : DS} {D : Ends} {ρ'} (S : State c.G c.lk Z H σ ρ F) (e : m ρ = .bk ρ') (k : ∀ Z' H' F' σ', Step Z H F Z' H' F' → State c.G c.lk Z' H' σ' ρ' F' → D.bk σ' H') : tS c m D σ H := ⟨Z, ρ, F, S, by rw [e]; exact k⟩
theorem tS.ct {m : DS} {D : Ends} {ρ'} (S : State c.G c.lk Z H σ ρ F) (e : m ρ = .ct ρ') (k : ∀ Z' H' F' σ', Step Z H F Z' H' F' → State c.G c.lk Z' H' σ' ρ' F' → D.ct σ' H') : tS c m D σ H := ⟨Z, ρ, F, S, by rw [e]; exact k⟩
theorem tS.rt {m : DS} {D : Ends} {d ρ'} (S : State c.G c.lk Z H σ ρ F) (e : m ρ = .rt d ρ') (k : ∀ Z' H' F' σ' v Gf, Step Z H F Z' H' F' → State c.G c.lk Z' H' σ' ρ' F' → Rep c.G Z' H' d v Gf → Fresh H F Z' F' Gf → D.rt v H') : tS c m D σ H := ⟨Z, ρ, F, S, by rw [e]; exact k⟩
theorem tS.ex {m : DS} {D : Ends} {x xs ρ'} (S : State c.G c.lk Z H σ ρ F) (e : m ρ = .ex x xs ρ') (k : ∀ Z' H' F' σ', Step Z H F Z' H' F' → State c.G c.lk Z' H' σ' ρ' F' → c.W x xs σ' H') : tS c m D σ H := ⟨Z, ρ, F, S, by rw [e]; exact k⟩
end
end Dd
/-! Rules for expressions. -/
namespace Dd
open PySem L2

/-! ### names and constants -/
def dVar (i : Nat) : DE := fun ρ => match ρ[i]? with
  | some (some d) => .ok false d false ρ
  | _ => .bad
/-- the name's data leaves the name's hands: frozen first -/
def dFz (i : Nat) : DE := fun ρ => match ρ[i]? with
  | some (some d) => if frz d = true then .ok true d false ρ else .ok true (fz d) true (ρ.set i (some (fz d)))
  | _ => .bad
/-- the name's data is handed on, the name is empty behind it -/
def dMv (i : Nat) : DE := fun ρ => match ρ[i]? with
  | some (some d) => .ok true d true (ρ.set i none)
  | _ => .bad
def dC (d : D) : DE := fun ρ => .ok true d false ρ
def dBad : DE := fun _ => .bad
section
variable {c : Cc} {X : Cx} {e : Expr}
theorem e_var {i : Nat} (h : PE X e (tVar i)) : PE X e (tE c (dVar i)) := h.imp fun σ H Q w => by
  obtain ⟨Z, ρ, F, S, w⟩ := w
  cases hi : ρ[i]? with
  | none => simp only [dVar, hi] at w
  | some o =>
    cases o with
    | none => simp only [dVar, hi] at w
    | some d =>
      simp only [dVar, hi] at w
      obtain ⟨v, A, F1, B, g1, g2, g3, g4⟩ := S.rs.get hi
      exact ⟨v, g1, w Z H F v F1 (PostE.refl S) g3 fun q => nomatch q⟩
theorem e_fz {i : Nat} (h : PE X e (tVar i)) : PE X e (tE c (dFz i)) := h.imp fun σ H Q w => by
  obtain ⟨Z, ρ, F, S, w⟩ := w
  cases hi : ρ[i]? with
  | none => simp only [dFz, hi] at w
  | some o =>
    cases o with
    | none => simp only [dFz, hi] at w
    | some d =>
      simp only [dFz, hi] at w
      by_cases hf : frz d = true
      · rw [if_pos hf] at w
        obtain ⟨v, A, F1, B, g1, g2, g3, g4⟩ := S.rs.get hi
        have e1 := g3.frz_nil hf
        subst e1
        exact ⟨v, g1, w Z H F v [] (PostE.refl S) g3 fun _ => Fresh.nil⟩
      · rw [if_neg hf] at w
        obtain ⟨v, Z', F', g1, g2, g3, g4⟩ := S.freeze hi
        exact ⟨v, g1, w Z' H F' v [] ⟨g4, g3, fun q => nomatch q⟩ g2 fun _ => Fresh.nil⟩
theorem e_mv {i : Nat} (h : PE X e (tVar i)) : PE X e (tE c (dMv i)) := h.imp fun σ H Q w => by
  obtain ⟨Z, ρ, F, S, w⟩ := w
  cases hi : ρ[i]? with
  | none => simp only [dMv, hi] at w
  | some o =>
    cases o with
    | none => simp only [dMv, hi] at w
    | some d =>
      simp only [dMv, hi] at w
      obtain ⟨v, A, F1, B, g1, g2, g3, g4⟩ := S.rs.get hi
      obtain ⟨n1, n2, n3⟩ := nodup_mid (by rw [← g2]; exact S.nd)
      have sub : ∀ a, a ∈ A ++ B → a ∈ F := fun a ha => by rw [g2]; exact mem_mid.mpr (.inr ha)
      refine ⟨v, g1, w Z H (A ++ B) v F1 ⟨(Step.refl S.zh).sub fun a ha => .inl (sub a ha), ⟨S.zh, g4, n1, fun a ha => S.fz a (sub a ha), S.lk, S.tb⟩, fun q => nomatch q⟩ g3 fun _ => ⟨n2, fun a ha => .inl (by rw [g2]; exact mem_mid.mpr (.inl ha)), fun a ha => S.fz a (by rw [g2]; exact mem_mid.mpr (.inl ha)), n3⟩⟩
theorem e_con {d : D} {v : V} (h : PE X e (tC v)) (r : ∀ G Z H, Rep G Z H d v []) : PE X e (tE c (dC d)) := h.imp fun σ H Q w => by
  obtain ⟨Z, ρ, F, S, w⟩ := w
  exact w Z H F v [] (PostE.refl S) (r _ _ _) fun _ => Fresh.nil
theorem e_int {i j pos} : PE X (.Constant (.int i) j pos) (tE c (dC (.int i))) := e_con pe_int fun _ _ _ => ⟨rfl, rfl⟩
theorem e_bl {i j pos} : PE X (.Constant (.bool i) j pos) (tE c (dC (.bl i))) := e_con pe_bl fun _ _ _ => ⟨rfl, rfl⟩
theorem e_non {j pos} : PE X (.Constant .none j pos) (tE c (dC .non)) := e_con pe_non fun _ _ _ => ⟨rfl, rfl⟩
theorem e_str {x j pos} : PE X (.Constant (.str x) j pos) (tE c (dC (.str x))) := e_con pe_str fun _ _ _ => ⟨rfl, rfl⟩
end

/-! ### operations by values -/
/-- what a value operation promises -/
def Op2 (G : Gx) (r : R2) (f : D → D → Option (Bool × D)) : Prop := ∀ (Z H : Hp) (x y : D) (v w : V) (F1 F2 : List Addr) (fr : Bool) (z : D), Ex Z H → Rep G Z H x v F1 → Rep G Z H y w F2 → f x y = some (fr, z) →
  ∀ Q : VK, (∀ Z' H' u Gf, New Z H Z' H' → Rep G Z' H' z u Gf → (fr = true → Gf.Nodup ∧ ∀ a ∈ Gf, H a = none ∧ Z' a = none) → Q u H') → r v w H Q
def Op1 (G : Gx) (r : V → Hp → VK → Prop) (f : D → Option (Bool × D)) : Prop := ∀ (Z H : Hp) (x : D) (v : V) (F1 : List Addr) (fr : Bool) (z : D), Ex Z H → Rep G Z H x v F1 → f x = some (fr, z) →
  ∀ Q : VK, (∀ Z' H' u Gf, New Z H Z' H' → Rep G Z' H' z u Gf → (fr = true → Gf.Nodup ∧ ∀ a ∈ Gf, H a = none ∧ Z' a = none) → Q u H') → r v H Q
def bind2 (f : D → D → Option (Bool × D)) (a b : DE) : DE := fun ρ => match a ρ with
  | .ok f1 x e1 ρ1 => (match b ρ1 with
    | .ok f2 y e2 ρ2 => if (!e2 || f1 || frz x) = true then (match f x y with | some (fr, z) => .ok fr z (e1 || e2) ρ2 | none => .bad) else .bad
    | .ex c xs ρ2 => .ex c xs ρ2
    | .bad => .bad)
  | .ex c xs ρ1 => .ex c xs ρ1
  | .bad => .bad
def bind1 (f : D → Option (Bool × D)) (a : DE) : DE := fun ρ => match a ρ with
  | .ok f1 x e1 ρ1 => (match f x with | some (fr, z) => .ok fr z e1 ρ1 | none => .bad)
  | .ex c xs ρ1 => .ex c xs ρ1
  | .bad => .bad
theorem fresh_of {H Z : Hp} {Gf F0 F : List Addr} (p : Gf.Nodup ∧ ∀ a ∈ Gf, H a = none ∧ Z a = none) (hF : ∀ a ∈ F, H a ≠ none) : Fresh H F0 Z F Gf :=
  ⟨p.1, fun a ha => .inr (p.2 a ha).1, fun a ha => (p.2 a ha).2, fun a ha q => hF a q (p.2 a ha).1⟩
section
variable {c : Cc} {ma mb mc : DE} {σ : St} {H : Hp} {Q : VK}
theorem bind2_imp {r : R2} {f : D → D → Option (Bool × D)} (hr : Op2 c.G r f) (w : tE c (bind2 f ma mb) σ H Q) : tOp r (tE c ma) (tE c mb) σ H Q := by
  obtain ⟨Z, ρ, F, S, w⟩ := w
  show tE c ma σ H fun x H1 => tE c mb σ H1 fun y H2 => r x y H2 Q
  cases ha : ma ρ with
  | bad => simp only [bind2, ha] at w
  | ex x xs ρ1 =>
    simp only [bind2, ha] at w
    exact tE.ex S ha w
  | ok f1 x e1 ρ1 =>
    simp only [bind2, ha] at w
    refine tE.ok S ha fun Z1 H1 F1 v G1 P1 R1 f1h => ?_
    cases hb : mb ρ1 with
    | bad => simp only [hb] at w
    | ex x xs ρ2 =>
      simp only [hb] at w
      exact tE.ex P1.sta hb fun Z2 H2 F2 s2 S2 => w Z2 H2 F2 (P1.st.trans s2) S2
    | ok f2 y e2 ρ2 =>
      simp only [hb] at w
      refine tE.ok P1.sta hb fun Z2 H2 F2 u G2 P2 R2 f2h => ?_
      by_cases hk : (!e2 || f1 || frz x) = true
      · rw [if_pos hk] at w
        cases hf : f x y with
        | none => simp only [hf] at w
        | some p =>
          obtain ⟨fr, z⟩ := p
          simp only [hf] at w
          refine hr Z2 H2 x y v u G1 G2 fr z P2.sta.zh (R1.later f1h P2 hk) R2 hf Q fun Z3 H3 t G3 n3 R3 f3 => ?_
          have P3 := PostE.new P2.sta n3
          have P := (P1.trans P2).trans P3
          rw [Bool.or_false] at P
          refine w Z3 H3 F2 t G3 P R3 fun q => ?_
          exact Fresh.earlier (P1.trans P2) (fresh_of (f3 q) fun a ha => P2.sta.dom ha)
      · rw [if_neg hk] at w
        exact w.elim
theorem bind1_imp {r : V → Hp → VK → Prop} {f : D → Option (Bool × D)} (hr : Op1 c.G r f) (w : tE c (bind1 f ma) σ H Q) : tE c ma σ H fun x H1 => r x H1 Q := by
  obtain ⟨Z, ρ, F, S, w⟩ := w
  cases ha : ma ρ with
  | bad => simp only [bind1, ha] at w
  | ex x xs ρ1 =>
    simp only [bind1, ha] at w
    exact tE.ex S ha w
  | ok f1 x e1 ρ1 =>
    simp only [bind1, ha] at w
    refine tE.ok S ha fun Z1 H1 F1 v G1 P1 R1 f1h => ?_
    cases hf : f x with
    | none => simp only [hf] at w
    | some p =>
      obtain ⟨fr, z⟩ := p
      simp only [hf] at w
      refine hr Z1 H1 x v G1 fr z P1.sta.zh R1 hf Q fun Z3 H3 t G3 n3 R3 f3 => ?_
      have P := P1.trans (PostE.new P1.sta n3)
      rw [Bool.or_false] at P
      exact w Z3 H3 F1 t G3 P R3 fun q => Fresh.earlier P1 (fresh_of (f3 q) fun a ha => P1.sta.dom ha)
end
section
variable {c : Cc} {X : Cx} {a b o : Expr} {ma mb mc : DE} {pos : Pos}
theorem e_op {op : Operator} {r : R2} {f : D → D → Option (Bool × D)} (hr : OpR X (binaryOp op) r) (ho : Op2 c.G r f) (ha : PE X a (tE c ma)) (hb : PE X b (tE c mb)) : PE X (.BinOp a op b pos) (tE c (bind2 f ma mb)) := (pe_op hr ha hb).imp fun _ _ _ w => bind2_imp ho w
theorem e_un {op : UnaryOp} {r : V → Hp → VK → Prop} {f : D → Option (Bool × D)} (hr : UnR X (unaryOp op) r) (ho : Op1 c.G r f) (ha : PE X a (tE c ma)) : PE X (.UnaryOp op a pos) (tE c (bind1 f ma)) := (pe_un hr ha).imp fun _ _ _ w => bind1_imp ho w
theorem e_cmp {op : CmpOp} {r : R2} {f : D → D → Option (Bool × D)} (hr : OpR X (compareOp op) r) (ho : Op2 c.G r f) (ha : PE X a (tE c ma)) (hb : PE X b (tE c mb)) (hm : behindInMarks op b = false) : PE X (.Compare a [op] [b] pos) (tE c (bind2 f ma mb)) := (pe_cmpR hr ha hb hm).imp fun _ _ _ w => bind2_imp ho w
theorem e_ix {r : R2} {f : D → D → Option (Bool × D)} (hr : IxR X r) (ho : Op2 c.G r f) (ha : PE X a (tE c ma)) (hb : PE X b (tE c mb)) (hs : PlainIx b) : PE X (.Subscript a b pos) (tE c (bind2 f ma mb)) := (pe_ix hr ha hb hs).imp fun _ _ _ w => bind2_imp ho w
end

/-! ### what is scalar -/
def sv : D → Option V
  | .non => some .non
  | .bl b => some (.bl b)
  | .int i => some (.int i)
  | .str s => some (.str s)
  | .box _ _ _ => none
theorem sv_rep {G : Gx} {Z H : Hp} {d : D} {v : V} (h : sv d = some v) : Rep G Z H d v [] := by
  cases d <;> simp only [sv, Option.some.injEq, reduceCtorEq] at h <;> subst h <;> exact ⟨rfl, rfl⟩
theorem op2_sc {G : Gx} {r : R2} {f : D → D → Option (Bool × D)} (h : ∀ (Z H : Hp) (x y : D) (v w : V) (F1 F2 : List Addr) (fr : Bool) (z : D), Ex Z H → Rep G Z H x v F1 → Rep G Z H y w F2 → f x y = some (fr, z) → ∃ u, sv z = some u ∧ ∀ Q : VK, Q u H → r v w H Q) : Op2 G r f := by
  intro Z H x y v w F1 F2 fr z hz r1 r2 hf Q k
  obtain ⟨u, hu, q⟩ := h Z H x y v w F1 F2 fr z hz r1 r2 hf
  exact q Q (k Z H u [] (New.refl hz) (sv_rep hu) fun _ => ⟨List.nodup_nil, by simp⟩)
theorem op1_sc {G : Gx} {r : V → Hp → VK → Prop} {f : D → Option (Bool × D)} (h : ∀ (Z H : Hp) (x : D) (v : V) (F1 : List Addr) (fr : Bool) (z : D), Ex Z H → Rep G Z H x v F1 → f x = some (fr, z) → ∃ u, sv z = some u ∧ ∀ Q : VK, Q u H → r v H Q) : Op1 G r f := by
  intro Z H x v F1 fr z hz r1 hf Q k
  obtain ⟨u, hu, q⟩ := h Z H x v F1 fr z hz r1 hf
  exact q Q (k Z H u [] (New.refl hz) (sv_rep hu) fun _ => ⟨List.nodup_nil, by simp⟩)

/-! ### ints -/
def fInt (C : Int → Int → Bool) (g : Int → Int → D) : D → D → Option (Bool × D)
  | .int i, .int j => if C i j = true then some (true, g i j) else none
  | _, _ => none
theorem op_int {G : Gx} {C : Int → Int → Prop} {C' : Int → Int → Bool} {g : Int → Int → V} {g' : Int → Int → D} (hC : ∀ i j, C' i j = true → C i j) (hg : ∀ i j, sv (g' i j) = some (g i j)) : Op2 G (rI C g) (fInt C' g') := op2_sc fun Z H x y v w F1 F2 fr z _ r1 r2 hf => by
  cases x <;> cases y <;> simp only [fInt, reduceCtorEq] at hf
  rename_i i j
  split at hf
  · rename_i hc
    simp only [Option.some.injEq, Prod.mk.injEq] at hf
    obtain ⟨rfl, rfl⟩ := hf
    exact ⟨g i j, hg i j, fun Q q => ⟨i, j, r1.1, r2.1, hC i j hc, q⟩⟩
  · cases hf
theorem op_int0 {G : Gx} {g : Int → Int → V} {g' : Int → Int → D} (hg : ∀ i j, sv (g' i j) = some (g i j)) : Op2 G (rI0 g) (fInt (fun _ _ => true) g') := op2_sc fun Z H x y v w F1 F2 fr z _ r1 r2 hf => by
  cases x <;> cases y <;> simp only [fInt, reduceCtorEq, if_true] at hf
  rename_i i j
  simp only [Option.some.injEq, Prod.mk.injEq] at hf
  obtain ⟨rfl, rfl⟩ := hf
  exact ⟨g i j, hg i j, fun Q q => ⟨i, j, r1.1, r2.1, q⟩⟩
def fAdd := fInt (fun _ _ => true) fun i j => .int (i + j)
def fSub := fInt (fun _ _ => true) fun i j => .int (i - j)
def okMul (i j : Int) : Bool := decide (i.natAbs < 2 ^ 64) || decide (j.natAbs < 2 ^ 64)
def fMul := fInt okMul fun i j => .int (i * j)
def okDiv (j : Int) : Bool := decide (0 < j ∧ j < 1073741824)
def fDiv := fInt (fun _ j => okDiv j) fun i j => .int (i / j)
def fMod := fInt (fun _ j => decide (0 < j)) fun i j => .int (i % j)
def fPow := fInt (fun i j => decide (0 ≤ j ∧ j ≤ 1000000 ∧ i.natAbs < 2 ^ 64)) fun i j => .int (i ^ j.toNat)
def fNeg : D → Option (Bool × D)
  | .int i => some (true, .int (-i))
  | _ => none
def fCmp (p : Int → Int → Bool) := fInt (fun _ _ => true) fun i j => .bl (p i j)
section
variable {G : Gx}
theorem o_add : Op2 G (rI0 fun i j => .int (i + j)) fAdd := op_int0 fun _ _ => rfl
theorem o_sub : Op2 G (rI0 fun i j => .int (i - j)) fSub := op_int0 fun _ _ => rfl
theorem o_mul : Op2 G (rI CMul fun i j => .int (i * j)) fMul := op_int (fun i j h => by
  simp only [okMul, Bool.or_eq_true, decide_eq_true_eq] at h
  rcases h with h | h
  · exact .inl (by omega)
  · exact .inr (by omega)) fun _ _ => rfl
theorem o_div : Op2 G (rI CDiv fun i j => .int (i / j)) fDiv := op_int (fun i j h => (show 0 < j ∧ j < 1073741824 from of_decide_eq_true h)) fun _ _ => rfl
theorem o_mod : Op2 G (rI (fun _ j => 0 < j) fun i j => .int (i % j)) fMod := op_int (fun i j h => of_decide_eq_true h) fun _ _ => rfl
theorem o_pow : Op2 G (rI CPow fun i j => .int (i ^ j.toNat)) fPow := op_int (fun i j h => (show 0 ≤ j ∧ j ≤ 1000000 ∧ i.natAbs < 2 ^ 64 from of_decide_eq_true h)) fun _ _ => rfl
theorem o_neg : Op1 G (rU fun i => .int (-i)) fNeg := op1_sc fun Z H x v F1 fr z _ r1 hf => by
  cases x <;> simp only [fNeg, reduceCtorEq] at hf
  rename_i i
  simp only [Option.some.injEq, Prod.mk.injEq] at hf
  obtain ⟨rfl, rfl⟩ := hf
  exact ⟨_, rfl, fun Q q => ⟨i, r1.1, q⟩⟩
abbrev fLt := fCmp fun i j => decide (i < j)
abbrev fLe := fCmp fun i j => decide (i ≤ j)
abbrev fGt := fCmp fun i j => decide (j < i)
abbrev fGe := fCmp fun i j => decide (j ≤ i)
theorem o_lt : Op2 G (rI0 fun i j => .bl (decide (i < j))) fLt := op_int0 fun _ _ => rfl
theorem o_le : Op2 G (rI0 fun i j => .bl (decide (i ≤ j))) fLe := op_int0 fun _ _ => rfl
theorem o_gt : Op2 G (rI0 fun i j => .bl (decide (j < i))) fGt := op_int0 fun _ _ => rfl
theorem o_ge : Op2 G (rI0 fun i j => .bl (decide (j ≤ i))) fGe := op_int0 fun _ _ => rfl
end

/-! ### is None -/
def isNon : D → Bool
  | .non => true
  | _ => false
def fIs (x y : D) : Option (Bool × D) := match y with
  | .non => some (true, .bl (isNon x))
  | _ => none
def fIsNot (x y : D) : Option (Bool × D) := match y with
  | .non => some (true, .bl (!isNon x))
  | _ => none
section
variable {G : Gx} {Z H : Hp}
theorem isNon_rep {x : D} {v : V} {F : List Addr} (r : Rep G Z H x v F) : decide (v = .non) = isNon x := by
  cases x with
  | non => rw [r.1]; rfl
  | bl b => rw [r.1]; rfl
  | int b => rw [r.1]; rfl
  | str b => rw [r.1]; rfl
  | box o k ds =>
    obtain ⟨a, _, _, rfl, _⟩ := r
    rfl
theorem o_is : Op2 G (fun x y H Q => y = .non ∧ Q (.bl (decide (x = .non))) H) fIs := op2_sc fun Z H x y v w F1 F2 fr z _ r1 r2 hf => by
  cases y <;> simp only [fIs, reduceCtorEq] at hf
  simp only [Option.some.injEq, Prod.mk.injEq] at hf
  obtain ⟨rfl, rfl⟩ := hf
  exact ⟨_, rfl, fun Q q => ⟨r2.1, by rw [isNon_rep r1]; exact q⟩⟩
theorem o_isnot : Op2 G (fun x y H Q => y = .non ∧ Q (.bl (!decide (x = .non))) H) fIsNot := op2_sc fun Z H x y v w F1 F2 fr z _ r1 r2 hf => by
  cases y <;> simp only [fIsNot, reduceCtorEq] at hf
  simp only [Option.some.injEq, Prod.mk.injEq] at hf
  obtain ⟨rfl, rfl⟩ := hf
  exact ⟨_, rfl, fun Q q => ⟨r2.1, by rw [isNon_rep r1]; exact q⟩⟩
end

/-! ### == and != -/
mutual
def toPy : D → Option PyData
  | .non => some .none
  | .bl b => some (.bool b)
  | .int i => some (.int i)
  | .str s => some (.str s)
  | .box _ .tup ds => (toPyL ds).map .tuple
  | .box _ .lst ds => (toPyL ds).map .list
  | .box _ _ _ => none
def toPyL : List D → Option (List PyData)
  | [] => some []
  | d :: ds => (toPy d).bind fun x => (toPyL ds).map fun xs => x :: xs
end
section
variable {G : Gx} {Z H : Hp}
theorem own_sqL {a : Addr} {vs : List V} {o : HO} (h : HoIs G .lst vs o) (e : H a = some o) : SqL G.K H a vs := by
  obtain rfl : o = .lst vs := h
  exact SqL.of e
/-- a list's items, wherever it stands -/
theorem rep_lst (zh : Ex Z H) {own : Bool} {ds : List D} {v : V} {F : List Addr} (r : Rep G Z H (.box own .lst ds) v F) : ∃ a vs F', v = .ref a ∧ SqL G.K H a vs ∧ RepL G Z H ds vs F' ∧ (own = true → H a = some (.lst vs)) ∧ (own = false → F = [] ∧ F' = [] ∧ SqL G.K Z a vs) ∧ (own = true → F = a :: F') := by
  obtain ⟨a, vs, F', hv, hl, h1, h2⟩ := r
  refine ⟨a, vs, F', hv, ?_, hl, fun q => ?_, fun q => ?_, fun q => (h2 q).1⟩
  · cases own with
    | false => exact ex_l zh (h1 rfl).2.1
    | true =>
      obtain ⟨_, o, p1, p2⟩ := h2 rfl
      exact own_sqL p2 p1
  · obtain ⟨_, o, p1, p2⟩ := h2 q
    obtain rfl : o = .lst vs := p2
    exact p1
  · obtain ⟨p1, p2, p3⟩ := h1 q
    rcases p3 with p3 | p3
    · cases p3
    · exact ⟨by rw [p1, p3], p3, p2⟩
theorem rep_tup (zh : Ex Z H) {own : Bool} {ds : List D} {v : V} {F : List Addr} (r : Rep G Z H (.box own .tup ds) v F) : own = false ∧ ∃ a vs, v = .ref a ∧ SqT G.K Z a vs ∧ RepL G Z H ds vs F := by
  obtain ⟨a, vs, F', hv, hl, h1, h2⟩ := r
  cases own with
  | false => exact ⟨rfl, a, vs, hv, (h1 rfl).2.1, by rw [(h1 rfl).1]; exact hl⟩
  | true =>
    obtain ⟨_, o, p1, p2⟩ := h2 rfl
    exact p2.elim
mutual
theorem rep_dp (zh : Ex Z H) : ∀ {d : D} {v : V} {F : List Addr} {p : PyData}, Rep G Z H d v F → toPy d = some p → Dp G.K H v p
  | .non, _, _, _, r, e => by simp only [toPy, Option.some.injEq] at e; subst e; rw [r.1]; exact .non
  | .bl b, _, _, _, r, e => by simp only [toPy, Option.some.injEq] at e; subst e; rw [r.1]; exact .bl b
  | .int b, _, _, _, r, e => by simp only [toPy, Option.some.injEq] at e; subst e; rw [r.1]; exact .int b
  | .str b, _, _, _, r, e => by simp only [toPy, Option.some.injEq] at e; subst e; rw [r.1]; exact .str b
  | .box own .tup ds, v, F, p, r, e => by
    obtain ⟨_, a, vs, hv, ht, hl⟩ := rep_tup zh r
    cases hp : toPyL ds with
    | none => simp only [toPy, hp, Option.map_none, reduceCtorEq] at e
    | some ps =>
      simp only [toPy, hp, Option.map_some, Option.some.injEq] at e
      subst e
      rw [hv]
      exact .tup (ex_t zh ht) (repL_dp zh hl hp)
  | .box own .lst ds, v, F, p, r, e => by
    obtain ⟨a, vs, F', hv, ht, hl, _⟩ := rep_lst zh r
    cases hp : toPyL ds with
    | none => simp only [toPy, hp, Option.map_none, reduceCtorEq] at e
    | some ps =>
      simp only [toPy, hp, Option.map_some, Option.some.injEq] at e
      subst e
      rw [hv]
      exact .lst ht (repL_dp zh hl hp)
  | .box own (.dic _) ds, v, F, p, r, e => by simp only [toPy, reduceCtorEq] at e
  | .box own (.dkl _) ds, v, F, p, r, e => by simp only [toPy, reduceCtorEq] at e
  | .box own (.dil _) ds, v, F, p, r, e => by simp only [toPy, reduceCtorEq] at e
  | .box own .tps ds, v, F, p, r, e => by simp only [toPy, reduceCtorEq] at e
  | .box own (.dit _) ds, v, F, p, r, e => by simp only [toPy, reduceCtorEq] at e
  | .box own (.obj _ _) ds, v, F, p, r, e => by simp only [toPy, reduceCtorEq] at e
theorem repL_dp (zh : Ex Z H) : ∀ {ds : List D} {vs : List V} {F : List Addr} {ps : List PyData}, RepL G Z H ds vs F → toPyL ds = some ps → DpAll G.K H vs ps
  | [], _, _, _, r, e => by simp only [toPyL, Option.some.injEq] at e; subst e; rw [r.1]; exact .nil
  | d :: ds, vs, F, ps, r, e => by
    obtain ⟨v, vs', F1, F2, e1, e2, h1, h2⟩ := r
    cases hp : toPy d with
    | none => simp only [toPyL, hp, Option.bind_none, reduceCtorEq] at e
    | some p =>
      cases hq : toPyL ds with
      | none => simp only [toPyL, hp, hq, Option.bind_some, Option.map_none, reduceCtorEq] at e
      | some qs =>
        simp only [toPyL, hp, hq, Option.bind_some, Option.map_some, Option.some.injEq] at e
        subst e
        rw [e1]
        exact .cons (rep_dp zh h1 hp) (repL_dp zh h2 hq)
end
end
def eqDeep (x y : D) : Option Bool := match toPy x, toPy y with
  | some p, some q => if (SeqAt.shaped p && SeqAt.shaped q) = true then some (PyData.eqv p q) else none
  | _, _ => none
def eqV' : D → D → Option Bool
  | .int i, .int j => some (decide (i = j))
  | .str i, .str j => some (decide (i = j))
  | .bl i, .bl j => some (decide (i = j))
  | .non, .non => some true
  | x, y => eqDeep x y
def fEq (x y : D) : Option (Bool × D) := (eqV' x y).map fun b => (true, .bl b)
def fNe (x y : D) : Option (Bool × D) := (eqV' x y).map fun b => (true, .bl (!b))
section
variable {G : Gx} {Z H : Hp}
theorem eq_cases {x y : D} {v w : V} {F1 F2 : List Addr} {b : Bool} (zh : Ex Z H) (r1 : Rep G Z H x v F1) (r2 : Rep G Z H y w F2) (h : eqV' x y = some b) :
    (scal v w = true ∧ decide (v = w) = b) ∨ ∃ d e, Dp G.K H v d ∧ Dp G.K H w e ∧ SeqAt.shaped d = true ∧ SeqAt.shaped e = true ∧ PyData.eqv d e = b := by
  have deep : eqDeep x y = some b → ∃ d e, Dp G.K H v d ∧ Dp G.K H w e ∧ SeqAt.shaped d = true ∧ SeqAt.shaped e = true ∧ PyData.eqv d e = b := fun h => by
    unfold eqDeep at h
    cases hp : toPy x with
    | none => simp only [hp, reduceCtorEq] at h
    | some p =>
      cases hq : toPy y with
      | none => simp only [hp, hq, reduceCtorEq] at h
      | some q =>
        simp only [hp, hq] at h
        split at h
        · rename_i hs
          rw [Bool.and_eq_true] at hs
          exact ⟨p, q, rep_dp zh r1 hp, rep_dp zh r2 hq, hs.1, hs.2, Option.some.inj h⟩
        · cases h
  cases x <;> cases y <;> first
    | (simp only [eqV'] at h; exact .inr (deep h))
    | (simp only [eqV', Option.some.injEq] at h; rw [r1.1, r2.1]; refine .inl ⟨rfl, ?_⟩; rw [← h]; first | rfl | simp)
theorem o_eq : Op2 G (fun x y H Q => rEq x y H Q ∨ rEqD G.K x y H Q) fEq := op2_sc fun Z H x y v w F1 F2 fr z zh r1 r2 hf => by
  unfold fEq at hf
  cases hb : eqV' x y with
  | none => rw [hb] at hf; cases hf
  | some b =>
    rw [hb] at hf
    simp only [Option.map_some, Option.some.injEq, Prod.mk.injEq] at hf
    obtain ⟨rfl, rfl⟩ := hf
    refine ⟨_, rfl, fun Q q => ?_⟩
    rcases eq_cases zh r1 r2 hb with ⟨h1, h2⟩ | ⟨d, e, h1, h2, h3, h4, h5⟩
    · exact .inl ⟨h1, by rw [h2]; exact q⟩
    · exact .inr ⟨d, e, h1, h2, h3, h4, by rw [h5]; exact q⟩
theorem o_ne : Op2 G (fun x y H Q => rNe x y H Q ∨ rNeD G.K x y H Q) fNe := op2_sc fun Z H x y v w F1 F2 fr z zh r1 r2 hf => by
  unfold fNe at hf
  cases hb : eqV' x y with
  | none => rw [hb] at hf; cases hf
  | some b =>
    rw [hb] at hf
    simp only [Option.map_some, Option.some.injEq, Prod.mk.injEq] at hf
    obtain ⟨rfl, rfl⟩ := hf
    refine ⟨_, rfl, fun Q q => ?_⟩
    rcases eq_cases zh r1 r2 hb with ⟨h1, h2⟩ | ⟨d, e, h1, h2, h3, h4, h5⟩
    · exact .inl ⟨h1, by rw [h2]; exact q⟩
    · exact .inr ⟨d, e, h1, h2, h3, h4, by rw [h5]; exact q⟩
end
end Dd
/-! Rules for expressions, further: displays, subscripts, slices, built-ins, tests. -/
namespace Dd
open PySem L2

theorem big_le {n : Nat} (h : n ≤ 1000000) : n ≤ sizeLine := Nat.le_trans h (by decide)
theorem big_lt {n : Nat} (h : n < 1000000) : n < sizeLine := Nat.lt_of_lt_of_le h (by decide)
theorem z_none {Z H : Hp} (zh : Ex Z H) {p : Addr} (h : H p = none) : Z p = none := by
  cases q : Z p with
  | none => rfl
  | some o => rw [zh p o q] at h; cases h
theorem upd_new {H : Hp} {p : Addr} {o : HO} (h : H p = none) {a : Addr} {u : HO} (e : H a = some u) : upd H p o a = some u := by
  rw [upd_ne (ne_of_none e h)]; exact e
/-- a new object, frozen at once -/
theorem New.fro {Z H : Hp} {p : Addr} {o : HO} (zh : Ex Z H) (h : H p = none) (ht : ∀ ps, o ≠ .tbl ps := by intro _ z; cases z) : New Z H (upd Z p o) (upd H p o) :=
  ⟨Ex.new (z_none zh h), (Ex.new h).z, fun a u e => by
    by_cases q : a = p
    · subst q; rw [upd_same] at e ⊢; exact e
    · rw [upd_ne q] at e ⊢; exact zh a u e, fun a ha => upd_ne fun q => ha (by rw [q]; exact h), fun q xs e => by
    by_cases z : q = p
    · rw [z, upd_same] at e; right; rw [z, upd_same]; exact e
    · rw [upd_ne z] at e; exact .inl e, fun P ps e => by
    by_cases z : P = p
    · rw [z, upd_same] at e; exact absurd (Option.some.inj e) (ht ps)
    · rw [upd_ne z] at e; exact e⟩
/-- a new object, owned -/
theorem New.own {Z H : Hp} {p : Addr} {o : HO} (zh : Ex Z H) (h : H p = none) (ho : ∀ xs, o ≠ .tup xs := by intro _ z; cases z) : New Z H Z (upd H p o) :=
  ⟨Ex.refl _, (Ex.new h).z, zh.trans (Ex.new h), fun _ _ => rfl, fun q xs e => by
    by_cases z : q = p
    · rw [z, upd_same] at e; exact absurd (Option.some.inj e) (ho xs)
    · rw [upd_ne z] at e; exact .inl e, fun _ _ e => e⟩
/-- no table -/
def noTO : Option HO → Option HO
  | some (.tbl _) => none
  | y => y
theorem noTO_some {x : Option HO} {o : HO} (h : noTO x = some o) : x = some o ∧ ∀ ps, o ≠ .tbl ps := by
  cases x with
  | none => cases h
  | some u => cases u with
    | tbl ps => cases h
    | _ => cases h; exact ⟨rfl, fun _ z => nomatch z⟩
/-- all that is new is frozen -/
theorem New.exf {Z H H2 : Hp} (zh : Ex Z H) (e : Ex H H2) : ∃ Z2, New Z H Z2 H2 := by
  let Z2 : Hp := fun a => match H a with
    | none => noTO (H2 a)
    | some _ => Z a
  have z1 : ∀ a, H a = none → Z2 a = noTO (H2 a) := fun a h => by show (match H a with | none => noTO (H2 a) | some _ => Z a) = _; rw [h]
  have z2 : ∀ a, H a ≠ none → Z2 a = Z a := fun a h => by
    show (match H a with | none => noTO (H2 a) | some _ => Z a) = _
    cases q : H a with
    | none => exact absurd q h
    | some o => rfl
  refine ⟨Z2, fun a o h => ?_, e.z, fun a o h => ?_, z2, fun q xs h => ?_, fun P ps h => ?_⟩
  · rw [z2 a (by rw [zh a o h]; exact Option.some_ne_none o)]; exact h
  · cases q : H a with
    | none => rw [z1 a q] at h; exact (noTO_some h).1
    | some u => rw [z2 a (by rw [q]; exact Option.some_ne_none u)] at h; exact e a o (zh a o h)
  · cases z : H q with
    | none => right; rw [z1 q z, h] <;> rfl
    | some u => left; rw [e q u z] at h; exact h
  · cases z : H P with
    | none => rw [z1 P z] at h; exact absurd rfl ((noTO_some h).2 ps)
    | some u => rw [z2 P (by rw [z]; exact Option.some_ne_none u)] at h; exact h
section
variable {G : Gx} {Z H : Hp}
theorem rep_newT {ds : List D} {vs : List V} {F : List Addr} {p : Addr} (zh : Ex Z H) (h : H p = none) (r : RepL G Z H ds vs F) : Rep G (upd Z p (.tup vs)) (upd H p (.tup vs)) (.box false .tup ds) (.ref p) F :=
  ⟨p, vs, F, rfl, r.mono (Ex.new (z_none zh h)) fun a ha o e _ => upd_new h e, fun _ => ⟨rfl, .inl (.inl upd_same), .inl rfl⟩, fun q => nomatch q⟩
theorem rep_newL {ds : List D} {vs : List V} {F : List Addr} {p : Addr} (zh : Ex Z H) (h : H p = none) (r : RepL G Z H ds vs F) : Rep G Z (upd H p (.lst vs)) (.box true .lst ds) (.ref p) (p :: F) :=
  ⟨p, vs, F, rfl, r.mono (Ex.refl _) fun a ha o e _ => upd_new h e, fun q => (nomatch q), fun _ => ⟨rfl, _, upd_same, rfl⟩⟩
end

/-! ### argument lists -/
def dNil : DA := fun ρ => .ok true [] false ρ
def dCons (m : DE) (r : DA) : DA := fun ρ => match m ρ with
  | .ok f1 x e1 ρ1 => if (f1 || frz x) = true then (match r ρ1 with
    | .ok _ xs e2 ρ2 => .ok true (x :: xs) (e1 || e2) ρ2
    | .ex c ys ρ2 => .ex c ys ρ2
    | .bad => .bad) else .bad
  | .ex c xs ρ1 => .ex c xs ρ1
  | .bad => .bad
section
variable {c : Cc} {X : Cx} {e : Expr} {es : List Expr} {m : DE} {r : DA} {pos : Pos}
theorem a_nil : PA X [] (tA c dNil) := pa_nil.imp fun σ H Q w => by
  obtain ⟨Z, ρ, F, S, w⟩ := w
  exact w Z H F [] [] (PostE.refl S) ⟨rfl, rfl⟩ Fresh.nil
theorem cons_imp {σ : St} {H : Hp} {Q : List V → Hp → Prop} (w : tA c (dCons m r) σ H Q) : tCons (tE c m) (tA c r) σ H Q := by
  obtain ⟨Z, ρ, F, S, w⟩ := w
  show tE c m σ H fun x H1 => tA c r σ H1 fun xs H2 => Q (x :: xs) H2
  cases ha : m ρ with
  | bad => simp only [dCons, ha] at w
  | ex x xs ρ1 =>
    simp only [dCons, ha] at w
    exact tE.ex S ha w
  | ok f1 x e1 ρ1 =>
    simp only [dCons, ha] at w
    by_cases hk : (f1 || frz x) = true
    · rw [if_pos hk] at w
      refine tE.ok S ha fun Z1 H1 F1 v G1 P1 R1 f1h => ?_
      have fr1 : Fresh H F Z1 F1 G1 := by
        cases f1 with
        | true => exact f1h rfl
        | false =>
          have e1 := R1.frz_nil (by simpa using hk)
          subst e1
          exact Fresh.nil
      cases hb : r ρ1 with
      | bad => simp only [hb] at w
      | ex x xs ρ2 =>
        simp only [hb] at w
        exact tA.ex P1.sta hb fun Z2 H2 F2 s2 S2 => w Z2 H2 F2 (P1.st.trans s2) S2
      | ok f2 y e2 ρ2 =>
        simp only [hb] at w
        refine tA.ok P1.sta hb fun Z2 H2 F2 us G2 P2 R2 fr2 => ?_
        have dm : ∀ a ∈ G1, H1 a ≠ none := fun a ha => let ⟨_, h, _⟩ := R1.dom a ha; ne_none h
        refine w Z2 H2 F2 (v :: us) (G1 ++ G2) (P1.trans P2) ⟨v, us, G1, G2, rfl, rfl, R1.mono P2.st.zz fun a ha o e => P2.st.fr a o e (fr1.nf a ha), R2⟩ ?_
        exact (fr1.later dm P2).append (Fresh.earlier P1 fr2) fun a ha q => (fr2.nh a q).elim (fr1.nf a ha) (dm a ha)
    · rw [if_neg hk] at w
      exact w.elim
theorem a_cons (ha : PE X e (tE c m)) (hr : PA X es (tA c r)) (hs : starEach (e :: es) X.env = (false, eval e X.env) :: starEach es X.env := by rfl) : PA X (e :: es) (tA c (dCons m r)) := (pa_cons ha hr hs).imp fun _ _ _ w => cons_imp w
end

/-! ### displays -/
def dBox (own : Bool) (k : Kd) (a : DA) : DE := fun ρ => match a ρ with
  | .ok _ xs e ρ1 => if xs.length ≤ 1000000 then .ok true (.box own k xs) e ρ1 else .bad
  | .ex c xs ρ1 => .ex c xs ρ1
  | .bad => .bad
abbrev dTup := dBox false .tup
abbrev dLst := dBox true .lst
section
variable {c : Cc} {X : Cx} {e : Expr} {es : List Expr} {a : DA} {pos : Pos}
theorem e_tup {x1} (h : PA X es (tA c a)) : PE X (.Tuple es x1 pos) (tE c (dTup a)) := (pe_tup h).imp fun σ H Q w => by
  obtain ⟨Z, ρ, F, S, w⟩ := w
  show tA c a σ H fun xs H1 => xs.length ≤ sizeLine ∧ ∀ p, H1 p = none → Q (.ref p) (upd H1 p (.tup xs))
  cases ha : a ρ with
  | bad => simp only [dBox, ha] at w
  | ex x xs ρ1 =>
    simp only [dBox, ha] at w
    exact tA.ex S ha w
  | ok f1 xs e1 ρ1 =>
    simp only [dBox, ha] at w
    by_cases hl : xs.length ≤ 1000000
    · rw [if_pos hl] at w
      refine tA.ok S ha fun Z1 H1 F1 vs G1 P1 R1 f1h => ⟨by rw [← R1.length]; exact big_le hl, fun p hp => ?_⟩
      have n := New.fro (o := .tup vs) P1.sta.zh hp
      have P := P1.trans (PostE.new P1.sta n)
      rw [Bool.or_false] at P
      refine w _ _ F1 (.ref p) G1 P (rep_newT P1.sta.zh hp R1) fun _ => ⟨f1h.nd, f1h.nh, fun b hb => ?_, f1h.nf⟩
      have dm : H1 b ≠ none := let ⟨_, h, _⟩ := R1.dom b hb; ne_none h
      rw [n.nn b dm]
      exact f1h.nz b hb
    · rw [if_neg hl] at w
      exact w.elim
theorem e_lst (h : PA X es (tA c a)) : PE X (.List es pos) (tE c (dLst a)) := (pe_lst h).imp fun σ H Q w => by
  obtain ⟨Z, ρ, F, S, w⟩ := w
  show tA c a σ H fun xs H1 => xs.length ≤ sizeLine ∧ ∀ p, H1 p = none → Q (.ref p) (upd H1 p (.lst xs))
  cases ha : a ρ with
  | bad => simp only [dBox, ha] at w
  | ex x xs ρ1 =>
    simp only [dBox, ha] at w
    exact tA.ex S ha w
  | ok f1 xs e1 ρ1 =>
    simp only [dBox, ha] at w
    by_cases hl : xs.length ≤ 1000000
    · rw [if_pos hl] at w
      refine tA.ok S ha fun Z1 H1 F1 vs G1 P1 R1 f1h => ⟨by rw [← R1.length]; exact big_le hl, fun p hp => ?_⟩
      have n := New.own (o := .lst vs) P1.sta.zh hp
      have P := P1.trans (PostE.new P1.sta n)
      rw [Bool.or_false] at P
      have dm : ∀ b ∈ G1, H1 b ≠ none := fun b hb => let ⟨_, h, _⟩ := R1.dom b hb; ne_none h
      have fp : Fresh H F Z1 F1 [p] := Fresh.earlier P1 ⟨by simp, fun b hb => .inr (by rw [List.mem_singleton.mp hb]; exact hp), fun b hb => by rw [List.mem_singleton.mp hb]; exact z_none P1.sta.zh hp, fun b hb q => P1.sta.dom q (by rw [List.mem_singleton.mp hb]; exact hp)⟩
      refine w _ _ F1 (.ref p) (p :: G1) P (rep_newL P1.sta.zh hp R1) fun _ => ?_
      exact fp.append f1h fun b hb q => dm b q (by rw [List.mem_singleton.mp hb]; exact hp)
    · rw [if_neg hl] at w
      exact w.elim
end

/-! ### subscripts -/
def fIx : D → D → Option (Bool × D)
  | .box _ .tup ds, .int i => (atI ds i).map fun d => (frz d, d)
  | .box _ .lst ds, .int i => (atI ds i).map fun d => (frz d, d)
  | .str s, .int i => if s.length ≤ 1000000 then (atI s.cps.toList i).map fun c => (true, .str ⟨#[c]⟩) else none
  | _, _ => none
section
variable {G : Gx} {Z H : Hp}
theorem repL_at {ds : List D} {vs : List V} {F : List Addr} {i : Int} {d : D} (r : RepL G Z H ds vs F) (h : atI ds i = some d) : ∃ v F1, atI vs i = some v ∧ Rep G Z H d v F1 := by
  unfold atI at h ⊢
  rw [← r.length]
  cases hj : ixN ds.length i with
  | none => rw [hj] at h; cases h
  | some j =>
    rw [hj] at h
    obtain ⟨v, A, F1, B, g1, g2, g3⟩ := r.get (show ds[j]? = some d from h)
    exact ⟨v, F1, g1, g3⟩
theorem o_ix : Op2 G (rIx G.K) fIx := by
  intro Z H x y v w F1 F2 fr z zh r1 r2 hf Q k
  have fin : ∀ {d : D} {u : V} {Fd : List Addr}, Rep G Z H d u Fd → (frz d, d) = (fr, z) → Q u H := fun {d u Fd} rd e => by
    simp only [Prod.mk.injEq] at e
    obtain ⟨rfl, rfl⟩ := e
    exact k Z H u Fd (New.refl zh) rd fun q => by rw [rd.frz_nil q]; simp
  unfold fIx at hf
  split at hf
  · rename_i own ds i
    cases hd : atI ds i with
    | none => rw [hd] at hf; cases hf
    | some d =>
      rw [hd] at hf
      obtain ⟨_, a, vs, rfl, ht, hl⟩ := rep_tup zh r1
      obtain ⟨u, Fd, g1, g2⟩ := repL_at hl hd
      exact .inr (.inl ⟨a, vs, i, u, rfl, r2.1, ex_t zh ht, g1, fin g2 (Option.some.inj hf)⟩)
  · rename_i own ds i
    cases hd : atI ds i with
    | none => rw [hd] at hf; cases hf
    | some d =>
      rw [hd] at hf
      obtain ⟨a, vs, F', rfl, ht, hl, _⟩ := rep_lst zh r1
      obtain ⟨u, Fd, g1, g2⟩ := repL_at hl hd
      exact .inl ⟨a, vs, i, u, rfl, r2.1, ht, g1, fin g2 (Option.some.inj hf)⟩
  · rename_i s i
    split at hf
    · rename_i hs
      cases hd : atI s.cps.toList i with
      | none => rw [hd] at hf; cases hf
      | some d =>
        rw [hd] at hf
        simp only [Option.map_some, Option.some.injEq, Prod.mk.injEq] at hf
        obtain ⟨rfl, rfl⟩ := hf
        exact .inr (.inr ⟨s, i, d, r1.1, r2.1, big_le hs, hd, k Z H _ [] (New.refl zh) ⟨rfl, rfl⟩ fun _ => ⟨List.nodup_nil, by simp⟩⟩)
    · cases hf
  · cases hf
end

/-! ### slices -/
abbrev DO := Env → Res (Option Int)
def dNo : DO := fun ρ => .ok true none false ρ
def dAt (m : DE) : DO := fun ρ => match m ρ with
  | .ok _ (.int i) e ρ1 => .ok true (some i) e ρ1
  | .ok _ _ _ _ => .bad
  | .ex c xs ρ1 => .ex c xs ρ1
  | .bad => .bad
def tO (c : Cc) (m : DO) : TO := fun σ H Q => ∃ Z ρ F, State c.G c.lk Z H σ ρ F ∧ match m ρ with
  | .ok _ o eff ρ' => ∀ Z' H' F', PostE c Z H σ ρ F eff ρ' Z' H' F' → Q o H'
  | .ex x xs ρ' => ∀ Z' H' F', Step Z H F Z' H' F' → State c.G c.lk Z' H' σ ρ' F' → c.W x xs σ H'
  | .bad => False
theorem _root_.L2.PO.imp {X : Cx} {e : Option Expr} {t u : TO} (h : PO X e t) (k : ∀ σ H Q, u σ H Q → t σ H Q) : PO X e u := ⟨fun pins s σ H Q I w => h.run pins s σ H Q I (k σ H Q w)⟩
def cutG {α : Type} (xs : List α) (lo hi : Option Int) : List α := (xs.drop (HT.sIx xs.length 0 lo)).take (HT.sIx xs.length xs.length hi - HT.sIx xs.length 0 lo)
def fSl : D → Option Int → Option Int → Option (Bool × D)
  | .box _ .tup ds, lo, hi => if frzL ds = true then some (true, .box false .tup (cutG ds lo hi)) else none
  | .box _ .lst ds, lo, hi => if frzL ds = true then some (true, .box true .lst (cutG ds lo hi)) else none
  | _, _, _ => none
def dSl (m : DE) (lo hi : DO) : DE := fun ρ => match m ρ with
  | .ok f1 x e1 ρ1 => (match lo ρ1 with
    | .ok _ l e2 ρ2 => (match hi ρ2 with
      | .ok _ h e3 ρ3 => if (!(e2 || e3) || f1 || frz x) = true then (match fSl x l h with | some (fr, z) => .ok fr z (e1 || (e2 || e3)) ρ3 | none => .bad) else .bad
      | .ex c xs ρ3 => .ex c xs ρ3
      | .bad => .bad)
    | .ex c xs ρ2 => .ex c xs ρ2
    | .bad => .bad)
  | .ex c xs ρ1 => .ex c xs ρ1
  | .bad => .bad
section
variable {c : Cc} {X : Cx} {e : Expr} {lo hi : Option Expr} {m : DE} {ml mh : DO} {pos p2 : Pos}
theorem o_no : PO X none (tO c dNo) := po_none.imp fun σ H Q w => by
  obtain ⟨Z, ρ, F, S, w⟩ := w
  exact w Z H F (PostE.refl S)
theorem o_at (h : PE X e (tE c m)) : PO X (some e) (tO c (dAt m)) := (po_some h).imp fun σ H Q w => by
  obtain ⟨Z, ρ, F, S, w⟩ := w
  show tE c m σ H fun x H1 => ∃ i, x = .int i ∧ Q (some i) H1
  cases ha : m ρ with
  | bad => simp only [dAt, ha] at w
  | ex x xs ρ1 =>
    simp only [dAt, ha] at w
    exact tE.ex S ha w
  | ok f1 x e1 ρ1 =>
    cases x <;> simp only [dAt, ha] at w
    rename_i i
    exact tE.ok S ha fun Z1 H1 F1 v G1 P1 R1 _ => ⟨i, R1.1, w Z1 H1 F1 P1⟩
theorem repL_cut {G : Gx} {Z H : Hp} {ds : List D} {vs : List V} (r : RepL G Z H ds vs []) (lo hi : Option Int) : RepL G Z H (cutG ds lo hi) (cutV vs lo hi) [] := by
  unfold cutG cutV
  rw [r.length]
  exact RepL.take (F := []) _ (RepL.drop _ r rfl) rfl
theorem sl_imp {G : Gx} {Z H : Hp} {x d : D} {v : V} {F : List Addr} {l h : Option Int} {fr : Bool} (zh : Ex Z H) (r : Rep G Z H x v F) (hf : fSl x l h = some (fr, d)) (Q : VK)
    (k : ∀ Z' H' u Gf, New Z H Z' H' → Rep G Z' H' d u Gf → Gf.Nodup ∧ (∀ a ∈ Gf, H a = none ∧ Z' a = none) → Q u H') : rSlL G.K v l h H Q ∨ rSlA G.K v l h H Q := by
  cases x with
  | box own kd ds =>
    cases kd with
    | tup =>
      simp only [fSl] at hf
      split at hf
      · rename_i hz
        simp only [Option.some.injEq, Prod.mk.injEq] at hf
        obtain ⟨rfl, rfl⟩ := hf
        obtain ⟨_, a, vs, rfl, ht, hl⟩ := rep_tup zh r
        have e0 := hl.frz_nil hz
        subst e0
        have hc := repL_cut hl l h
        refine .inr ⟨a, vs, rfl, ex_t zh ht, fun hw => ?_, fun _ p hp => ?_⟩
        · refine k Z H (.ref a) [] (New.refl zh) ⟨a, vs, [], rfl, ?_, fun _ => ⟨rfl, ht, .inl rfl⟩, fun q => nomatch q⟩ ⟨List.nodup_nil, by simp⟩
          have e1 : cutG ds l h = ds := by
            unfold cutG
            rw [hl.length, hw.1, hw.2, List.drop_zero, Nat.sub_zero, ← hl.length, List.take_length]
          rw [e1]
          exact hl
        · exact k _ _ _ [] (New.fro zh hp) (rep_newT zh hp hc) ⟨List.nodup_nil, by simp⟩
      · cases hf
    | lst =>
      simp only [fSl] at hf
      split at hf
      · rename_i hz
        simp only [Option.some.injEq, Prod.mk.injEq] at hf
        obtain ⟨rfl, rfl⟩ := hf
        obtain ⟨a, vs, F', rfl, ht, hl, _⟩ := rep_lst zh r
        have e0 := hl.frz_nil hz
        subst e0
        have hc := repL_cut hl l h
        refine .inl ⟨a, vs, rfl, ht, fun p hp => ?_⟩
        exact k _ _ _ [p] (New.own zh hp) (rep_newL zh hp hc) ⟨by simp, fun b hb => by rw [List.mem_singleton.mp hb]; exact ⟨hp, z_none zh hp⟩⟩
      · cases hf
    | _ => simp only [fSl, reduceCtorEq] at hf
  | _ => simp only [fSl, reduceCtorEq] at hf
theorem e_sl (he : PE X e (tE c m)) (hl : PO X lo (tO c ml)) (hh : PO X hi (tO c mh)) (hK : X.K = c.G.K := by rfl) : PE X (.Subscript e (.Slice lo hi none p2) pos) (tE c (dSl m ml mh)) := (pe_slice (sl_list.or sl_tupA) he hl hh).imp fun σ H Q w => by
  rw [hK]
  obtain ⟨Z, ρ, F, S, w⟩ := w
  show tE c m σ H fun x H1 => tO c ml σ H1 fun l H2 => tO c mh σ H2 fun u H3 => (rSlL c.G.K x l u H3 Q ∨ rSlA c.G.K x l u H3 Q)
  cases ha : m ρ with
  | bad => simp only [dSl, ha] at w
  | ex x xs ρ1 =>
    simp only [dSl, ha] at w
    exact tE.ex S ha w
  | ok f1 x e1 ρ1 =>
    simp only [dSl, ha] at w
    refine tE.ok S ha fun Z1 H1 F1 v G1 P1 R1 f1h => ?_
    cases hb : ml ρ1 with
    | bad => simp only [hb] at w
    | ex x xs ρ2 =>
      simp only [hb] at w
      exact ⟨Z1, ρ1, F1, P1.sta, by rw [hb]; exact fun Z2 H2 F2 s2 S2 => w Z2 H2 F2 (P1.st.trans s2) S2⟩
    | ok f2 l e2 ρ2 =>
      simp only [hb] at w
      refine ⟨Z1, ρ1, F1, P1.sta, ?_⟩
      rw [hb]
      intro Z2 H2 F2 P2
      cases hc : mh ρ2 with
      | bad => simp only [hc] at w
      | ex x xs ρ3 =>
        simp only [hc] at w
        exact ⟨Z2, ρ2, F2, P2.sta, by rw [hc]; exact fun Z3 H3 F3 s3 S3 => w Z3 H3 F3 ((P1.st.trans P2.st).trans s3) S3⟩
      | ok f3 h e3 ρ3 =>
        simp only [hc] at w
        refine ⟨Z2, ρ2, F2, P2.sta, ?_⟩
        rw [hc]
        intro Z3 H3 F3 P3
        by_cases hk : (!(e2 || e3) || f1 || frz x) = true
        · rw [if_pos hk] at w
          cases hf : fSl x l h with
          | none => simp only [hf] at w
          | some p =>
            obtain ⟨fr, z⟩ := p
            simp only [hf] at w
            have P23 := P2.trans P3
            refine sl_imp P3.sta.zh (R1.later f1h P23 hk) hf Q fun Z4 H4 u G4 n4 R4 f4 => ?_
            have P := (P1.trans P23).trans (PostE.new P3.sta n4)
            rw [Bool.or_false] at P
            exact w Z4 H4 F3 u G4 P R4 fun _ => Fresh.earlier (P1.trans P23) (fresh_of f4 fun a ha => P3.sta.dom ha)
        · rw [if_neg hk] at w
          exact w.elim
end

/-! ### built-ins by name -/
section
variable {c : Cc} {X : Cx} {e : Expr} {ma mb : DE}
theorem e_b1 {r : List V → Hp → VK → Prop} {f : D → Option (Bool × D)} (h : PE X e (tCB r (tCons (tE c ma) tNil))) (ho : Op1 c.G (fun x => r [x]) f) : PE X e (tE c (bind1 f ma)) := h.imp fun _ _ _ w => bind1_imp (r := fun x => r [x]) ho w
theorem e_b2 {r : List V → Hp → VK → Prop} {f : D → D → Option (Bool × D)} (h : PE X e (tCB r (tCons (tE c ma) (tCons (tE c mb) tNil)))) (ho : Op2 c.G (fun x y => r [x, y]) f) : PE X e (tE c (bind2 f ma mb)) := h.imp fun _ _ _ w => bind2_imp (r := fun x y => r [x, y]) ho w
end
def lenD : D → Option Nat
  | .box _ .tup ds => some ds.length
  | .box _ .lst ds => some ds.length
  | .str s => if s.length ≤ 1000000 then some s.length else none
  | _ => none
def fLen (x : D) : Option (Bool × D) := (lenD x).map fun (n : Nat) => (true, D.int (n : Int))
def fInt1 : D → Option (Bool × D)
  | .int i => some (true, .int i)
  | .bl b => some (true, .int (if b then 1 else 0))
  | _ => none
def fMax2 : D → D → Option (Bool × D) := fInt (fun _ _ => true) fun i j => .int (if j > i then j else i)
def fMin2 : D → D → Option (Bool × D) := fInt (fun _ _ => true) fun i j => .int (if j < i then j else i)
def fAbs : D → Option (Bool × D)
  | .int i => some (true, .int (if i < 0 then -i else i))
  | _ => none
/-- tuple(x), list(x) -/
def fTupOf : D → Option (Bool × D)
  | .box _ .tup ds => if frzL ds = true then some (true, .box false .tup ds) else none
  | .box _ .lst ds => if frzL ds = true then some (true, .box false .tup ds) else none
  | _ => none
def fLstOf : D → Option (Bool × D)
  | .box _ .tup ds => if frzL ds = true then some (true, .box true .lst ds) else none
  | .box _ .lst ds => if frzL ds = true then some (true, .box true .lst ds) else none
  | _ => none
section
variable {G : Gx}
theorem o_len : Op1 G (fun x H Q => ∃ y n, [x] = [y] ∧ LenV G.K y H n ∧ Q (.int n) H) fLen := op1_sc fun Z H x v F1 fr z zh r1 hf => by
  unfold fLen at hf
  cases hb : lenD x with
  | none => rw [hb] at hf; cases hf
  | some n =>
    rw [hb] at hf
    simp only [Option.map_some, Option.some.injEq, Prod.mk.injEq] at hf
    obtain ⟨rfl, rfl⟩ := hf
    refine ⟨_, rfl, fun Q q => ⟨v, n, rfl, ?_, q⟩⟩
    unfold lenD at hb
    split at hb
    · obtain ⟨_, a, vs, rfl, ht, hl⟩ := rep_tup zh r1
      exact .inr ⟨vs, ex_t zh ht, by rw [← hl.length]; exact (Option.some.inj hb).symm⟩
    · obtain ⟨a, vs, F', rfl, ht, hl, _⟩ := rep_lst zh r1
      exact .inl ⟨vs, ht, by rw [← hl.length]; exact (Option.some.inj hb).symm⟩
    · split at hb
      · rename_i hs
        rw [r1.1]
        exact ⟨big_le hs, (Option.some.inj hb).symm⟩
      · cases hb
    · cases hb
theorem o_int1 : Op1 G (fun x H Q => (∃ i, [x] = [.int i] ∧ Q (.int i) H) ∨ ∃ k, [x] = [.bl k] ∧ Q (.int (if k then 1 else 0)) H) fInt1 := op1_sc fun Z H x v F1 fr z zh r1 hf => by
  cases x <;> simp only [fInt1, reduceCtorEq] at hf <;> simp only [Option.some.injEq, Prod.mk.injEq] at hf <;> obtain ⟨rfl, rfl⟩ := hf
  · exact ⟨_, rfl, fun Q q => .inr ⟨_, by rw [r1.1], q⟩⟩
  · exact ⟨_, rfl, fun Q q => .inl ⟨_, by rw [r1.1], q⟩⟩
theorem o_max2 : Op2 G (fun x y H Q => ∃ i j, [x, y] = [.int i, .int j] ∧ Q (.int (if j > i then j else i)) H) fMax2 := op2_sc fun Z H x y v w F1 F2 fr z _ r1 r2 hf => by
  cases x <;> cases y <;> simp only [fMax2, fInt, reduceCtorEq, if_true] at hf
  simp only [Option.some.injEq, Prod.mk.injEq] at hf
  obtain ⟨rfl, rfl⟩ := hf
  exact ⟨_, rfl, fun Q q => ⟨_, _, by rw [r1.1, r2.1], q⟩⟩
theorem o_min2 : Op2 G (fun x y H Q => ∃ i j, [x, y] = [.int i, .int j] ∧ Q (.int (if j < i then j else i)) H) fMin2 := op2_sc fun Z H x y v w F1 F2 fr z _ r1 r2 hf => by
  cases x <;> cases y <;> simp only [fMin2, fInt, reduceCtorEq, if_true] at hf
  simp only [Option.some.injEq, Prod.mk.injEq] at hf
  obtain ⟨rfl, rfl⟩ := hf
  exact ⟨_, rfl, fun Q q => ⟨_, _, by rw [r1.1, r2.1], q⟩⟩
theorem o_abs : Op1 G (fun x H Q => ∃ i, [x] = [.int i] ∧ Q (.int (if i < 0 then -i else i)) H) fAbs := op1_sc fun Z H x v F1 fr z zh r1 hf => by
  cases x <;> simp only [fAbs, reduceCtorEq] at hf
  simp only [Option.some.injEq, Prod.mk.injEq] at hf
  obtain ⟨rfl, rfl⟩ := hf
  exact ⟨_, rfl, fun Q q => ⟨_, by rw [r1.1], q⟩⟩
theorem rep_seq {Z H : Hp} {own : Bool} {k : Kd} {ds : List D} {v : V} {F : List Addr} (zh : Ex Z H) (hk : k = .tup ∨ k = .lst) (r : Rep G Z H (.box own k ds) v F) (hz : frzL ds = true) : ∃ a vs, v = .ref a ∧ (SqL G.K H a vs ∨ SqT G.K H a vs) ∧ (k = .tup → SqT G.K Z a vs) ∧ (k = .lst → SqL G.K H a vs) ∧ RepL G Z H ds vs [] := by
  rcases hk with rfl | rfl
  · obtain ⟨_, a, vs, rfl, ht, hl⟩ := rep_tup zh r
    have e0 := hl.frz_nil hz
    subst e0
    exact ⟨a, vs, rfl, .inr (ex_t zh ht), fun _ => ht, fun q => (nomatch q), hl⟩
  · obtain ⟨a, vs, F', rfl, ht, hl, _⟩ := rep_lst zh r
    have e0 := hl.frz_nil hz
    subst e0
    exact ⟨a, vs, rfl, .inl ht, fun q => (nomatch q), fun _ => ht, hl⟩
theorem o_lstOf : Op1 G (fun x H Q => ∃ p ys, [x] = [.ref p] ∧ (SqL G.K H p ys ∨ SqT G.K H p ys) ∧ ∀ l, H l = none → Q (.ref l) (upd H l (.lst ys))) fLstOf := by
  intro Z H x v F1 fr z zh r1 hf Q k
  unfold fLstOf at hf
  have fin : ∀ {own : Bool} {kd : Kd} {ds : List D}, (kd = .tup ∨ kd = .lst) → Rep G Z H (.box own kd ds) v F1 → (if frzL ds = true then some (true, D.box true .lst ds) else none) = some (fr, z) → ∃ p ys, [v] = [.ref p] ∧ (SqL G.K H p ys ∨ SqT G.K H p ys) ∧ ∀ l, H l = none → Q (.ref l) (upd H l (.lst ys)) := fun {own kd ds} hk r hf => by
    split at hf
    · rename_i hz
      simp only [Option.some.injEq, Prod.mk.injEq] at hf
      obtain ⟨rfl, rfl⟩ := hf
      obtain ⟨a, vs, rfl, hs, _, _, hl⟩ := rep_seq zh hk r hz
      exact ⟨a, vs, rfl, hs, fun l hp => k _ _ _ [l] (New.own zh hp) (rep_newL zh hp hl) fun _ => ⟨by simp, fun b hb => by rw [List.mem_singleton.mp hb]; exact ⟨hp, z_none zh hp⟩⟩⟩
    · cases hf
  split at hf
  · exact fin (.inl rfl) r1 hf
  · exact fin (.inr rfl) r1 hf
  · cases hf
theorem o_tupOf : Op1 G (fun x H Q => ∃ p ys, [x] = [.ref p] ∧ ((SqL G.K H p ys ∧ ∀ l, H l = none → Q (.ref l) (upd H l (.tup ys))) ∨ (SqT G.K H p ys ∧ Q (.ref p) H))) fTupOf := by
  intro Z H x v F1 fr z zh r1 hf Q k
  unfold fTupOf at hf
  split at hf
  · split at hf
    · rename_i own ds hz
      simp only [Option.some.injEq, Prod.mk.injEq] at hf
      obtain ⟨rfl, rfl⟩ := hf
      obtain ⟨a, vs, rfl, hs, ht, _, hl⟩ := rep_seq zh (.inl rfl) r1 hz
      exact ⟨a, vs, rfl, .inr ⟨ex_t zh (ht rfl), k Z H (.ref a) [] (New.refl zh) ⟨a, vs, [], rfl, hl, fun _ => ⟨rfl, ht rfl, .inl rfl⟩, fun q => nomatch q⟩ fun _ => ⟨List.nodup_nil, by simp⟩⟩⟩
    · cases hf
  · split at hf
    · rename_i own ds hz
      simp only [Option.some.injEq, Prod.mk.injEq] at hf
      obtain ⟨rfl, rfl⟩ := hf
      obtain ⟨a, vs, rfl, hs, _, ht, hl⟩ := rep_seq zh (.inr rfl) r1 hz
      exact ⟨a, vs, rfl, .inl ⟨ht rfl, fun l hp => k _ _ _ [] (New.fro zh hp) (rep_newT zh hp hl) fun _ => ⟨List.nodup_nil, by simp⟩⟩⟩
    · cases hf
  · cases hf
end

/-! ### isinstance of built-in types -/
inductive Ty where
  | non | bool | int | str | tup | lst | dict
def Ty.nm : Ty → String
  | .non => "NoneType" | .bool => "bool" | .int => "int" | .str => "str" | .tup => "tuple" | .lst => "list" | .dict => "dict"
def isi : Ty → Ty → Bool
  | .non, .non => true | .bool, .bool => true | .bool, .int => true | .int, .int => true | .str, .str => true | .tup, .tup => true | .lst, .lst => true | .dict, .dict => true
  | _, _ => false
theorem isi_kit : ∀ a b : Ty, kitB a.nm b.nm = some (isi a b) := by
  intro a b
  cases a <;> cases b <;> decide +kernel
def tyD : D → Option Ty
  | .non => some .non | .bl _ => some .bool | .int _ => some .int | .str _ => some .str
  | .box _ .tup _ => some .tup | .box _ .lst _ => some .lst
  | _ => none
def fIsi (n : Ty) (x : D) : Option (Bool × D) := (tyD x).map fun t => (true, .bl (isi t n))
section
variable {G : Gx} {Z H : Hp}
theorem ty_sqT {a : Addr} {vs : List V} (h : SqT G.K H a vs) : TyX G.K H (.ref a) (.type "tuple") := by
  rcases h with (h | ⟨o, h⟩) | ⟨o, its, n, h1, h2, _⟩
  · exact .base (.tup h)
  · exact .fTuple h
  · exact .kTuple h1 h2
theorem ty_sqL {a : Addr} {vs : List V} (h : SqL G.K H a vs) : TyX G.K H (.ref a) (.type "list") := by
  rcases h with (h | ⟨o, h⟩) | ⟨o, its, n, h1, h2, _⟩
  · exact .base (.lst h)
  · exact .base (.frz h)
  · exact .kList h1 h2
theorem tyD_rep (zh : Ex Z H) {x : D} {v : V} {F : List Addr} {t : Ty} (r : Rep G Z H x v F) (h : tyD x = some t) : TyX G.K H v (.type t.nm) := by
  unfold tyD at h
  split at h <;> simp only [Option.some.injEq, reduceCtorEq] at h <;> subst h
  · rw [r.1]; exact .base .non
  · rw [r.1]; exact .base (.bl _)
  · rw [r.1]; exact .base (.int _)
  · rw [r.1]; exact .base (.str _)
  · obtain ⟨_, a, vs, rfl, ht, hl⟩ := rep_tup zh r
    exact ty_sqT (ex_t zh ht)
  · obtain ⟨a, vs, F', rfl, ht, hl, _⟩ := rep_lst zh r
    exact ty_sqL ht
theorem o_isi (n : Ty) : Op1 G (fun x H Q => rIsi G.K [x, .ty n.nm] H Q) (fIsi n) := op1_sc fun Z H x v F1 fr z zh r1 hf => by
  unfold fIsi at hf
  cases hb : tyD x with
  | none => rw [hb] at hf; cases hf
  | some t =>
    rw [hb] at hf
    simp only [Option.map_some, Option.some.injEq, Prod.mk.injEq] at hf
    obtain ⟨rfl, rfl⟩ := hf
    exact ⟨_, rfl, fun Q q => ⟨v, .ty n.nm, .type t.nm, .type n.nm, isi t n, rfl, .ty _, tyD_rep zh r1 hb, kit_ty (isi_kit t n), q⟩⟩
end
section
variable {c : Cc} {X : Cx} {e : Expr} {ma : DE}
/-- isinstance(x, T) -/
theorem e_isi (n : Ty) (h : PE X e (tCB (rIsi c.G.K) (tCons (tE c ma) (tCons (tC (.ty n.nm)) tNil)))) : PE X e (tE c (bind1 (fIsi n) ma)) := h.imp fun _ _ _ w => bind1_imp (r := fun x H Q => rIsi c.G.K [x, .ty n.nm] H Q) (o_isi n) w
end

/-! ### tests -/
def truthD : D → Option Bool
  | .non => some false
  | .bl b => some b
  | .int i => some (i != 0)
  | .str s => if s.length ≤ 1000000 then some ((s.length : Int) != 0) else none
  | .box _ .tup ds => some (!ds.isEmpty)
  | .box _ .lst ds => some (!ds.isEmpty)
  | _ => none
def dT (m : DE) : DT := fun ρ => match m ρ with
  | .ok _ x e ρ1 => (match truthD x with | some b => .ok true b e ρ1 | none => .bad)
  | .ex c xs ρ1 => .ex c xs ρ1
  | .bad => .bad
def dAnd (a b : DT) : DT := fun ρ => match a ρ with
  | .ok _ x e ρ1 => if x = true then (match b ρ1 with
    | .ok _ y e2 ρ2 => .ok true y (e || e2) ρ2
    | .ex c xs ρ2 => .ex c xs ρ2
    | .bad => .bad) else .ok true false e ρ1
  | .ex c xs ρ1 => .ex c xs ρ1
  | .bad => .bad
def dOr (a b : DT) : DT := fun ρ => match a ρ with
  | .ok _ x e ρ1 => if x = true then .ok true true e ρ1 else (match b ρ1 with
    | .ok _ y e2 ρ2 => .ok true y (e || e2) ρ2
    | .ex c xs ρ2 => .ex c xs ρ2
    | .bad => .bad)
  | .ex c xs ρ1 => .ex c xs ρ1
  | .bad => .bad
def dNot (a : DT) : DT := fun ρ => match a ρ with
  | .ok _ x e ρ1 => .ok true (!x) e ρ1
  | .ex c xs ρ1 => .ex c xs ρ1
  | .bad => .bad
theorem isEmpty_repL {G : Gx} {Z H : Hp} {ds : List D} {vs : List V} {F : List Addr} (r : RepL G Z H ds vs F) : (!ds.isEmpty) = !vs.isEmpty := by
  cases ds with
  | nil => rw [r.1]; rfl
  | cons d ds =>
    obtain ⟨v, vs', F1, F2, e1, _⟩ := r
    rw [e1]; rfl
theorem truth_rep {G : Gx} {Z H : Hp} (zh : Ex Z H) {x : D} {v : V} {F : List Addr} {b : Bool} (r : Rep G Z H x v F) (h : truthD x = some b) : TruV G.K v H b := by
  unfold truthD at h
  split at h
  · rw [r.1]; exact (Option.some.inj h).symm
  · rw [r.1]; exact (Option.some.inj h).symm
  · rw [r.1]; exact (Option.some.inj h).symm
  · split at h
    · rename_i hs
      rw [r.1]; exact ⟨big_le hs, (Option.some.inj h).symm⟩
    · cases h
  · obtain ⟨_, a, vs, rfl, ht, hl⟩ := rep_tup zh r
    exact .inr (.inl ⟨vs, ex_t zh ht, by rw [← isEmpty_repL hl]; exact (Option.some.inj h).symm⟩)
  · obtain ⟨a, vs, F', rfl, ht, hl, _⟩ := rep_lst zh r
    exact .inl ⟨vs, ht, by rw [← isEmpty_repL hl]; exact (Option.some.inj h).symm⟩
  · cases h
section
variable {c : Cc} {X : Cx} {a b : Expr} {rest : List Expr} {m mb : DE} {ta tb : DT} {pos : Pos}
theorem t_any (h : PE X a (tE c m)) (he : ∀ whole, isTrue a X.env whole = (do let v ← whole; standAt a.pos; holding [v] (truthy v)) := by intro _; rfl) (hK : X.K = c.G.K := by rfl) : PT X a (tT c (dT m)) := (pt_truth h he).imp fun σ H Q w => by
  rw [hK]
  obtain ⟨Z, ρ, F, S, w⟩ := w
  cases ha : m ρ with
  | bad => simp only [dT, ha] at w
  | ex x xs ρ1 =>
    simp only [dT, ha] at w
    exact tE.ex S ha w
  | ok f1 x e1 ρ1 =>
    simp only [dT, ha] at w
    refine tE.ok S ha fun Z1 H1 F1 v G1 P1 R1 _ => ?_
    cases hb : truthD x with
    | none => simp only [hb] at w
    | some k =>
      simp only [hb] at w
      exact ⟨k, truth_rep P1.sta.zh R1 hb, w Z1 H1 F1 P1⟩
theorem tTest_imp {m : DE} {t : TE} {σ : St} {H : Hp} {Q : Bool → Hp → Prop} (h : ∀ Q : VK, tE c m σ H Q → t σ H Q) (w : tT c (dT m) σ H Q) (hb : ∀ ρ fr d eff ρ', m ρ = .ok fr d eff ρ' → ∃ b, d = .bl b) : tTest t σ H Q := by
  refine h _ ?_
  obtain ⟨Z, ρ, F, S, w⟩ := w
  cases ha : m ρ with
  | bad => simp only [dT, ha] at w
  | ex x xs ρ1 =>
    simp only [dT, ha] at w
    exact tE.ex S ha w
  | ok f1 x e1 ρ1 =>
    obtain ⟨b, rfl⟩ := hb _ _ _ _ _ ha
    simp only [dT, ha, truthD] at w
    exact tE.ok S ha fun Z1 H1 F1 v G1 P1 R1 _ => ⟨b, R1.1, w Z1 H1 F1 P1⟩
/-- an operation by values that gives truth values -/
def BlF (f : D → D → Option (Bool × D)) : Prop := ∀ x y fr d, f x y = some (fr, d) → ∃ b, d = .bl b
theorem bind2_bl {f : D → D → Option (Bool × D)} {ma mb : DE} (hf : BlF f) : ∀ ρ fr d eff ρ', bind2 f ma mb ρ = .ok fr d eff ρ' → ∃ b, d = .bl b := by
  intro ρ fr d eff ρ' h
  unfold bind2 at h
  split at h
  · split at h
    · split at h
      · split at h
        · rename_i e
          simp only [Res.ok.injEq] at h
          obtain ⟨rfl, rfl, _⟩ := h
          exact hf _ _ _ _ e
        · cases h
      · cases h
    · cases h
    · cases h
  · cases h
  · cases h
theorem t_cmp {op : CmpOp} {r : R2} {f : D → D → Option (Bool × D)} {ma mb : DE} (hr : OpR X (compareOp op) r) (ho : Op2 c.G r f) (hf : BlF f) (ha : PE X a (tE c ma)) (hb : PE X b (tE c mb)) (hm : behindInMarks op b = false) : PT X (.Compare a [op] [b] pos) (tT c (dT (bind2 f ma mb))) :=
  (pt_cmpR hr ha hb hm).imp fun σ H Q w => tTest_imp (fun Q w => bind2_imp ho w) w (bind2_bl hf)
theorem t_not (h : PT X a (tT c ta)) : PT X (.UnaryOp .Not a pos) (tT c (dNot ta)) := (pt_not h).imp fun σ H Q w => by
  obtain ⟨Z, ρ, F, S, w⟩ := w
  show tT c ta σ H fun b H1 => Q (!b) H1
  cases ha : ta ρ with
  | bad => simp only [dNot, ha] at w
  | ex x xs ρ1 =>
    simp only [dNot, ha] at w
    exact tT.ex S ha w
  | ok f1 x e1 ρ1 =>
    simp only [dNot, ha] at w
    exact tT.ok S ha w
theorem and_imp {σ : St} {H : Hp} {Q : Bool → Hp → Prop} (w : tT c (dAnd ta tb) σ H Q) : tAnd (tT c ta) (tT c tb) σ H Q := by
  obtain ⟨Z, ρ, F, S, w⟩ := w
  show tT c ta σ H fun b H1 => if b = true then tT c tb σ H1 Q else Q false H1
  cases ha : ta ρ with
  | bad => simp only [dAnd, ha] at w
  | ex x xs ρ1 =>
    simp only [dAnd, ha] at w
    exact tT.ex S ha w
  | ok f1 x e1 ρ1 =>
    simp only [dAnd, ha] at w
    refine tT.ok S ha fun Z1 H1 F1 P1 => ?_
    cases x with
    | false =>
      rw [if_neg Bool.false_ne_true] at w ⊢
      exact w Z1 H1 F1 P1
    | true =>
      rw [if_pos rfl] at w ⊢
      cases hb : tb ρ1 with
      | bad => simp only [hb] at w
      | ex x xs ρ2 =>
        simp only [hb] at w
        exact tT.ex P1.sta hb fun Z2 H2 F2 s2 S2 => w Z2 H2 F2 (P1.st.trans s2) S2
      | ok f2 y e2 ρ2 =>
        simp only [hb] at w
        exact tT.ok P1.sta hb fun Z2 H2 F2 P2 => w Z2 H2 F2 (P1.trans P2)
theorem or_imp {σ : St} {H : Hp} {Q : Bool → Hp → Prop} (w : tT c (dOr ta tb) σ H Q) : tOr (tT c ta) (tT c tb) σ H Q := by
  obtain ⟨Z, ρ, F, S, w⟩ := w
  show tT c ta σ H fun b H1 => if b = true then Q true H1 else tT c tb σ H1 Q
  cases ha : ta ρ with
  | bad => simp only [dOr, ha] at w
  | ex x xs ρ1 =>
    simp only [dOr, ha] at w
    exact tT.ex S ha w
  | ok f1 x e1 ρ1 =>
    simp only [dOr, ha] at w
    refine tT.ok S ha fun Z1 H1 F1 P1 => ?_
    cases x with
    | true =>
      rw [if_pos rfl] at w ⊢
      exact w Z1 H1 F1 P1
    | false =>
      rw [if_neg Bool.false_ne_true] at w ⊢
      cases hb : tb ρ1 with
      | bad => simp only [hb] at w
      | ex x xs ρ2 =>
        simp only [hb] at w
        exact tT.ex P1.sta hb fun Z2 H2 F2 s2 S2 => w Z2 H2 F2 (P1.st.trans s2) S2
      | ok f2 y e2 ρ2 =>
        simp only [hb] at w
        exact tT.ok P1.sta hb fun Z2 H2 F2 P2 => w Z2 H2 F2 (P1.trans P2)
theorem w_and1 (h : PT X a (tT c ta)) : PW X (.BoolOp .And [a] pos) (tT c ta) := pw_and1 h
theorem w_or1 (h : PT X a (tT c ta)) : PW X (.BoolOp .Or [a] pos) (tT c ta) := pw_or1 h
theorem w_and (ha : PT X a (tT c ta)) (hb : PW X (.BoolOp .And (b :: rest) pos) (tT c tb)) : PW X (.BoolOp .And (a :: b :: rest) pos) (tT c (dAnd ta tb)) := (pw_and ha hb).imp fun _ _ _ w => and_imp w
theorem w_or (ha : PT X a (tT c ta)) (hb : PW X (.BoolOp .Or (b :: rest) pos) (tT c tb)) : PW X (.BoolOp .Or (a :: b :: rest) pos) (tT c (dOr ta tb)) := (pw_or ha hb).imp fun _ _ _ w => or_imp w
/-! ### tests as values (all but the last are truth values) -/
def dAndV (a b : DE) : DE := fun ρ => match a ρ with
  | .ok _ (.bl true) e ρ1 => (match b ρ1 with
    | .ok f y e2 ρ2 => .ok f y (e || e2) ρ2
    | .ex c xs ρ2 => .ex c xs ρ2
    | .bad => .bad)
  | .ok _ (.bl false) e ρ1 => .ok true (.bl false) e ρ1
  | .ok _ _ _ _ => .bad
  | .ex c xs ρ1 => .ex c xs ρ1
  | .bad => .bad
def dOrV (a b : DE) : DE := fun ρ => match a ρ with
  | .ok _ (.bl false) e ρ1 => (match b ρ1 with
    | .ok f y e2 ρ2 => .ok f y (e || e2) ρ2
    | .ex c xs ρ2 => .ex c xs ρ2
    | .bad => .bad)
  | .ok _ (.bl true) e ρ1 => .ok true (.bl true) e ρ1
  | .ok _ _ _ _ => .bad
  | .ex c xs ρ1 => .ex c xs ρ1
  | .bad => .bad
def dNotV (a : DE) : DE := fun ρ => match a ρ with
  | .ok _ (.bl b) e ρ1 => .ok true (.bl (!b)) e ρ1
  | .ok _ _ _ _ => .bad
  | .ex c xs ρ1 => .ex c xs ρ1
  | .bad => .bad
theorem e_one {op} (h : PE X a (tE c m)) : PE X (.BoolOp op [a] pos) (tE c m) := pe_one h
theorem andV_imp {σ : St} {H : Hp} {Q : VK} (w : tE c (dAndV m mb) σ H Q) : tAndV (tE c m) (tE c mb) σ H Q := by
  obtain ⟨Z, ρ, F, S, w⟩ := w
  show tE c m σ H fun x H1 => ∃ k, x = .bl k ∧ if k = true then tE c mb σ H1 Q else Q (.bl false) H1
  cases ha : m ρ with
  | bad => simp only [dAndV, ha] at w
  | ex x xs ρ1 =>
    simp only [dAndV, ha] at w
    exact tE.ex S ha w
  | ok f1 x e1 ρ1 =>
    cases x with
    | bl k =>
      refine tE.ok S ha fun Z1 H1 F1 v G1 P1 R1 _ => ⟨k, R1.1, ?_⟩
      cases k with
      | false =>
        simp only [dAndV, ha] at w
        rw [if_neg Bool.false_ne_true]
        exact w Z1 H1 F1 _ [] P1 ⟨rfl, rfl⟩ fun _ => Fresh.nil
      | true =>
        simp only [dAndV, ha] at w
        rw [if_pos rfl]
        cases hb : mb ρ1 with
        | bad => simp only [hb] at w
        | ex x xs ρ2 =>
          simp only [hb] at w
          exact tE.ex P1.sta hb fun Z2 H2 F2 s2 S2 => w Z2 H2 F2 (P1.st.trans s2) S2
        | ok f2 y e2 ρ2 =>
          simp only [hb] at w
          exact tE.ok P1.sta hb fun Z2 H2 F2 u G2 P2 R2 f2h => w Z2 H2 F2 u G2 (P1.trans P2) R2 fun q => Fresh.earlier P1 (f2h q)
    | _ => simp only [dAndV, ha] at w
theorem orV_imp {σ : St} {H : Hp} {Q : VK} (w : tE c (dOrV m mb) σ H Q) : tOrV (tE c m) (tE c mb) σ H Q := by
  obtain ⟨Z, ρ, F, S, w⟩ := w
  show tE c m σ H fun x H1 => ∃ k, x = .bl k ∧ if k = true then Q (.bl true) H1 else tE c mb σ H1 Q
  cases ha : m ρ with
  | bad => simp only [dOrV, ha] at w
  | ex x xs ρ1 =>
    simp only [dOrV, ha] at w
    exact tE.ex S ha w
  | ok f1 x e1 ρ1 =>
    cases x with
    | bl k =>
      refine tE.ok S ha fun Z1 H1 F1 v G1 P1 R1 _ => ⟨k, R1.1, ?_⟩
      cases k with
      | true =>
        simp only [dOrV, ha] at w
        rw [if_pos rfl]
        exact w Z1 H1 F1 _ [] P1 ⟨rfl, rfl⟩ fun _ => Fresh.nil
      | false =>
        simp only [dOrV, ha] at w
        rw [if_neg Bool.false_ne_true]
        cases hb : mb ρ1 with
        | bad => simp only [hb] at w
        | ex x xs ρ2 =>
          simp only [hb] at w
          exact tE.ex P1.sta hb fun Z2 H2 F2 s2 S2 => w Z2 H2 F2 (P1.st.trans s2) S2
        | ok f2 y e2 ρ2 =>
          simp only [hb] at w
          exact tE.ok P1.sta hb fun Z2 H2 F2 u G2 P2 R2 f2h => w Z2 H2 F2 u G2 (P1.trans P2) R2 fun q => Fresh.earlier P1 (f2h q)
    | _ => simp only [dOrV, ha] at w
theorem e_and (ha : PE X a (tE c m)) (hb : PE X (.BoolOp .And (b :: rest) pos) (tE c mb)) : PE X (.BoolOp .And (a :: b :: rest) pos) (tE c (dAndV m mb)) := (pe_and ha hb).imp fun _ _ _ w => andV_imp w
theorem e_or (ha : PE X a (tE c m)) (hb : PE X (.BoolOp .Or (b :: rest) pos) (tE c mb)) : PE X (.BoolOp .Or (a :: b :: rest) pos) (tE c (dOrV m mb)) := (pe_or ha hb).imp fun _ _ _ w => orV_imp w
theorem e_not (ha : PE X a (tE c m)) : PE X (.UnaryOp .Not a pos) (tE c (dNotV m)) := (pe_not ha).imp fun σ H Q w => by
  obtain ⟨Z, ρ, F, S, w⟩ := w
  show tE c m σ H fun x H1 => ∃ k, x = .bl k ∧ Q (.bl (!k)) H1
  cases ha : m ρ with
  | bad => simp only [dNotV, ha] at w
  | ex x xs ρ1 =>
    simp only [dNotV, ha] at w
    exact tE.ex S ha w
  | ok f1 x e1 ρ1 =>
    cases x with
    | bl k =>
      simp only [dNotV, ha] at w
      exact tE.ok S ha fun Z1 H1 F1 v G1 P1 R1 _ => ⟨k, R1.1, w Z1 H1 F1 _ [] P1 ⟨rfl, rfl⟩ fun _ => Fresh.nil⟩
    | _ => simp only [dNotV, ha] at w
end
end Dd
/-! Calls of defs, statements, a def's promise. -/
namespace Dd
open PySem L2

/-! ### chains of comparisons -/
def dChain (f g : D → D → Option (Bool × D)) (a b k : DE) : DE := fun ρ => match a ρ with
  | .ok f1 x e1 ρ1 => (match b ρ1 with
    | .ok f2 y e2 ρ2 => if (!e2 || f1 || frz x) = true then (match f x y with
      | some (_, .bl true) => (match k ρ2 with
        | .ok f3 z e3 ρ3 => if (!e3 || f2 || frz y) = true then (match g y z with | some (fr, d) => .ok fr d ((e1 || e2) || e3) ρ3 | none => .bad) else .bad
        | .ex c xs ρ3 => .ex c xs ρ3
        | .bad => .bad)
      | some (_, .bl false) => .ok true (.bl false) (e1 || e2) ρ2
      | _ => .bad) else .bad
    | .ex c xs ρ2 => .ex c xs ρ2
    | .bad => .bad)
  | .ex c xs ρ1 => .ex c xs ρ1
  | .bad => .bad
/-- an operation by values that gives truth values and makes nothing -/
def OpB (G : Gx) (r : R2) (f : D → D → Option (Bool × D)) : Prop := ∀ (Z H : Hp) (x y : D) (v w : V) (F1 F2 : List Addr) (fr : Bool) (z : D), Ex Z H → Rep G Z H x v F1 → Rep G Z H y w F2 → f x y = some (fr, z) → ∃ b, z = .bl b ∧ ∀ Q : VK, Q (.bl b) H → r v w H Q
theorem b_int {G : Gx} (p : Int → Int → Bool) : OpB G (rI0 fun i j => .bl (p i j)) (fCmp p) := fun Z H x y v w F1 F2 fr z _ r1 r2 hf => by
  cases x <;> cases y <;> simp only [fCmp, fInt, reduceCtorEq, if_true] at hf
  rename_i i j
  simp only [Option.some.injEq, Prod.mk.injEq] at hf
  obtain ⟨rfl, rfl⟩ := hf
  exact ⟨_, rfl, fun Q q => ⟨i, j, r1.1, r2.1, q⟩⟩
theorem chain_imp {c : Cc} {ma mb mc : DE} {σ : St} {H : Hp} {Q : VK} {r r' : R2} {f g : D → D → Option (Bool × D)} (hf : OpB c.G r f) (hg : OpB c.G r' g) (w : tE c (dChain f g ma mb mc) σ H Q) : tChain r r' (tE c ma) (tE c mb) (tE c mc) σ H Q := by
  obtain ⟨Z, ρ, F, S, w⟩ := w
  show tE c ma σ H fun x H1 => tE c mb σ H1 fun y H2 => r x y H2 fun z H3 => ∃ k, z = .bl k ∧ (if k = true then tE c mc σ H3 fun w' H4 => r' y w' H4 Q else Q (.bl false) H3)
  cases ha : ma ρ with
  | bad => simp only [dChain, ha] at w
  | ex x xs ρ1 =>
    simp only [dChain, ha] at w
    exact tE.ex S ha w
  | ok f1 x e1 ρ1 =>
    simp only [dChain, ha] at w
    refine tE.ok S ha fun Z1 H1 F1 v G1 P1 R1 f1h => ?_
    cases hb : mb ρ1 with
    | bad => simp only [hb] at w
    | ex x xs ρ2 =>
      simp only [hb] at w
      exact tE.ex P1.sta hb fun Z2 H2 F2 s2 S2 => w Z2 H2 F2 (P1.st.trans s2) S2
    | ok f2 y e2 ρ2 =>
      simp only [hb] at w
      refine tE.ok P1.sta hb fun Z2 H2 F2 u G2 P2 R2 f2h => ?_
      by_cases hk : (!e2 || f1 || frz x) = true
      · rw [if_pos hk] at w
        cases hq : f x y with
        | none => simp only [hq] at w
        | some p =>
          obtain ⟨fr, z⟩ := p
          obtain ⟨b, rfl, kr⟩ := hf Z2 H2 x y v u G1 G2 fr z P2.sta.zh (R1.later f1h P2 hk) R2 hq
          refine kr _ ⟨b, rfl, ?_⟩
          cases b with
          | false =>
            simp only [hq] at w
            rw [if_neg Bool.false_ne_true]
            exact w Z2 H2 F2 _ [] (P1.trans P2) ⟨rfl, rfl⟩ fun _ => Fresh.nil
          | true =>
            simp only [hq] at w
            rw [if_pos rfl]
            cases hc : mc ρ2 with
            | bad => simp only [hc] at w
            | ex x xs ρ3 =>
              simp only [hc] at w
              exact tE.ex P2.sta hc fun Z3 H3 F3 s3 S3 => w Z3 H3 F3 ((P1.st.trans P2.st).trans s3) S3
            | ok f3 t e3 ρ3 =>
              simp only [hc] at w
              refine tE.ok P2.sta hc fun Z3 H3 F3 u3 G3 P3 R3 f3h => ?_
              by_cases hk2 : (!e3 || f2 || frz y) = true
              · rw [if_pos hk2] at w
                cases hg2 : g y t with
                | none => simp only [hg2] at w
                | some p2 =>
                  obtain ⟨fr2, d2⟩ := p2
                  simp only [hg2] at w
                  obtain ⟨b2, rfl, kr2⟩ := hg Z3 H3 y t u u3 G2 G3 fr2 d2 P3.sta.zh (R2.later f2h P3 hk2) R3 hg2
                  exact kr2 _ (w Z3 H3 F3 _ [] ((P1.trans P2).trans P3) ⟨rfl, rfl⟩ fun _ => Fresh.nil)
              · rw [if_neg hk2] at w
                exact w.elim
      · rw [if_neg hk] at w
        exact w.elim
section
variable {c : Cc} {X : Cx} {a b e : Expr} {ma mb mc : DE} {pos : Pos} {op op' : CmpOp} {r r' : R2} {f g : D → D → Option (Bool × D)}
theorem e_chain (hr : OpR X (compareOp op) r) (hr' : OpR X (compareOp op') r') (hf : OpB c.G r f) (hg : OpB c.G r' g) (ha : PE X a (tE c ma)) (hb : PE X b (tE c mb)) (hc : PE X e (tE c mc)) (hm : lastMarks [op, op'] [b, e] = false := by with_unfolding_all rfl) : PE X (.Compare a [op, op'] [b, e] pos) (tE c (dChain f g ma mb mc)) :=
  (pe_chain hr hr' ha hb hc hm).imp fun _ _ _ w => chain_imp hf hg w
theorem chain_bl (hg : BlF g) : ∀ ρ fr d eff ρ', dChain f g ma mb mc ρ = .ok fr d eff ρ' → ∃ b, d = .bl b := by
  intro ρ fr d eff ρ' h
  unfold dChain at h
  split at h
  · split at h
    · split at h
      · split at h
        · split at h
          · split at h
            · split at h
              · rename_i q
                simp only [Res.ok.injEq] at h
                obtain ⟨rfl, rfl, _⟩ := h
                exact hg _ _ _ _ q
              · cases h
            · cases h
          · cases h
          · cases h
        · simp only [Res.ok.injEq] at h
          exact ⟨false, h.2.1.symm⟩
        · cases h
      · cases h
    · cases h
    · cases h
  · cases h
  · cases h
theorem t_chain (hr : OpR X (compareOp op) r) (hr' : OpR X (compareOp op') r') (hf : OpB c.G r f) (hg : OpB c.G r' g) (hgb : BlF g) (ha : PE X a (tE c ma)) (hb : PE X b (tE c mb)) (hc : PE X e (tE c mc)) (hm : lastMarks [op, op'] [b, e] = false := by with_unfolding_all rfl) : PT X (.Compare a [op, op'] [b, e] pos) (tT c (dT (dChain f g ma mb mc))) :=
  (pt_chain hr hr' ha hb hc hm).imp fun σ H Q w => tTest_imp (fun Q w => chain_imp hf hg w) w (chain_bl hgb)
end
theorem bl_cmp (p : Int → Int → Bool) : BlF (fCmp p) := by
  intro x y fr d h
  cases x <;> cases y <;> simp only [fCmp, fInt, reduceCtorEq, if_true] at h
  simp only [Option.some.injEq, Prod.mk.injEq] at h
  exact ⟨_, h.2.symm⟩
theorem bl_eq : BlF fEq := by
  intro x y fr d h
  unfold fEq at h
  cases q : eqV' x y with
  | none => rw [q] at h; cases h
  | some b => rw [q] at h; simp only [Option.map_some, Option.some.injEq, Prod.mk.injEq] at h; exact ⟨_, h.2.symm⟩
theorem bl_ne : BlF fNe := by
  intro x y fr d h
  unfold fNe at h
  cases q : eqV' x y with
  | none => rw [q] at h; cases h
  | some b => rw [q] at h; simp only [Option.map_some, Option.some.injEq, Prod.mk.injEq] at h; exact ⟨_, h.2.symm⟩
theorem bl_is : BlF fIs := by
  intro x y fr d h
  unfold fIs at h
  split at h
  · simp only [Option.some.injEq, Prod.mk.injEq] at h; exact ⟨_, h.2.symm⟩
  · cases h
theorem bl_isnot : BlF fIsNot := by
  intro x y fr d h
  unfold fIsNot at h
  split at h
  · simp only [Option.some.injEq, Prod.mk.injEq] at h; exact ⟨_, h.2.symm⟩
  · cases h

/-! ### conditional expressions -/
def dIfE (t : DT) (a b : DE) : DE := fun ρ => match t ρ with
  | .ok _ x e ρ1 => (match (if x = true then a else b) ρ1 with
    | .ok f y e2 ρ2 => .ok f y (e || e2) ρ2
    | .ex c xs ρ2 => .ex c xs ρ2
    | .bad => .bad)
  | .ex c xs ρ1 => .ex c xs ρ1
  | .bad => .bad
theorem e_if {c : Cc} {X : Cx} {t a b : Expr} {mt : DT} {ma mb : DE} {pos : Pos} (ht : PT X t (tT c mt)) (ha : PE X a (tE c ma)) (hb : PE X b (tE c mb)) : PE X (.IfExp t a b pos) (tE c (dIfE mt ma mb)) := (pe_ifExp ht ha hb).imp fun σ H Q w => by
  obtain ⟨Z, ρ, F, S, w⟩ := w
  show tT c mt σ H fun k H1 => if k = true then tE c ma σ H1 Q else tE c mb σ H1 Q
  cases ha : mt ρ with
  | bad => simp only [dIfE, ha] at w
  | ex x xs ρ1 =>
    simp only [dIfE, ha] at w
    exact tT.ex S ha w
  | ok f1 x e1 ρ1 =>
    simp only [dIfE, ha] at w
    refine tT.ok S ha fun Z1 H1 F1 P1 => ?_
    have key : ∀ m : DE, (match (match m ρ1 with
        | .ok f y e2 ρ2 => Res.ok f y (e1 || e2) ρ2
        | .ex c xs ρ2 => .ex c xs ρ2
        | .bad => .bad) with
      | .ok fr d eff ρ' => ∀ Z' H' F' v Gf, PostE c Z H σ ρ F eff ρ' Z' H' F' → Rep c.G Z' H' d v Gf → (fr = true → Fresh H F Z' F' Gf) → Q v H'
      | .ex x xs ρ' => ∀ Z' H' F', Step Z H F Z' H' F' → State c.G c.lk Z' H' σ ρ' F' → c.W x xs σ H'
      | .bad => False) → tE c m σ H1 Q := fun m w => by
      cases hm : m ρ1 with
      | bad => simp only [hm] at w
      | ex x xs ρ2 =>
        simp only [hm] at w
        exact tE.ex P1.sta hm fun Z2 H2 F2 s2 S2 => w Z2 H2 F2 (P1.st.trans s2) S2
      | ok f2 y e2 ρ2 =>
        simp only [hm] at w
        exact tE.ok P1.sta hm fun Z2 H2 F2 u G2 P2 R2 f2h => w Z2 H2 F2 u G2 (P1.trans P2) R2 fun q => Fresh.earlier P1 (f2h q)
    cases x with
    | true =>
      rw [if_pos rfl]
      simp only [if_true] at w
      exact key ma w
    | false =>
      rw [if_neg Bool.false_ne_true]
      simp only [Bool.false_eq_true, if_false] at w
      exact key mb w

/-! ### a def's promise -/
inductive FRes where
  | ok (d : D) (out : List D) | ex (x : Str) (out : List D) | bad
abbrev DF := List D → FRes
def lentV (ln : Bool) (vs : List V) : List V := if ln = true then vs.take 1 else []
def spD (G : Gx) (n : Nat) (ln : Bool) (F : DF) : Sp := fun vs H Q E => vs.length = n ∧ ∃ Z ds Fp, Ex Z H ∧ TbOk G Z H ∧ RepL G Z H ds vs Fp ∧ Fp.Nodup ∧ (∀ a ∈ Fp, Z a = none) ∧ match F ds with
  | .ok d out => ∀ Z' H' Fo v Gr, Step Z H Fp Z' H' Fo → RepL G Z' H' out (lentV ln vs) Fo → Fo.Nodup → (∀ a ∈ Fo, Z' a = none) → Rep G Z' H' d v Gr → Fresh H Fp Z' Fo Gr → Q v H'
  | .ex x out => ∀ Z' H' Fo, Step Z H Fp Z' H' Fo → RepL G Z' H' out (lentV ln vs) Fo → Fo.Nodup → (∀ a ∈ Fo, Z' a = none) → ∀ C, G.cn x = some C → E (.ref C) none H'
  | .bad => False
theorem spD_len {G : Gx} {n : Nat} {ln : Bool} {F : DF} : ∀ vs H Q E, spD G n ln F vs H Q E → vs.length = n := fun _ _ _ _ h => h.1
/-- the wish as the hand layer has it -/
def wxOf (c : Cc) : WX := fun cls d σ H => ∃ x C, c.G.cn x = some C ∧ cls = .ref C ∧ d = none ∧ c.W x [] σ H
/-- f(e, ..) of a def that takes all for itself -/
def dCall (F : DF) (a : DA) : DE := fun ρ => match a ρ with
  | .ok _ ds e ρ1 => (match F ds with
    | .ok d [] => .ok true d e ρ1
    | .ok _ _ => .bad
    | .ex x [] => .ex x [] ρ1
    | .ex _ _ => .bad
    | .bad => .bad)
  | .ex c xs ρ1 => .ex c xs ρ1
  | .bad => .bad
/-- f(x, e, ..) of a def that changes what stands at x -/
def dCallL (F : DF) (i : Nat) (a : DA) : DE := fun ρ => match ρ[i]? with
  | some (some _) => (match a ρ with
    | .ok _ ds e ρ1 => (match ρ1[i]? with
      | some (some d0) => (match F (d0 :: ds) with
        | .ok d [d1] => .ok true d true (ρ1.set i (some d1))
        | .ok _ _ => .bad
        | .ex x [d1] => .ex x [] (ρ1.set i (some d1))
        | .ex _ _ => .bad
        | .bad => .bad)
      | _ => .bad)
    | .ex c xs ρ1 => .ex c xs ρ1
    | .bad => .bad)
  | _ => .bad
section
variable {G : Gx} {lk : List (Nat × V)} {Z H Z1 H1 Z2 H2 : Hp} {σ : St} {ρ ρ1 : Env} {Fs F1 G1 Fp Fo F' : List Addr}
theorem State.frame (S : State G lk Z1 H1 σ ρ F1) (s : Step Z1 H1 Fp Z2 H2 Fo) (dis : ∀ a ∈ F1, a ∉ Fp) (nF : ∀ P ∈ G.tb, P ∉ Fp) : State G lk Z2 H2 σ ρ F1 :=
  ⟨s.zh, S.rs.mono s.zz fun a ha o e => s.fr a o e (dis a ha), S.nd, fun a ha => s.zn a (dis a ha) (S.dom ha) (S.fz a ha), S.lk, S.tb.step s nF⟩
theorem Step.call (P : Step Z H Fs Z1 H1 F1) (fr : Fresh H Fs Z1 F1 G1) (s : Step Z1 H1 Fp Z2 H2 Fo) (hp : ∀ a ∈ Fp, a ∈ F1 ∨ a ∈ G1) (hf : ∀ a ∈ F', a ∈ F1 ∨ a ∈ Fo) : Step Z H Fs Z2 H2 F' := by
  have out : ∀ a, a ∉ Fs → H a ≠ none → a ∉ Fp := fun a hn h q => by
    rcases hp a q with q | q
    · exact P.notin hn h q
    · exact (fr.nh a q).elim hn h
  refine ⟨P.zz.trans s.zz, s.zh, fun a h => s.dm a (P.dm a h), fun a o h hn t => s.fr a o (P.fr a o h hn t) (out a hn (ne_none h)) t, fun Q t hn => s.tg Q (P.tg Q t hn) (out Q hn (ne_none t.ps.choose_spec)), fun a ha => ?_, fun a hn h z => s.zn a (out a hn h) (P.dm a h) (P.zn a hn h z), fun q xs h => (s.tp q xs h).elim (fun h => (P.tp q xs h).imp id (s.zz q _)) .inr, fun Q ps h => P.tz Q ps (s.tz Q ps h)⟩
  rcases hf a ha with h | h
  · exact P.ff a h
  · rcases s.ff a h with h | h
    · rcases hp a h with h | h
      · exact P.ff a h
      · exact fr.nh a h
    · refine .inr ?_
      cases q : H a with
      | none => rfl
      | some o => exact absurd h (P.dm a (ne_none q))
theorem New.call (n : New Z H Z1 H1) (fr : Fresh H F1 Z1 F1 G1) (s : Step Z1 H1 G1 Z2 H2 Fo) : New Z H Z2 H2 := by
  have out : ∀ a, H a ≠ none → a ∉ G1 := fun a h q => (fr.nh a q).elim (fr.nf a q) h
  refine ⟨n.zz.trans s.zz, ⟨fun a o h t => s.fr a o (n.hh.fr a o h t) (out a (ne_none h)) t, fun Q t => s.tg Q (n.hh.tg Q t) (out Q (ne_none t.ps.choose_spec)), fun a h => s.dm a (n.hh.dm a h)⟩, s.zh, fun a h => ?_, fun q xs h => (s.tp q xs h).elim (fun h => (n.tp q xs h).imp id (s.zz q _)) .inr, fun Q ps h => n.tz Q ps (s.tz Q ps h)⟩
  cases q : Z a with
  | some o => exact (n.zz.trans s.zz) a o q
  | none => exact s.zn a (out a h) (n.dm h) ((n.nn a h).trans q)
theorem Fresh.call (P : Step Z H Fs Z1 H1 F1) (fr : Fresh H Fs Z1 F1 G1) (dom : ∀ a ∈ F1, H1 a ≠ none) {Gr : List Addr} (g : Fresh H1 Fp Z2 Fo Gr) (hp : ∀ a ∈ Fp, a ∈ F1 ∨ a ∈ G1) (hf : ∀ a ∈ F', (a ∈ F1 ∧ a ∉ Fp) ∨ a ∈ Fo) : Fresh H Fs Z2 F' Gr := by
  refine ⟨g.nd, fun a ha => ?_, g.nz, fun a ha q => ?_⟩
  · rcases g.nh a ha with h | h
    · rcases hp a h with h | h
      · exact P.ff a h
      · exact fr.nh a h
    · refine .inr ?_
      cases q : H a with
      | none => rfl
      | some o => exact absurd h (P.dm a (ne_none q))
  · rcases hf a q with ⟨q1, q2⟩ | q
    · exact (g.nh a ha).elim q2 (dom a q1)
    · exact g.nf a ha q
end
section
variable {c : Cc} {σ : St} {H : Hp} {Q : VK} {F : DF} {n : Nat} {ma : DA}
theorem call_imp (hn : ∀ ρ fr ds e ρ', ma ρ = .ok fr ds e ρ' → ds.length = n) (w : tE c (dCall F ma) σ H Q) : tCallS (spD c.G n false F) (WE (wxOf c)) (tA c ma) σ H Q := by
  obtain ⟨Z, ρ, Fs, S, w⟩ := w
  show tA c ma σ H fun vs H1 => spD c.G n false F vs H1 Q (WE (wxOf c) σ)
  cases ha : ma ρ with
  | bad => simp only [dCall, ha] at w
  | ex x xs ρ1 =>
    simp only [dCall, ha] at w
    exact tA.ex S ha w
  | ok f1 ds e1 ρ1 =>
    simp only [dCall, ha] at w
    refine tA.ok S ha fun Z1 H1 F1 vs G1 P1 R1 fr1 => ⟨by rw [← R1.length]; exact hn _ _ _ _ _ ha, Z1, ds, G1, P1.sta.zh, P1.sta.tb, R1, fr1.nd, fr1.nz, ?_⟩
    have dis : ∀ a ∈ F1, a ∉ G1 := fun a ha q => fr1.nf a q ha
    cases hF : F ds with
    | bad => simp only [hF] at w
    | ok d out =>
      cases out with
      | cons o os => simp only [hF] at w
      | nil =>
        simp only [hF] at w
        intro Z2 H2 Fo v Gr s2 ro _ _ rr fr2
        obtain ⟨_, rfl⟩ := ro
        refine w Z2 H2 F1 v Gr ⟨P1.st.call fr1 s2 (fun a h => .inr h) fun a h => .inl h, P1.sta.frame s2 dis (TbOk.notin P1.sta.tb R1.dom), fun he => ?_⟩ rr fun _ => Fresh.call P1.st fr1 (fun a ha => P1.sta.dom ha) fr2 (fun a h => .inr h) fun a h => .inl ⟨h, dis a h⟩
        obtain ⟨q1, q2, q3⟩ := P1.qui he
        subst q2
        exact ⟨q1, rfl, q3.call fr1 s2⟩
    | ex x out =>
      cases out with
      | cons o os => simp only [hF] at w
      | nil =>
        simp only [hF] at w
        intro Z2 H2 Fo s2 ro _ _ C hC
        exact ⟨x, C, hC, rfl, rfl, w Z2 H2 F1 (P1.st.call fr1 s2 (fun a h => .inr h) fun a h => .inl h) (P1.sta.frame s2 dis (TbOk.notin P1.sta.tb R1.dom))⟩
theorem callL_imp {i : Nat} (hn : ∀ ρ fr ds e ρ', ma ρ = .ok fr ds e ρ' → ds.length + 1 = n) (w : tE c (dCallL F i ma) σ H Q) : tCallS (spD c.G n true F) (WE (wxOf c)) (tCons (tVar i) (tA c ma)) σ H Q := by
  obtain ⟨Z, ρ, Fs, S, w⟩ := w
  cases hi : ρ[i]? with
  | none => simp only [dCallL, hi] at w
  | some o =>
    cases o with
    | none => simp only [dCallL, hi] at w
    | some dz =>
      obtain ⟨v, _, _, _, gv, _⟩ := S.rs.get hi
      simp only [dCallL, hi] at w
      show ∃ v, σ[i]? = some (some v) ∧ tA c ma σ H fun vs H1 => spD c.G n true F (v :: vs) H1 Q (WE (wxOf c) σ)
      refine ⟨v, gv, ?_⟩
      cases ha : ma ρ with
      | bad => simp only [ha] at w
      | ex x xs ρ1 =>
        simp only [ha] at w
        exact tA.ex S ha w
      | ok f1 ds e1 ρ1 =>
        simp only [ha] at w
        refine tA.ok S ha fun Z1 H1 F1 vs G1 P1 R1 fr1 => ?_
        cases hj : ρ1[i]? with
        | none => simp only [hj] at w
        | some o =>
          cases o with
          | none => simp only [hj] at w
          | some d0 =>
            simp only [hj] at w
            have hlt : i < ρ1.length := by
              rcases Nat.lt_or_ge i ρ1.length with h | h
              · exact h
              · rw [List.getElem?_eq_none h] at hj; cases hj
            obtain ⟨v1, A, Fi, B, g1, g2, g3, g4⟩ := P1.sta.rs.get hj
            have ev : v1 = v := by
              rw [gv] at g1
              exact (Option.some.inj (Option.some.inj g1)).symm
            subst ev
            obtain ⟨n1, n2, n3⟩ := nodup_mid (by rw [← g2]; exact P1.sta.nd)
            have inF : ∀ a, a ∈ Fi → a ∈ F1 := fun a h => by rw [g2]; exact mem_mid.mpr (.inl h)
            have inF2 : ∀ a, a ∈ A ++ B → a ∈ F1 := fun a h => by rw [g2]; exact mem_mid.mpr (.inr h)
            have hp : ∀ a ∈ Fi ++ G1, a ∈ F1 ∨ a ∈ G1 := fun a h => (List.mem_append.mp h).imp (inF a) id
            have rest : State c.G c.lk Z1 H1 σ (ρ1.set i none) (A ++ B) := ⟨P1.sta.zh, g4, n1, fun a h => P1.sta.fz a (inF2 a h), P1.sta.lk, P1.sta.tb⟩
            have dis : ∀ a ∈ A ++ B, a ∉ Fi ++ G1 := fun a h q => (List.mem_append.mp q).elim (fun q => n3 a q h) fun q => fr1.nf a q (inF2 a h)
            refine ⟨by rw [List.length_cons, ← R1.length]; exact hn _ _ _ _ _ ha, Z1, d0 :: ds, Fi ++ G1, P1.sta.zh, P1.sta.tb, ⟨v1, vs, Fi, G1, rfl, rfl, g3, R1⟩, List.nodup_append.mpr ⟨n2, fr1.nd, fun a h b h2 e => fr1.nf b h2 (inF b (e ▸ h))⟩, fun a h => (List.mem_append.mp h).elim (fun h => P1.sta.fz a (inF a h)) (fr1.nz a), ?_⟩
            -- behind the call: slot i filled again
            have back : ∀ {Z2 H2 : Hp} {Fo : List Addr} {d1 : D}, Step Z1 H1 (Fi ++ G1) Z2 H2 Fo → RepL c.G Z2 H2 [d1] (lentV true (v1 :: vs)) Fo → Fo.Nodup → (∀ a ∈ Fo, Z2 a = none) →
                ∃ F2, State c.G c.lk Z2 H2 σ (ρ1.set i (some d1)) F2 ∧ Step Z H Fs Z2 H2 F2 ∧ ∀ a ∈ F2, (a ∈ F1 ∧ a ∉ Fi ++ G1) ∨ a ∈ Fo := fun {Z2 H2 Fo d1} s2 ro no zo => by
              obtain ⟨v2, vs2, F3, F4, e3, e4, r3, r4⟩ := ro
              obtain ⟨rfl, rfl⟩ := r4
              have ev : v1 = v2 := by
                have e3' : [v1] = [v2] := e3
                exact (List.cons.inj e3').1
              subst ev
              rw [List.append_nil] at e4
              subst e4
              have nFt : ∀ P ∈ c.G.tb, P ∉ Fi ++ G1 := fun P hP q => (List.mem_append.mp q).elim (TbOk.notin P1.sta.tb g3.dom P hP) (TbOk.notin P1.sta.tb R1.dom P hP)
              have rf := rest.frame s2 dis nFt
              obtain ⟨A', B', p1, p2⟩ := RepS.put (i := i) rf.rs (by rw [List.getElem?_set_self hlt]) r3
              rw [List.set_set] at p2
              have es : σ.set i (some v1) = σ := by
                have hs : i < σ.length := by rw [← P1.sta.rs.length]; exact hlt
                rw [List.getElem?_eq_getElem hs] at gv
                rw [← Option.some.inj gv, List.set_getElem_self]
              rw [es] at p2
              have hf : ∀ a ∈ A' ++ Fo ++ B', (a ∈ F1 ∧ a ∉ Fi ++ G1) ∨ a ∈ Fo := fun a h => by
                rcases mem_mid.mp h with h | h
                · exact .inr h
                · rw [← p1] at h
                  exact .inl ⟨inF2 a h, dis a h⟩
              refine ⟨A' ++ Fo ++ B', ⟨s2.zh, p2, nodup_put (by rw [← p1]; exact n1) no fun a h q => ?_, fun a h => ?_, P1.sta.lk, rf.tb⟩, P1.st.call fr1 s2 hp fun a h => (hf a h).imp And.left id, hf⟩
              · rw [← p1] at q
                exact (s2.ff a h).elim (dis a q) (P1.sta.dom (inF2 a q))
              · rcases mem_mid.mp h with h | h
                · exact zo a h
                · rw [← p1] at h
                  exact rf.fz a h
            cases hF : F (d0 :: ds) with
            | bad => simp only [hF] at w
            | ok d out =>
              match out, hF with
              | [], hF => simp only [hF] at w
              | _ :: _ :: _, hF => simp only [hF] at w
              | [d1], hF =>
                simp only [hF] at w
                intro Z2 H2 Fo v' Gr s2 ro no zo rr fr2
                obtain ⟨F2, S2, st2, hf⟩ := back s2 ro no zo
                exact w Z2 H2 F2 v' Gr ⟨st2, S2, fun q => nomatch q⟩ rr fun _ => Fresh.call P1.st fr1 (fun a ha => P1.sta.dom ha) fr2 hp hf
            | ex x out =>
              match out, hF with
              | [], hF => simp only [hF] at w
              | _ :: _ :: _, hF => simp only [hF] at w
              | [d1], hF =>
                simp only [hF] at w
                intro Z2 H2 Fo s2 ro no zo C hC
                obtain ⟨F2, S2, st2, hf⟩ := back s2 ro no zo
                exact ⟨x, C, hC, rfl, rfl, w Z2 H2 F2 st2 S2⟩
end
end Dd
/-! Calls as expressions; statements; bodies. -/
namespace Dd
open PySem L2

def LenA (m : DA) (n : Nat) : Prop := ∀ ρ fr ds e ρ', m ρ = .ok fr ds e ρ' → ds.length = n
theorem len_nil : LenA dNil 0 := fun ρ fr ds e ρ' h => by
  simp only [dNil, Res.ok.injEq] at h
  rw [← h.2.1]; rfl
theorem len_cons {m : DE} {r : DA} {n : Nat} (h : LenA r n) : LenA (dCons m r) (n + 1) := fun ρ fr ds e ρ' q => by
  unfold dCons at q
  split at q
  · split at q
    · split at q
      · rename_i hr
        simp only [Res.ok.injEq] at q
        rw [← q.2.1, List.length_cons, h _ _ _ _ _ hr]
      · cases q
      · cases q
    · cases q
  · cases q
  · cases q
section
variable {c : Cc} {X : Cx} {x : Str} {p pos kpos : Pos} {e : Expr} {es : List Expr} {m : DE} {a : DA} {f : Addr} {fd : FuncData} {ps : List Str} {F : DF} {n k : Nat}
/-- f(e, ..) -/
theorem e_call (G : FnOk X.prog X.w X.K X.mg X.base (L2.CX X.prog X.w) k f fd ps (spD c.G n false F)) (hr : Room k X.A) (hg : Gl X x) (hm : X.mg x = some (.ref f)) (hk : PySem.W.keepIn X.K (.ref f) = true) (hb : Binds X.K fd ps []) (tk : Takes X (wxOf c))
    (ha : PA X (e :: es) (tA c a)) (hn : LenA a n) (hdb : (x == ("__debug__" : Str)) = false := by decide) (he : starEach (e :: es) X.env = (false, eval e X.env) :: starEach es X.env := by rfl) (hpl : (backTo pos (starEach es X.env)).any (·.1) = false := by rfl) :
    PE X (.Call (.Name x p) (e :: es) [] pos) (tE c (dCall F a)) := (pe_callS G hr hg hm hk hb (fun σ => passAt tk σ) ha hdb he hpl).imp fun _ _ _ w => call_imp hn w
/-- f(x, e, ..), what stands at x is changed -/
theorem e_callL {i : Nat} (G : FnOk X.prog X.w X.K X.mg X.base (L2.CX X.prog X.w) k f fd ps (spD c.G n true F)) (hr : Room k X.A) (hg : Gl X x) (hm : X.mg x = some (.ref f)) (hk : PySem.W.keepIn X.K (.ref f) = true) (hb : Binds X.K fd ps []) (tk : Takes X (wxOf c))
    (hv : PE X e (tVar i)) (ha : PA X es (tA c a)) (hn : LenA a (n - 1)) (h1 : 0 < n := by decide) (hdb : (x == ("__debug__" : Str)) = false := by decide) (he : starEach (e :: es) X.env = (false, eval e X.env) :: starEach es X.env := by rfl) (hpl : (backTo pos (starEach es X.env)).any (·.1) = false := by rfl) :
    PE X (.Call (.Name x p) (e :: es) [] pos) (tE c (dCallL F i a)) := (pe_callS G hr hg hm hk hb (fun σ => passAt tk σ) (pa_cons hv ha he) hdb he hpl).imp fun _ _ _ w => callL_imp (fun ρ fr ds e ρ' q => by rw [hn _ _ _ _ _ q]; omega) w
end

/-! ### statements -/
def dDrop (m : DE) : DS := fun ρ => match m ρ with
  | .ok _ _ _ ρ1 => .nx ρ1
  | .ex c xs ρ1 => .ex c xs ρ1
  | .bad => .bad
def dAsg (i : Nat) (m : DE) : DS := fun ρ => match m ρ with
  | .ok f d _ ρ1 => if (f || frz d) = true then (if i < ρ1.length then .nx (ρ1.set i (some d)) else .bad) else .bad
  | .ex c xs ρ1 => .ex c xs ρ1
  | .bad => .bad
def dRet (m : DE) : DS := fun ρ => match m ρ with
  | .ok f d _ ρ1 => if (f || frz d) = true then .rt d ρ1 else .bad
  | .ex c xs ρ1 => .ex c xs ρ1
  | .bad => .bad
def dRetN : DS := fun ρ => .rt .non ρ
def dPass : DS := fun ρ => .nx ρ
def dBrk : DS := fun ρ => .bk ρ
def dCnt : DS := fun ρ => .ct ρ
def dSeq (a b : DS) : DS := fun ρ => match a ρ with
  | .nx ρ1 => b ρ1
  | r => r
def dIf (t : DT) (a b : DS) : DS := fun ρ => match t ρ with
  | .ok _ x _ ρ1 => if x = true then a ρ1 else b ρ1
  | .ex c xs ρ1 => .ex c xs ρ1
  | .bad => .bad
def dRaise (x : Str) : DS := fun ρ => .ex x [] ρ
/-- x += e of ints -/
def dAug (i : Nat) (g : Int → Int → Int) (m : DE) : DS := fun ρ => match ρ[i]? with
  | some (some (.int a)) => (match m ρ with
    | .ok _ (.int b) _ ρ1 => if i < ρ1.length then .nx (ρ1.set i (some (.int (g a b)))) else .bad
    | .ok _ _ _ _ => .bad
    | .ex c xs ρ1 => .ex c xs ρ1
    | .bad => .bad)
  | _ => .bad
def setAll : List Nat → List D → Env → Option Env
  | [], [], ρ => some ρ
  | i :: is, d :: ds, ρ => if i < ρ.length then setAll is ds (ρ.set i (some d)) else none
  | _, _, _ => none
/-- a, b = e -/
def dAsgT (is : List Nat) (m : DE) : DS := fun ρ => match m ρ with
  | .ok f d _ ρ1 => if (f || frz d) = true then (match d with
    | .box _ .tup ds => (match setAll is ds ρ1 with | some ρ2 => .nx ρ2 | none => .bad)
    | _ => .bad) else .bad
  | .ex c xs ρ1 => .ex c xs ρ1
  | .bad => .bad
section
variable {G : Gx} {lk : List (Nat × V)} {Z H : Hp}
def setV : List Nat → List V → St → St
  | i :: is, v :: vs, σ => setV is vs (σ.set i (some v))
  | _, _, σ => σ
theorem State.setAll : ∀ {is : List Nat} {ds : List D} {vs : List V} {σ : St} {ρ ρ' : Env} {F Gf : List Addr}, State G lk Z H σ ρ F → RepL G Z H ds vs Gf → Gf.Nodup → (∀ a ∈ Gf, Z a = none) → (∀ a ∈ Gf, a ∉ F) → (∀ i ∈ is, ∀ p ∈ lk, p.1 ≠ i) → setAll is ds ρ = some ρ' →
    ∃ F', State G lk Z H (setV is vs σ) ρ' F' ∧ ∀ a ∈ F', a ∈ F ∨ a ∈ Gf
  | [], [], vs, σ, ρ, ρ', F, Gf, S, r, _, _, _, _, h => by
    simp only [Dd.setAll, Option.some.injEq] at h
    subst h
    exact ⟨F, by simpa [setV] using S, fun a h => .inl h⟩
  | [], _ :: _, _, _, _, _, _, _, _, _, _, _, _, _, h => by simp only [Dd.setAll, reduceCtorEq] at h
  | _ :: _, [], _, _, _, _, _, _, _, _, _, _, _, _, h => by simp only [Dd.setAll, reduceCtorEq] at h
  | i :: is, d :: ds, vs, σ, ρ, ρ', F, Gf, S, r, nd, nz, nf, hl, h => by
    obtain ⟨v, vs', G1, G2, rfl, rfl, r1, r2⟩ := r
    simp only [Dd.setAll] at h
    split at h
    · rename_i hi
      obtain ⟨n1, n2, n3⟩ := List.nodup_append.mp nd
      obtain ⟨F1, S1, h1⟩ := S.set hi r1 n1 (fun a ha => nz a (List.mem_append_left _ ha)) (fun a ha => nf a (List.mem_append_left _ ha)) (hl i List.mem_cons_self)
      obtain ⟨F2, S2, h2⟩ := State.setAll S1 r2 n2 (fun a ha => nz a (List.mem_append_right _ ha)) (fun a ha q => (h1 a q).elim (nf a (List.mem_append_right _ ha)) fun q => n3 a q a ha rfl) (fun j hj => hl j (List.mem_cons_of_mem _ hj)) h
      exact ⟨F2, S2, fun a ha => (h2 a ha).elim (fun q => (h1 a q).imp id (List.mem_append_left _)) fun q => .inr (List.mem_append_right _ q)⟩
    · cases h
end
def lkOk (lk : List (Nat × V)) (i : Nat) : Bool := lk.all fun p => p.1 != i
theorem lkOk.ne {lk : List (Nat × V)} {i : Nat} (h : lkOk lk i = true) : ∀ p ∈ lk, p.1 ≠ i := fun p hp => by
  have q := List.all_eq_true.mp h p hp
  simpa using q
section
variable {c : Cc} {X : Cx} {e t : Expr} {st : Stmt} {rest sa sb : List Stmt} {m : DE} {mt : DT} {a b : DS} {pos : Pos}
theorem s_drop (he : PE X e (tE c m)) (hs : swapsWith e none pos.line X.env = pure false := by rfl) : PS X (.Expr e pos) (tS c (dDrop m)) := (ps_expr he hs).imp fun D σ H w => by
  obtain ⟨Z, ρ, F, S, w⟩ := w
  show tE c m σ H fun _ H1 => D.nx σ H1
  cases ha : m ρ with
  | bad => simp only [dDrop, ha, SOut] at w
  | ex x xs ρ1 =>
    simp only [dDrop, ha, SOut] at w
    exact tE.ex S ha fun Z' H' F' => w Z' H' F' σ
  | ok f1 x e1 ρ1 =>
    simp only [dDrop, ha, SOut] at w
    exact tE.ok S ha fun Z1 H1 F1 v G1 P1 R1 _ => w Z1 H1 F1 σ P1.st P1.sta
theorem fresh_or {H Z1 : Hp} {F F1 G1 : List Addr} {G : Gx} {H1 : Hp} {d : D} {v : V} {f : Bool} (h : (f || frz d) = true) (r : Rep G Z1 H1 d v G1) (q : f = true → Fresh H F Z1 F1 G1) : Fresh H F Z1 F1 G1 := by
  cases f with
  | true => exact q rfl
  | false =>
    have e0 := r.frz_nil (by simpa using h)
    subst e0
    exact Fresh.nil
theorem Step.sub' {Z H Z1 H1 : Hp} {F F1 F2 G1 : List Addr} (a : Step Z H F Z1 H1 F1) (f : Fresh H F Z1 F1 G1) (h : ∀ x ∈ F2, x ∈ F1 ∨ x ∈ G1) : Step Z H F Z1 H1 F2 :=
  ⟨a.zz, a.zh, a.dm, a.fr, a.tg, fun x hx => (h x hx).elim (a.ff x) (f.nh x), a.zn, a.tp, a.tz⟩
theorem asg_imp {i : Nat} {D : Ends} {σ : St} {H : Hp} (hl : lkOk c.lk i = true) (w : tS c (dAsg i m) D σ H) : tAsg (tE c m) (gName i) D σ H := by
  obtain ⟨Z, ρ, F, S, w⟩ := w
  show tE c m σ H fun x H1 => D.nx (σ.set i (some x)) H1
  cases ha : m ρ with
  | bad => simp only [dAsg, ha, SOut] at w
  | ex x xs ρ1 =>
    simp only [dAsg, ha, SOut] at w
    exact tE.ex S ha fun Z' H' F' => w Z' H' F' σ
  | ok f1 d e1 ρ1 =>
    simp only [dAsg, ha, SOut] at w
    by_cases hk : (f1 || frz d) = true
    · rw [if_pos hk] at w
      by_cases hi : i < ρ1.length
      · rw [if_pos hi] at w
        refine tE.ok S ha fun Z1 H1 F1 v G1 P1 R1 f1h => ?_
        have fr := fresh_or hk R1 f1h
        obtain ⟨F2, S2, h2⟩ := P1.sta.set hi R1 fr.nd fr.nz fr.nf (lkOk.ne hl)
        exact w Z1 H1 F2 _ (P1.st.sub' fr h2) S2
      · rw [if_neg hi] at w
        exact w.elim
    · rw [if_neg hk] at w
      exact w.elim

theorem s_asg {i : Nat} {x : Str} {pos' : Pos} (hN : X.N.Nodup) (hi : X.N[i]? = some x) (hx : Loc X.env.scope x) (he : PE X e (tE c m)) (hs : swapsWith e (some (.Name x pos')) pos.line X.env = pure false := by rfl) (hf : X.fn x = true ∨ X.env.scope.names.lookup x = some .local := by first | exact .inl rfl | exact .inr rfl | assumption)
    (hl : lkOk c.lk i = true := by rfl) : PS X (.Assign [.Name x pos'] e pos) (tS c (dAsg i m)) := (ps_set hN hi hx he hs hf).imp fun _ _ _ w => asg_imp hl w
theorem ret_imp {D : Ends} {σ : St} {H : Hp} (w : tS c (dRet m) D σ H) : tRet (tE c m) D σ H := by
  obtain ⟨Z, ρ, F, S, w⟩ := w
  show tE c m σ H D.rt
  cases ha : m ρ with
  | bad => simp only [dRet, ha, SOut] at w
  | ex x xs ρ1 =>
    simp only [dRet, ha, SOut] at w
    exact tE.ex S ha fun Z' H' F' => w Z' H' F' σ
  | ok f1 d e1 ρ1 =>
    simp only [dRet, ha, SOut] at w
    by_cases hk : (f1 || frz d) = true
    · rw [if_pos hk] at w
      exact tE.ok S ha fun Z1 H1 F1 v G1 P1 R1 f1h => w Z1 H1 F1 σ v G1 P1.st P1.sta R1 (fresh_or hk R1 f1h)
    · rw [if_neg hk] at w
      exact w.elim
theorem s_ret (he : PE X e (tE c m)) : PS X (.Return (some e) pos) (tS c (dRet m)) := (ps_ret he).imp fun _ _ _ w => ret_imp w
theorem s_retN : PS X (.Return none pos) (tS c dRetN) := ps_retN.imp fun D σ H w => by
  obtain ⟨Z, ρ, F, S, w⟩ := w
  exact w Z H F σ .non [] (Step.refl S.zh) S ⟨rfl, rfl⟩ Fresh.nil
theorem s_pass : PS X (.Pass pos) (tS c dPass) := ps_pass.imp fun D σ H w => by
  obtain ⟨Z, ρ, F, S, w⟩ := w
  exact w Z H F σ (Step.refl S.zh) S
theorem s_break : PS X (.Break pos) (tS c dBrk) := ps_break.imp fun D σ H w => by
  obtain ⟨Z, ρ, F, S, w⟩ := w
  exact w Z H F σ (Step.refl S.zh) S
theorem s_continue : PS X (.Continue pos) (tS c dCnt) := ps_continue.imp fun D σ H w => by
  obtain ⟨Z, ρ, F, S, w⟩ := w
  exact w Z H F σ (Step.refl S.zh) S
/-- a piece behind a step -/
theorem tS.after {Z H Z1 H1 : Hp} {σ1 : St} {ρ1 : Env} {F F1 : List Addr} {D : Ends} {r : SRes} (st : Step Z H F Z1 H1 F1) (S1 : State c.G c.lk Z1 H1 σ1 ρ1 F1) (e : b ρ1 = r)
    (w : SOut c Z H F D r) : tS c b D σ1 H1 := by
  refine ⟨Z1, ρ1, F1, S1, ?_⟩
  rw [e]
  cases r with
  | nx ρ' => exact fun Z' H' F' σ' s S' => w Z' H' F' σ' (st.trans s) S'
  | bk ρ' => exact fun Z' H' F' σ' s S' => w Z' H' F' σ' (st.trans s) S'
  | ct ρ' => exact fun Z' H' F' σ' s S' => w Z' H' F' σ' (st.trans s) S'
  | rt d ρ' => exact fun Z' H' F' σ' v Gf s S' r f => w Z' H' F' σ' v Gf (st.trans s) S' r (f.step st)
  | ex x xs ρ' => exact fun Z' H' F' σ' s S' => w Z' H' F' σ' (st.trans s) S'
  | bad => exact w
theorem seq_imp {D : Ends} {σ : St} {H : Hp} (w : tS c (dSeq a b) D σ H) : tSeq (tS c a) (tS c b) D σ H := by
  obtain ⟨Z, ρ, F, S, w⟩ := w
  show tS c a { D with nx := tS c b D } σ H
  refine ⟨Z, ρ, F, S, ?_⟩
  cases ha : a ρ with
  | nx ρ1 =>
    simp only [dSeq, ha, SOut] at w
    exact fun Z' H' F' σ' s S' => tS.after s S' rfl w
  | bk ρ1 => simp only [dSeq, ha, SOut] at w; exact w
  | ct ρ1 => simp only [dSeq, ha, SOut] at w; exact w
  | rt d ρ1 => simp only [dSeq, ha, SOut] at w; exact w
  | ex x xs ρ1 => simp only [dSeq, ha, SOut] at w; exact w
  | bad => simp only [dSeq, ha, SOut] at w
theorem b_nil : PSs X [] (tS c dPass) := pss_nil.imp fun D σ H w => by
  obtain ⟨Z, ρ, F, S, w⟩ := w
  exact w Z H F σ (Step.refl S.zh) S
theorem b_one (h : PS X st (tS c a)) : PSs X [st] (tS c a) := pss_one h
theorem b_cons (h1 : PS X st (tS c a)) (h2 : PSs X rest (tS c b)) : PSs X (st :: rest) (tS c (dSeq a b)) := (pss_cons h1 h2).imp fun _ _ _ w => seq_imp w
theorem s_if (ht : PT X t (tT c mt)) (ha : PSs X sa (tS c a)) (hb : PSs X sb (tS c b)) : PS X (.If t sa sb pos) (tS c (dIf mt a b)) := (ps_if ht ha hb).imp fun D σ H w => by
  obtain ⟨Z, ρ, F, S, w⟩ := w
  show tT c mt σ H fun k H1 => if k = true then tS c a D σ H1 else tS c b D σ H1
  cases ha : mt ρ with
  | bad => simp only [dIf, ha, SOut] at w
  | ex x xs ρ1 =>
    simp only [dIf, ha, SOut] at w
    exact tT.ex S ha fun Z' H' F' => w Z' H' F' σ
  | ok f1 x e1 ρ1 =>
    simp only [dIf, ha, SOut] at w
    refine tT.ok S ha fun Z1 H1 F1 P1 => ?_
    cases x with
    | true =>
      rw [if_pos rfl] at w ⊢
      exact tS.after P1.st P1.sta rfl w
    | false =>
      rw [if_neg Bool.false_ne_true] at w ⊢
      exact tS.after P1.st P1.sta rfl w
/-- raise X('..') -/
theorem s_raise {x : Str} {C : Addr} {t : St → Hp → XK → Prop} (hc : X.calm = true) (tk : Takes X (wxOf c)) (he : PMk X e t) (ht : ∀ σ H (Q : XK), Q (.ref C) none H → t σ H Q) (hx : c.G.cn x = some C) : PS X (.Raise (some e) none pos) (tS c (dRaise x)) := (ps_raise hc tk he).imp fun D σ H w => by
  obtain ⟨Z, ρ, F, S, w⟩ := w
  exact ht σ H _ ⟨x, C, hx, rfl, rfl, w Z H F σ (Step.refl S.zh) S⟩
theorem aug_imp {i : Nat} {g : Int → Int → Int} {D : Ends} {σ : St} {H : Hp} (hl : lkOk c.lk i = true) (w : tS c (dAug i g m) D σ H) : tAug i (tE c m) (ipI g) D σ H := by
  obtain ⟨Z, ρ, F, S, w⟩ := w
  cases hi : ρ[i]? with
  | none => simp only [dAug, hi, SOut] at w
  | some o =>
    cases o with
    | none => simp only [dAug, hi, SOut] at w
    | some d =>
      cases d with
      | int n =>
        simp only [dAug, hi, SOut] at w
        obtain ⟨v, A, F1, B, g1, g2, g3, g4⟩ := S.rs.get hi
        refine ⟨v, g1, ?_⟩
        cases ha : m ρ with
        | bad => simp only [ha, SOut] at w
        | ex x xs ρ1 =>
          simp only [ha, SOut] at w
          exact tE.ex S ha fun Z' H' F' => w Z' H' F' σ
        | ok f1 d e1 ρ1 =>
          cases d with
          | int k =>
            simp only [ha, SOut] at w
            by_cases hlt : i < ρ1.length
            · rw [if_pos hlt] at w
              refine tE.ok S ha fun Z1 H1 F1 u G1 P1 R1 f1h => ⟨n, k, g3.1, R1.1, ?_⟩
              obtain ⟨F2, S2, h2⟩ := P1.sta.set (d := .int (g n k)) (v := .int (g n k)) (Gf := []) hlt ⟨rfl, rfl⟩ List.nodup_nil (by simp) (by simp) (lkOk.ne hl)
              exact w Z1 H1 F2 _ (P1.st.sub fun x hx => .inl ((h2 x hx).elim id fun q => by cases q)) S2
            · rw [if_neg hlt] at w
              exact w.elim
          | _ => simp only [ha, SOut] at w
      | _ => simp only [dAug, hi, SOut] at w
theorem s_aug {i : Nat} {x : Str} {op : Operator} {g : Int → Int → Int} {pos' : Pos} (hN : X.N.Nodup) (hi : X.N[i]? = some x) (hx : Loc X.env.scope x) (he : PE X e (tE c m)) (ho : PIp X op (ipI g)) (hf : X.fn x = true ∨ X.env.scope.names.lookup x = some .local := by first | exact .inl rfl | exact .inr rfl | assumption)
    (hl : lkOk c.lk i = true := by rfl) (hv : Vis X.env.scope x := by first | exact Or.inl rfl | exact Or.inr (Or.inl rfl) | exact Or.inr (Or.inr rfl)) : PS X (.AugAssign (.Name x pos') op e pos) (tS c (dAug i g m)) := (ps_aug hN hi hx he ho).imp fun _ _ _ w => aug_imp hl w
/-! ### a, b = e -/
end
def gNames : List Nat → TGs
  | [] => gNil
  | i :: is => gCons (gName i) (gNames is)
theorem gNames_of {is : List Nat} : ∀ {vs : List V} {σ : St} {H : Hp} {Q : St → Hp → Prop}, vs.length = is.length → Q (setV is vs σ) H → gNames is vs σ H Q := by
  induction is with
  | nil =>
    intro vs σ H Q hl q
    have e : vs = [] := List.length_eq_zero_iff.mp hl
    subst e
    exact ⟨rfl, q⟩
  | cons i is ih =>
    intro vs σ H Q hl q
    cases vs with
    | nil => cases hl
    | cons v vs => exact ⟨v, vs, rfl, ih (by simpa using hl) q⟩
theorem setAll_len : ∀ {is : List Nat} {ds : List D} {ρ ρ' : Env}, setAll is ds ρ = some ρ' → ds.length = is.length
  | [], [], _, _, _ => rfl
  | [], _ :: _, _, _, h => by simp only [setAll, reduceCtorEq] at h
  | _ :: _, [], _, _, h => by simp only [setAll, reduceCtorEq] at h
  | i :: is, d :: ds, ρ, ρ', h => by
    simp only [setAll] at h
    split at h
    · rw [List.length_cons, List.length_cons, setAll_len h]
    · cases h
section
variable {c : Cc} {X : Cx} {e : Expr} {es : List Expr} {m : DE} {pos : Pos} {is : List Nat}
theorem asgT_imp {n : Nat} {D : Ends} {σ : St} {H : Hp} (hn : is.length = n) (hl : ∀ i ∈ is, lkOk c.lk i = true) (w : tS c (dAsgT is m) D σ H) : tAsg (tE c m) (gTup c.G.K n (gNames is)) D σ H := by
  obtain ⟨Z, ρ, F, S, w⟩ := w
  show tE c m σ H fun x H1 => gTup c.G.K n (gNames is) x σ H1 D.nx
  cases ha : m ρ with
  | bad => simp only [dAsgT, ha, SOut] at w
  | ex x xs ρ1 =>
    simp only [dAsgT, ha, SOut] at w
    exact tE.ex S ha fun Z' H' F' => w Z' H' F' σ
  | ok f1 d e1 ρ1 =>
    simp only [dAsgT, ha, SOut] at w
    by_cases hk : (f1 || frz d) = true
    · rw [if_pos hk] at w
      refine tE.ok S ha fun Z1 H1 F1 v G1 P1 R1 f1h => ?_
      have fr := fresh_or hk R1 f1h
      cases d with
      | box own kd ds =>
        cases kd with
        | tup =>
          simp only [SOut] at w
          cases hs : setAll is ds ρ1 with
          | none => simp only [hs, SOut] at w
          | some ρ2 =>
            simp only [hs, SOut] at w
            obtain ⟨_, a, vs, rfl, ht, hr⟩ := rep_tup P1.sta.zh R1
            obtain ⟨F2, S2, h2⟩ := P1.sta.setAll hr fr.nd fr.nz fr.nf (fun i hi => lkOk.ne (hl i hi)) hs
            have hlen : vs.length = is.length := by rw [← hr.length]; exact setAll_len hs
            exact ⟨a, vs, rfl, ex_t P1.sta.zh ht, hlen.trans hn, gNames_of hlen (w Z1 H1 F2 _ (P1.st.sub' fr h2) S2)⟩
        | _ => simp only [SOut] at w
      | _ => simp only [SOut] at w
    · rw [if_neg hk] at w
      exact w.elim
theorem s_asgT {k : Nat} {n : Nat} (hc : X.calm = true) (he : PE X e (tE c m)) (hg : PGs X es (gNames is)) (hn : is.length = n) (hK : X.K = c.G.K := by rfl) (hl : is.all (lkOk c.lk) = true := by rfl) (hn1 : (assignEach es X.env).length = n := by rfl) (hst : (assignEach es X.env).findIdx? (·.1) = none := by rfl)
    (hs : swapsWithSole [.Tuple es k p0] e pos.line X.env = pure false := by rfl) (hw : swappedStores [.Tuple es k p0] e X.env = pure none := by rfl) : PS X (.Assign [.Tuple es k p0] e pos) (tS c (dAsgT is m)) := (ps_asg he (pg_tup hc hg hn1 hst) hs hw).imp fun D σ H w => by
  rw [hK]
  exact asgT_imp hn (List.all_eq_true.mp hl) w
end
end Dd
/-! What changes a list in its slot. -/
namespace Dd
open PySem L2

section
variable {G : Gx} {lk : List (Nat × V)} {Z H : Hp} {σ : St} {ρ : Env} {F : List Addr}
theorem RepL.split : ∀ {ds : List D} {vs : List V} {F : List Addr} {j : Nat} {d : D}, RepL G Z H ds vs F → ds[j]? = some d → ∃ v A F1 B, vs[j]? = some v ∧ F = A ++ F1 ++ B ∧ Rep G Z H d v F1 ∧
    (∀ e u Ge, Rep G Z H e u Ge → RepL G Z H (ds.set j e) (vs.set j u) (A ++ Ge ++ B)) ∧ RepL G Z H (ds.eraseIdx j) (vs.eraseIdx j) (A ++ B)
  | [], _, _, _, _, _, e => by simp at e
  | c :: ds, vs, F, 0, d, h, e => by
    obtain ⟨v, vs', F1, F2, e1, e2, h1, h2⟩ := h
    simp only [List.getElem?_cons_zero, Option.some.injEq] at e
    subst e
    exact ⟨v, [], F1, F2, by rw [e1]; rfl, by rw [e2]; rfl, h1, fun e u Ge r => ⟨u, vs', Ge, F2, by rw [e1]; rfl, rfl, r, h2⟩, by rw [e1]; exact h2⟩
  | c :: ds, vs, F, j + 1, d, h, e => by
    obtain ⟨v, vs', F1, F2, e1, e2, h1, h2⟩ := h
    simp only [List.getElem?_cons_succ] at e
    obtain ⟨w, A, F3, B, g1, g2, g3, g4, g5⟩ := RepL.split h2 e
    exact ⟨w, F1 ++ A, F3, B, by rw [e1]; exact g1, by rw [e2, g2]; simp, g3, fun e u Ge r => ⟨v, vs'.set j u, F1, A ++ Ge ++ B, by rw [e1]; rfl, by simp, h1, g4 e u Ge r⟩, ⟨v, vs'.eraseIdx j, F1, A ++ B, by rw [e1]; rfl, by simp, h1, g5⟩⟩
/-- a list in its slot is written -/
theorem State.write {i : Nat} {ds : List D} (S : State G lk Z H σ ρ F) (hi : ρ[i]? = some (some (.box true .lst ds))) : ∃ a vs A Fi B, σ[i]? = some (some (.ref a)) ∧ H a = some (.lst vs) ∧ F = A ++ (a :: Fi) ++ B ∧ RepL G Z H ds vs Fi ∧ Fi.Nodup ∧ (∀ b ∈ Fi, b ≠ a ∧ b ∉ A ++ B) ∧
    ∀ ds' vs' F2, RepL G Z H ds' vs' F2 → F2.Nodup → (∀ b ∈ F2, Z b = none ∧ b ≠ a ∧ b ∉ A ++ B) →
      ∃ F', State G lk Z (upd H a (.lst vs')) σ (ρ.set i (some (.box true .lst ds'))) F' ∧ Step Z H (F ++ F2) Z (upd H a (.lst vs')) F' ∧ ∀ b ∈ F', b = a ∨ b ∈ A ++ B ∨ b ∈ F2 := by
  obtain ⟨v, A, F1, B, g1, g2, g3, g4⟩ := S.rs.get hi
  have hlt : i < ρ.length := by
    rcases Nat.lt_or_ge i ρ.length with h | h
    · exact h
    · rw [List.getElem?_eq_none h] at hi; cases hi
  obtain ⟨a, vs, Fi, rfl, _, hl, ho, _, hF⟩ := rep_lst S.zh g3
  have hF := hF rfl
  subst hF
  have ho := ho rfl
  obtain ⟨n1, n2, n3⟩ := nodup_mid (by rw [← g2]; exact S.nd)
  obtain ⟨n4, n5⟩ := List.nodup_cons.mp n2
  have za : Z a = none := S.fz a (by rw [g2]; exact mem_mid.mpr (.inl List.mem_cons_self))
  have na : a ∉ A ++ B := n3 a List.mem_cons_self
  refine ⟨a, vs, A, Fi, B, g1, ho, g2, hl, n5, fun b hb => ⟨fun q => n4 (q ▸ hb), n3 b (List.mem_cons_of_mem _ hb)⟩, fun ds' vs' F2 r nd p => ?_⟩
  have keep : ∀ b o, b ≠ a → H b = some o → upd H a (.lst vs') b = some o := fun b o q e => by rw [upd_ne q]; exact e
  have tgk : ∀ P, TBx.Tb H P → TBx.Tb (upd H a (.lst vs')) P := fun P t => t.upd ho (fun _ z => nomatch z) (fun _ _ z => nomatch z)
  have zh : Ex Z (upd H a (.lst vs')) := fun b o e => keep b o (fun q => by rw [q, za] at e; cases e) (S.zh b o e)
  have rr : Rep G Z (upd H a (.lst vs')) (.box true .lst ds') (.ref a) (a :: F2) := ⟨a, vs', F2, rfl, r.mono (Ex.refl _) fun b hb o e _ => keep b o (p b hb).2.1 e, fun q => (nomatch q), fun _ => ⟨rfl, _, upd_same, rfl⟩⟩
  have rest : RepS G Z (upd H a (.lst vs')) (ρ.set i none) σ (A ++ B) := g4.mono (Ex.refl _) fun b hb o e _ => keep b o (fun q => na (q ▸ hb)) e
  obtain ⟨A', B', p1, p2⟩ := RepS.put (i := i) rest (by rw [List.getElem?_set_self hlt]) rr
  rw [List.set_set] at p2
  have es : σ.set i (some (.ref a)) = σ := by
    have hs : i < σ.length := by rw [← S.rs.length]; exact hlt
    rw [List.getElem?_eq_getElem hs] at g1
    rw [← Option.some.inj g1, List.set_getElem_self]
  rw [es] at p2
  have hF : ∀ b ∈ A' ++ (a :: F2) ++ B', b ∈ F ∨ b ∈ F2 := fun b h => by
    rcases mem_mid.mp h with h | h
    · rcases List.mem_cons.mp h with h | h
      · exact .inl (by rw [g2, h]; exact mem_mid.mpr (.inl List.mem_cons_self))
      · exact .inr h
    · rw [← p1] at h
      exact .inl (by rw [g2]; exact mem_mid.mpr (.inr h))
  have hF2 : ∀ b ∈ A' ++ (a :: F2) ++ B', b = a ∨ b ∈ A ++ B ∨ b ∈ F2 := fun b h => by
    rcases mem_mid.mp h with h | h
    · exact (List.mem_cons.mp h).imp id .inr
    · rw [← p1] at h
      exact .inr (.inl h)
  refine ⟨A' ++ (a :: F2) ++ B', ⟨zh, p2, nodup_put (by rw [← p1]; exact n1) (List.nodup_cons.mpr ⟨fun q => (p a q).2.1 rfl, nd⟩) fun b hb q => ?_, fun b hb => ?_, S.lk, ⟨fun P hP => ⟨tgk P (S.tb.1 P hP).1, (S.tb.1 P hP).2⟩, fun q xs h => S.tb.2.1 q xs (tp_upd (u := .lst vs') (fun _ z => nomatch z) h), S.tb.2.2⟩⟩, ⟨Ex.refl _, zh, fun b h => ?_, fun b o e hn _ => keep b o (fun q => hn (List.mem_append_left _ (by rw [g2, q]; exact mem_mid.mpr (.inl List.mem_cons_self)))) e, fun P t _ => tgk P t, fun b hb => .inl (List.mem_append.mpr (hF b hb)), fun b _ _ z => z, fun q xs h => .inl (tp_upd (u := .lst vs') (fun _ z => nomatch z) h), fun _ _ h => h⟩, hF2⟩
  · rw [← p1] at q
    rcases List.mem_cons.mp hb with h | h
    · exact na (h ▸ q)
    · exact (p b h).2.2 q
  · rcases mem_mid.mp hb with h | h
    · rcases List.mem_cons.mp h with h | h
      · rw [h]; exact za
      · exact (p b h).1
    · rw [← p1] at h
      exact S.fz b (by rw [g2]; exact mem_mid.mpr (.inr h))
  · by_cases q : b = a
    · rw [q, upd_same]; exact Option.some_ne_none _
    · rw [upd_ne q]; exact h
end

def dApp (i : Nat) (m : DE) : DS := fun ρ => match ρ[i]? with
  | some (some (.box true .lst _)) => (match m ρ with
    | .ok f d _ ρ1 => if (f || frz d) = true then (match ρ1[i]? with
      | some (some (.box true .lst ds)) => if ds.length < 1000000 then .nx (ρ1.set i (some (.box true .lst (ds ++ [d])))) else .bad
      | _ => .bad) else .bad
    | .ex c xs ρ1 => .ex c xs ρ1
    | .bad => .bad)
  | _ => .bad
/-- x[k] = e -/
def dSetI (i : Nat) (mk me : DE) : DS := fun ρ => match ρ[i]? with
  | some (some _) => (match me ρ with
    | .ok f d e1 ρ1 => if (f || frz d) = true then (match mk ρ1 with
      | .ok _ (.int k) e2 ρ2 => (match ρ2[i]? with
        | some (some (.box true .lst ds)) => (match ixN ds.length k with
          | some j => .nx (ρ2.set i (some (.box true .lst (ds.set j d))))
          | none => .bad)
        | _ => .bad)
      | .ok _ _ _ _ => .bad
      | .ex c xs ρ2 => .ex c xs ρ2
      | .bad => .bad) else .bad
    | .ex c xs ρ1 => .ex c xs ρ1
    | .bad => .bad)
  | _ => .bad
/-- x.pop(k) -/
def dPopAt (i : Nat) (mk : DE) : DE := fun ρ => match ρ[i]? with
  | some (some (.box true .lst _)) => (match mk ρ with
    | .ok _ (.int k) _ ρ1 => (match ρ1[i]? with
      | some (some (.box true .lst ds)) => if ds.length < 1000000 then (match ixN ds.length k with
        | some j => (match ds[j]? with
          | some d => .ok true d true (ρ1.set i (some (.box true .lst (ds.eraseIdx j))))
          | none => .bad)
        | none => .bad) else .bad
      | _ => .bad)
    | .ok _ _ _ _ => .bad
    | .ex c xs ρ1 => .ex c xs ρ1
    | .bad => .bad)
  | _ => .bad
section
variable {c : Cc} {X : Cx} {e : Expr} {st : Stmt} {m mk me : DE} {i : Nat}
theorem app_imp {D : Ends} {σ : St} {H : Hp} (w : tS c (dApp i m) D σ H) : tDrop (tBM c.G.K "list" rAppend (tVar i) (tCons (tE c m) tNil)) D σ H := by
  obtain ⟨Z, ρ, F, S, w⟩ := w
  show ∃ v, σ[i]? = some (some v) ∧ tyV c.G.K "list" v H ∧ tE c m σ H fun x H1 => rAppend v [x] H1 fun _ H2 => D.nx σ H2
  unfold dApp at w
  split at w
  · rename_i ds0 hi
    obtain ⟨a0, vs0, A0, F0, B0, g1, g2, _⟩ := S.write hi
    refine ⟨.ref a0, g1, .inl ⟨rfl, _, SqL.of g2⟩, ?_⟩
    split at w
    · rename_i f d eff ρ1 ha
      split at w
      · rename_i hk
        split at w
        · rename_i ds hj
          split at w
          · rename_i hlen
            refine tE.ok S ha fun Z1 H1 F1 u G1 P1 R1 f1h => ?_
            have fr := fresh_or hk R1 f1h
            obtain ⟨a, vs, A, Fi, B, q1, q2, q3, q4, q5, q6, q7⟩ := P1.sta.write hj
            have ea : a0 = a := by
              rw [g1] at q1
              have z := Option.some.inj (Option.some.inj q1)
              exact V.ref.inj z
            subst ea
            have inFi : ∀ b ∈ Fi, b ∈ F1 := fun b hb => by rw [q3]; exact mem_mid.mpr (.inl (List.mem_cons_of_mem _ hb))
            have r2 : RepL c.G Z1 H1 (ds ++ [d]) (vs ++ [u]) (Fi ++ (G1 ++ [])) := q4.append ⟨u, [], G1, [], rfl, rfl, R1, rfl, rfl⟩
            rw [List.append_nil] at r2
            obtain ⟨F', S', st', hF⟩ := q7 _ _ _ r2 (List.nodup_append.mpr ⟨q5, fr.nd, fun b hb b2 hb2 e => fr.nf b2 hb2 (e ▸ inFi b hb)⟩) fun b hb => by
              rcases List.mem_append.mp hb with hb | hb
              · exact ⟨P1.sta.fz b (inFi b hb), q6 b hb⟩
              · exact ⟨fr.nz b hb, fun q => fr.nf b hb (by rw [q3, q]; exact mem_mid.mpr (.inl List.mem_cons_self)), fun q => fr.nf b hb (by rw [q3]; exact mem_mid.mpr (.inr q))⟩
            refine ⟨a0, vs, u, rfl, rfl, q2, by rw [← q4.length]; exact big_lt hlen, w Z1 _ F' σ (P1.st.call fr st' (fun b hb => ?_) fun b hb => .inr hb) S'⟩
            rcases List.mem_append.mp hb with hb | hb
            · exact .inl hb
            · exact (List.mem_append.mp hb).imp (inFi b) id
          · exact w.elim
        · exact w.elim
      · exact w.elim
    · rename_i x xs ρ1 ha
      exact tE.ex S ha fun Z' H' F' => w Z' H' F' σ
    · exact w.elim
  · exact w.elim
theorem s_app (h : PS X st (tDrop (tBM c.G.K "list" rAppend (tVar i) (tCons (tE c m) tNil)))) : PS X st (tS c (dApp i m)) := h.imp fun _ _ _ w => app_imp w
theorem setI_imp {D : Ends} {σ : St} {H : Hp} (w : tS c (dSetI i mk me) D σ H) : tAsg (tE c me) (gSub (tVar i) (tE c mk) rSetL) D σ H := by
  obtain ⟨Z, ρ, F, S, w⟩ := w
  show tE c me σ H fun x H1 => ∃ v, σ[i]? = some (some v) ∧ tE c mk σ H1 fun k H2 => rSetL v k x H2 fun H3 => D.nx σ H3
  unfold dSetI at w
  split at w
  · rename_i d0 hi
    obtain ⟨v0, _, _, _, g1, _⟩ := S.rs.get hi
    split at w
    · rename_i f d eff ρ1 ha
      split at w
      · rename_i hk
        refine tE.ok S ha fun Z1 H1 F1 u G1 P1 R1 f1h => ⟨v0, g1, ?_⟩
        have fr := fresh_or hk R1 f1h
        split at w
        · rename_i f2 k e2 ρ2 hb
          split at w
          · rename_i ds hj
            split at w
            · rename_i j hx
              refine tE.ok P1.sta hb fun Z2 H2 F2 kv G2 P2 R2 _ => ?_
              have dm : ∀ b ∈ G1, H1 b ≠ none := fun b hb => let ⟨_, h, _⟩ := R1.dom b hb; ne_none h
              have R1' : Rep c.G Z2 H2 d u G1 := R1.mono P2.st.zz fun b hb o e => P2.st.fr b o e (fr.nf b hb)
              have fr2 := fr.later dm P2
              have P := P1.trans P2
              obtain ⟨a, vs, A, Fi, B, q1, q2, q3, q4, q5, q6, q7⟩ := P.sta.write hj
              have ea : v0 = .ref a := by
                rw [g1] at q1
                exact Option.some.inj (Option.some.inj q1)
              subst ea
              have hjl : j < ds.length := (ixN_seq hx).2.1
              obtain ⟨w0, A2, F3, B2, p1, p2, p3, p4, _⟩ := q4.split (List.getElem?_eq_getElem hjl)
              obtain ⟨n1, n2, n3⟩ := nodup_mid (by rw [← p2]; exact q5)
              have inFi : ∀ b ∈ A2 ++ B2, b ∈ Fi := fun b hb => by rw [p2]; exact mem_mid.mpr (.inr hb)
              have inF : ∀ b ∈ Fi, b ∈ F2 := fun b hb => by rw [q3]; exact mem_mid.mpr (.inl (List.mem_cons_of_mem _ hb))
              obtain ⟨F', S', st', hF⟩ := q7 _ _ _ (p4 d u G1 R1') (nodup_put n1 fr.nd fun b hb q => fr2.nf b hb (inF b (inFi b q))) fun b hb => by
                rcases mem_mid.mp hb with hb | hb
                · exact ⟨fr2.nz b hb, fun q => fr2.nf b hb (by rw [q3, q]; exact mem_mid.mpr (.inl List.mem_cons_self)), fun q => fr2.nf b hb (by rw [q3]; exact mem_mid.mpr (.inr q))⟩
                · exact ⟨P.sta.fz b (inF b (inFi b hb)), q6 b (inFi b hb)⟩
              refine ⟨a, vs, k, j, rfl, R2.1, q2, by rw [← q4.length]; exact hx, w Z2 _ F' σ (P.st.call fr2 st' (fun b hb => ?_) fun b hb => .inr hb) S'⟩
              rcases List.mem_append.mp hb with hb | hb
              · exact .inl hb
              · rcases mem_mid.mp hb with hb | hb
                · exact .inr hb
                · exact .inl (inF b (inFi b hb))
            · exact w.elim
          · exact w.elim
        · exact w.elim
        · rename_i x xs ρ2 hb
          exact tE.ex P1.sta hb fun Z2 H2 F2 s2 S2 => w Z2 H2 F2 σ (P1.st.trans s2) S2
        · exact w.elim
      · exact w.elim
    · rename_i x xs ρ1 ha
      exact tE.ex S ha fun Z' H' F' => w Z' H' F' σ
    · exact w.elim
  · exact w.elim
theorem s_setI (h : PS X st (tAsg (tE c me) (gSub (tVar i) (tE c mk) rSetL))) : PS X st (tS c (dSetI i mk me)) := h.imp fun _ _ _ w => setI_imp w
theorem popAt_imp {Q : VK} {σ : St} {H : Hp} (w : tE c (dPopAt i mk) σ H Q) : tBM c.G.K "list" rPopAt (tVar i) (tCons (tE c mk) tNil) σ H Q := by
  obtain ⟨Z, ρ, F, S, w⟩ := w
  show ∃ v, σ[i]? = some (some v) ∧ tyV c.G.K "list" v H ∧ tE c mk σ H fun x H1 => rPopAt v [x] H1 Q
  generalize hr : dPopAt i mk ρ = r at w
  unfold dPopAt at hr
  split at hr
  · rename_i ds0 hi
    obtain ⟨a0, vs0, A0, F0, B0, g1, g2, _⟩ := S.write hi
    refine ⟨.ref a0, g1, .inl ⟨rfl, _, SqL.of g2⟩, ?_⟩
    split at hr
    · rename_i f k eff ρ1 ha
      split at hr
      · rename_i ds hj
        split at hr
        · rename_i hlen
          split at hr
          · rename_i j hx
            split at hr
            · rename_i d hd
              subst hr
              refine tE.ok S ha fun Z1 H1 F1 u G1 P1 R1 f1h => ?_
              obtain ⟨a, vs, A, Fi, B, q1, q2, q3, q4, q5, q6, q7⟩ := P1.sta.write hj
              have ea : a0 = a := by
                rw [g1] at q1
                exact V.ref.inj (Option.some.inj (Option.some.inj q1))
              subst ea
              obtain ⟨w0, A2, F3, B2, p1, p2, p3, _, p5⟩ := q4.split hd
              obtain ⟨n1, n2, n3⟩ := nodup_mid (by rw [← p2]; exact q5)
              have inFi : ∀ b ∈ A2 ++ B2, b ∈ Fi := fun b hb => by rw [p2]; exact mem_mid.mpr (.inr hb)
              have inF3 : ∀ b ∈ F3, b ∈ Fi := fun b hb => by rw [p2]; exact mem_mid.mpr (.inl hb)
              have inF : ∀ b ∈ Fi, b ∈ F1 := fun b hb => by rw [q3]; exact mem_mid.mpr (.inl (List.mem_cons_of_mem _ hb))
              obtain ⟨F', S', st', hF⟩ := q7 _ _ _ p5 n1 fun b hb => ⟨P1.sta.fz b (inF b (inFi b hb)), q6 b (inFi b hb)⟩
              obtain ⟨h1, h2, h3, h4⟩ := ixN_seq hx
              have hvl : vs.length < 1000000 := by rw [← q4.length]; exact hlen
              have r3 : Rep c.G Z1 (upd H1 a0 (.lst (vs.eraseIdx j))) d w0 F3 := p3.mono (Ex.refl _) fun b hb o e _ => by rw [upd_ne (q6 b (inF3 b hb)).1]; exact e
              have st2 : Step Z H F Z1 (upd H1 a0 (.lst (vs.eraseIdx j))) F' := P1.st.call (G1 := []) Fresh.nil st' (fun b hb => ?_) fun b hb => .inr hb
              · refine ⟨a0, vs, k, j, w0, rfl, by rw [R1.1], q2, by rw [← q4.length] at hvl; omega, by rw [← q4.length] at hvl; omega, by rw [← q4.length]; exact h1, p1, w Z1 _ F' w0 F3 ⟨st2, S', fun q => nomatch q⟩ r3 fun _ => ⟨n2, fun b hb => P1.st.ff b (inF b (inF3 b hb)), fun b hb => P1.sta.fz b (inF b (inF3 b hb)), fun b hb q => ?_⟩⟩
                rcases hF b q with h | h | h
                · exact (q6 b (inF3 b hb)).1 h
                · exact (q6 b (inF3 b hb)).2 h
                · exact n3 b hb h
              · exact .inl ((List.mem_append.mp hb).elim id fun h => inF b (inFi b h))
            · subst hr; exact w.elim
          · subst hr; exact w.elim
        · subst hr; exact w.elim
      · subst hr; exact w.elim
    · subst hr; exact w.elim
    · rename_i x xs ρ1 ha
      subst hr
      exact tE.ex S ha fun Z' H' F' => w Z' H' F'
    · subst hr; exact w.elim
  · subst hr; exact w.elim
theorem e_popAt (h : PE X e (tBM c.G.K "list" rPopAt (tVar i) (tCons (tE c mk) tNil))) : PE X e (tE c (dPopAt i mk)) := h.imp fun _ _ _ w => popAt_imp w
end
end Dd
/-! Loops. -/
namespace Dd
open PySem L2

/-- an iterator that hands out ds; it reads what stands at Gk -/
structure IterOk (G : Gx) (J : It) (Z H : Hp) (ds : List D) (Gk : List Addr) : Prop where
  go : ∀ Z2 H2, Ex Z Z2 → Ex Z2 H2 → (∀ a ∈ Gk, ∀ o, H a = some o → (∀ ps, o ≠ .tbl ps) → H2 a = some o) → ∀ i d, ds[i]? = some d → J.go i H2 ∧ ∀ x H3, J.yld i H2 x H3 → TpOk Z2 H2 → ∃ Z3, New Z2 H2 Z3 H3 ∧ Rep G Z3 H3 d x []
  stop : ∀ Z2 H2, Ex Z Z2 → Ex Z2 H2 → (∀ a ∈ Gk, ∀ o, H a = some o → (∀ ps, o ≠ .tbl ps) → H2 a = some o) → J.stop ds.length H2
abbrev DI := Env → Res (List D)
def tI (c : Cc) (m : DI) : TI := fun σ H R => ∃ Z ρ F, State c.G c.lk Z H σ ρ F ∧ match m ρ with
  | .ok _ ds eff ρ' => ∀ Z' H' F' Gk J, PostE c Z H σ ρ F eff ρ' Z' H' F' → Fresh H F Z' F' Gk → (∀ a ∈ Gk, H' a ≠ none) → IterOk c.G J Z' H' ds Gk → R J H'
  | .ex x xs ρ' => ∀ Z' H' F', Step Z H F Z' H' F' → State c.G c.lk Z' H' σ ρ' F' → c.W x xs σ H'
  | .bad => False
theorem _root_.L2.PI.imp {X : Cx} {tg e : Expr} {t u : TI} (h : PI X tg e t) (k : ∀ σ H R, u σ H R → t σ H R) : PI X tg e u := ⟨fun pins s σ H R I w => h.run pins s σ H R I (k σ H R w)⟩

/-! ### what is walked -/
def dItems (m : DE) : DI := fun ρ => match m ρ with
  | .ok f (.box own .lst ds) e ρ1 => if ((f || !own) && frzL ds) = true then .ok true ds e ρ1 else .bad
  | .ok _ (.box _ .tup ds) e ρ1 => if frzL ds = true then .ok true ds e ρ1 else .bad
  | .ok _ _ _ _ => .bad
  | .ex c xs ρ1 => .ex c xs ρ1
  | .bad => .bad
def rangeD (lo : Int) (n : Nat) : List D := (List.range n).map fun (i : Nat) => D.int (lo + (i : Int))
def okR (i : Int) : Bool := decide (i.natAbs < 2 ^ 62)
def dRange1 (a : DA) : DI := fun ρ => match a ρ with
  | .ok _ [.int n] e ρ1 => if okR n = true then .ok true (rangeD 0 n.toNat) e ρ1 else .bad
  | .ok _ _ _ _ => .bad
  | .ex c xs ρ1 => .ex c xs ρ1
  | .bad => .bad
def dRange2 (a : DA) : DI := fun ρ => match a ρ with
  | .ok _ [.int i, .int n] e ρ1 => if (okR i && okR n) = true then .ok true (rangeD i (n - i).toNat) e ρ1 else .bad
  | .ok _ _ _ _ => .bad
  | .ex c xs ρ1 => .ex c xs ρ1
  | .bad => .bad
section
variable {G : Gx} {Z H : Hp}
theorem it_list {a : Addr} {vs : List V} {ds : List D} {Gk : List Addr} (zh : Ex Z H) (h : SqL G.K Z a vs ∨ (a ∈ Gk ∧ H a = some (.lst vs))) (r : RepL G Z H ds vs []) : IterOk G (Itl G.K a) Z H ds Gk := by
  have sq : ∀ Z2 H2, Ex Z Z2 → Ex Z2 H2 → (∀ a ∈ Gk, ∀ o, H a = some o → (∀ ps, o ≠ .tbl ps) → H2 a = some o) → SqL G.K H2 a vs := fun Z2 H2 e1 e2 k => by
    rcases h with h | ⟨h1, h2⟩
    · exact ex_l e2 (ex_l e1 h)
    · exact SqL.of (k a h1 _ h2 (fun _ z => nomatch z))
  refine ⟨fun Z2 H2 e1 e2 k i d hd => ?_, fun Z2 H2 e1 e2 k => ⟨vs, sq Z2 H2 e1 e2 k, by rw [r.length]; exact Nat.le_refl _⟩⟩
  obtain ⟨v, A, F1, B, g1, g2, g3⟩ := r.get hd
  have hs := sq Z2 H2 e1 e2 k
  refine ⟨⟨vs, v, hs, g1⟩, fun x H3 hy _ => ?_⟩
  obtain ⟨rfl, hx⟩ := hy
  have ev : v = x := Option.some.inj (g1.symm.trans (hx vs hs))
  subst ev
  obtain ⟨h1, rfl⟩ := List.append_eq_nil_iff.mp g2.symm
  obtain ⟨rfl, rfl⟩ := List.append_eq_nil_iff.mp h1
  exact ⟨Z2, New.refl e2, g3.mono e1 fun a ha => by cases ha⟩
theorem it_tup {a : Addr} {vs : List V} {ds : List D} {Gk : List Addr} (zh : Ex Z H) (h : SqT G.K Z a vs) (r : RepL G Z H ds vs []) : IterOk G (Itt G.K a) Z H ds Gk := by
  refine ⟨fun Z2 H2 e1 e2 k i d hd => ?_, fun Z2 H2 e1 e2 k => ⟨vs, ex_t e2 (ex_t e1 h), by rw [r.length]; exact Nat.le_refl _⟩⟩
  obtain ⟨v, A, F1, B, g1, g2, g3⟩ := r.get hd
  have hs := ex_t e2 (ex_t e1 h)
  refine ⟨⟨vs, v, hs, g1⟩, fun x H3 hy _ => ?_⟩
  obtain ⟨rfl, hx⟩ := hy
  have ev : v = x := Option.some.inj (g1.symm.trans (hx vs hs))
  subst ev
  obtain ⟨h1, rfl⟩ := List.append_eq_nil_iff.mp g2.symm
  obtain ⟨rfl, rfl⟩ := List.append_eq_nil_iff.mp h1
  exact ⟨Z2, New.refl e2, g3.mono e1 fun a ha => by cases ha⟩
theorem it_range {lo : Int} {n : Nat} {Gk : List Addr} : IterOk G (Itr lo n) Z H (rangeD lo n) Gk := by
  have hl : (rangeD lo n).length = n := by simp [rangeD]
  refine ⟨fun Z2 H2 e1 e2 k i d hd => ?_, fun Z2 H2 e1 e2 k => by rw [hl]; exact Nat.le_refl n⟩
  have hi : i < n := by
    have := (List.getElem?_eq_some_iff.mp hd).1
    rwa [hl] at this
  have ed : d = .int (lo + (i : Int)) := by
    unfold rangeD at hd
    rw [List.getElem?_map, List.getElem?_range hi] at hd
    exact (Option.some.inj hd).symm
  subst ed
  refine ⟨hi, fun x H3 hy _ => ?_⟩
  obtain ⟨rfl, rfl⟩ := hy
  exact ⟨Z2, New.refl e2, rfl, rfl⟩
end
theorem pi_or {X : Cx} {tg e : Expr} {t u : TI} (h : PI X tg e t) (h' : PI X tg e u) : PI X tg e (fun σ H R => t σ H R ∨ u σ H R) := ⟨fun pins s σ H R I w => w.elim (h.run pins s σ H R I) (h'.run pins s σ H R I)⟩
section
variable {c : Cc} {X : Cx} {tg e a b : Expr} {es : List Expr} {m : DE} {ma : DA} {p pos : Pos}
theorem i_items (h : PE X e (tE c m)) (hK : X.K = c.G.K := by rfl) : PI X tg e (tI c (dItems m)) := (pi_or (pi_list (tg := tg) h) (pi_tup h)).imp fun σ H R w => by
  rw [hK]
  obtain ⟨Z, ρ, F, S, w⟩ := w
  generalize hr : dItems m ρ = r at w
  unfold dItems at hr
  split at hr
  · rename_i f own ds eff ρ1 ha
    split at hr
    · rename_i hk
      subst hr
      rw [Bool.and_eq_true] at hk
      refine .inl (tE.ok S ha fun Z1 H1 F1 v G1 P1 R1 f1h => ?_)
      obtain ⟨a, vs, F', rfl, hs, hl, ho, hz, hF⟩ := rep_lst P1.sta.zh R1
      have e0 := hl.frz_nil hk.2
      subst e0
      refine ⟨a, rfl, ⟨vs, hs⟩, ?_⟩
      cases own with
      | false =>
        obtain ⟨rfl, _, hz⟩ := hz rfl
        exact w Z1 H1 F1 [] _ P1 Fresh.nil (by simp) (it_list P1.sta.zh (.inl hz) hl)
      | true =>
        have hF := hF rfl
        subst hF
        have hf : f = true := by simpa using hk.1
        exact w Z1 H1 F1 [a] _ P1 (f1h hf) (fun b hb => by rw [List.mem_singleton.mp hb, ho rfl]; exact Option.some_ne_none _) (it_list P1.sta.zh (.inr ⟨List.mem_singleton_self a, ho rfl⟩) hl)
    · subst hr; exact w.elim
  · rename_i f own ds eff ρ1 ha
    split at hr
    · rename_i hk
      subst hr
      refine .inr (tE.ok S ha fun Z1 H1 F1 v G1 P1 R1 f1h => ?_)
      obtain ⟨_, a, vs, rfl, ht, hl⟩ := rep_tup P1.sta.zh R1
      have e0 := hl.frz_nil hk
      subst e0
      exact ⟨a, rfl, ⟨vs, ex_t P1.sta.zh ht⟩, w Z1 H1 F1 [] _ P1 Fresh.nil (by simp) (it_tup P1.sta.zh ht hl)⟩
    · subst hr; exact w.elim
  · subst hr; exact w.elim
  · rename_i ha
    subst hr
    exact .inl (tE.ex S ha w)
  · subst hr; exact w.elim
theorem okR_of {i : Int} (h : okR i = true) : -(2 ^ 62) ≤ i ∧ i < 2 ^ 62 := by
  have h : i.natAbs < 2 ^ 62 := of_decide_eq_true h
  omega
theorem i_range1 (hg : Gl X "range") (hm : X.mg "range" = none) (ha : PA X [a] (tA c ma)) (hs : starEach [a] X.env = [(false, eval a X.env)] := by rfl) : PI X tg (.Call (.Name "range" p) [a] [] pos) (tI c (dRange1 ma)) := (pi_range1 hg hm ha hs).imp fun σ H R w => by
  obtain ⟨Z, ρ, F, S, w⟩ := w
  generalize hr : dRange1 ma ρ = r at w
  unfold dRange1 at hr
  split at hr
  · rename_i f n eff ρ1 ha
    split at hr
    · rename_i hk
      subst hr
      refine tA.ok S ha fun Z1 H1 F1 vs G1 P1 R1 f1h => ?_
      obtain ⟨v, vs', F2, F3, rfl, _, r1, r2⟩ := R1
      exact ⟨n, by rw [r1.1, r2.1], (okR_of hk).1, (okR_of hk).2, w Z1 H1 F1 [] _ P1 Fresh.nil (by simp) it_range⟩
    · subst hr; exact w.elim
  · subst hr; exact w.elim
  · rename_i ha
    subst hr
    exact tA.ex S ha w
  · subst hr; exact w.elim
theorem i_range2 (hg : Gl X "range") (hm : X.mg "range" = none) (ha : PA X [a, b] (tA c ma)) (hs : starEach [a, b] X.env = [(false, eval a X.env), (false, eval b X.env)] := by rfl) (hs2 : starEach [b] X.env = [(false, eval b X.env)] := by rfl) : PI X tg (.Call (.Name "range" p) [a, b] [] pos) (tI c (dRange2 ma)) := (pi_range2 hg hm ha hs hs2).imp fun σ H R w => by
  obtain ⟨Z, ρ, F, S, w⟩ := w
  generalize hr : dRange2 ma ρ = r at w
  unfold dRange2 at hr
  split at hr
  · rename_i f i n eff ρ1 ha
    split at hr
    · rename_i hk
      subst hr
      rw [Bool.and_eq_true] at hk
      refine tA.ok S ha fun Z1 H1 F1 vs G1 P1 R1 f1h => ?_
      obtain ⟨v, vs', F2, F3, rfl, _, r1, v2, vs2, F4, F5, rfl, _, r2, r3⟩ := R1
      exact ⟨i, n, by rw [r1.1, r2.1, r3.1], ⟨(okR_of hk.1).1, (okR_of hk.1).2, (okR_of hk.2).1, (okR_of hk.2).2⟩, w Z1 H1 F1 [] _ P1 Fresh.nil (by simp) it_range⟩
    · subst hr; exact w.elim
  · subst hr; exact w.elim
  · rename_i ha
    subst hr
    exact tA.ex S ha w
  · subst hr; exact w.elim
end

/-! ### targets -/
abbrev Tg := D → Env → Option Env
def tgN (i : Nat) : Tg := fun d ρ => if i < ρ.length then some (ρ.set i (some d)) else none
def tgT (is : List Nat) : Tg := fun d ρ => match d with
  | .box _ .tup ds => setAll is ds ρ
  | _ => none
/-- a target's reading, for items that own nothing -/
def TgOk (G : Gx) (lk : List (Nat × V)) (g : TG) (t : Tg) : Prop := ∀ (Z H : Hp) (σ : St) (ρ ρ' : Env) (F : List Addr) (d : D) (x : V) (Q : St → Hp → Prop), State G lk Z H σ ρ F → Rep G Z H d x [] → t d ρ = some ρ' →
  (∀ σ' F', State G lk Z H σ' ρ' F' → (∀ a ∈ F', a ∈ F) → Q σ' H) → g x σ H Q
theorem tgN_ok {G : Gx} {lk : List (Nat × V)} {i : Nat} (hl : lkOk lk i = true) : TgOk G lk (gName i) (tgN i) := fun Z H σ ρ ρ' F d x Q S r h k => by
  unfold tgN at h
  split at h
  · rename_i hi
    obtain rfl := Option.some.inj h
    obtain ⟨F2, S2, h2⟩ := S.set hi r List.nodup_nil (by simp) (by simp) (lkOk.ne hl)
    exact k _ F2 S2 fun a ha => (h2 a ha).elim id fun q => by cases q
  · cases h
theorem tgT_ok {G : Gx} {lk : List (Nat × V)} {is : List Nat} {n : Nat} (hn : is.length = n) (hl : is.all (lkOk lk) = true) : TgOk G lk (gTup G.K n (gNames is)) (tgT is) := fun Z H σ ρ ρ' F d x Q S r h k => by
  cases d with
  | box own kd ds =>
    cases kd with
    | tup =>
      have h : setAll is ds ρ = some ρ' := h
      obtain ⟨_, a, vs, rfl, ht, hr⟩ := rep_tup S.zh r
      obtain ⟨F2, S2, h2⟩ := S.setAll hr List.nodup_nil (by simp) (by simp) (fun i hi => lkOk.ne (List.all_eq_true.mp hl i hi)) h
      have hlen : vs.length = is.length := by rw [← hr.length]; exact setAll_len h
      exact ⟨a, vs, rfl, ex_t S.zh ht, hlen.trans hn, gNames_of hlen (k _ F2 S2 fun a ha => (h2 a ha).elim id fun q => by cases q)⟩
    | _ => cases h
  | _ => cases h

/-! ### for -/
def forLoop (t : Tg) (body : DS) : List D → DS
  | [], ρ => .nx ρ
  | d :: ds, ρ => match t d ρ with
    | none => .bad
    | some ρ1 => match body ρ1 with
      | .nx ρ2 => forLoop t body ds ρ2
      | .ct ρ2 => forLoop t body ds ρ2
      | .bk ρ2 => .nx ρ2
      | r => r
def dFor (it : DI) (t : Tg) (body : DS) : DS := fun ρ => match it ρ with
  | .ok _ ds _ ρ1 => forLoop t body ds ρ1
  | .ex c xs ρ1 => .ex c xs ρ1
  | .bad => .bad
section
variable {c : Cc} {it : DI} {t : Tg} {g : TG} {body : DS}
theorem SOut.trans {Z H Z1 H1 : Hp} {F F1 : List Addr} {D : Ends} {r : SRes} (st : Step Z H F Z1 H1 F1) (w : SOut c Z H F D r) : SOut c Z1 H1 F1 D r := by
  cases r with
  | nx ρ' => exact fun Z' H' F' σ' s S' => w Z' H' F' σ' (st.trans s) S'
  | bk ρ' => exact fun Z' H' F' σ' s S' => w Z' H' F' σ' (st.trans s) S'
  | ct ρ' => exact fun Z' H' F' σ' s S' => w Z' H' F' σ' (st.trans s) S'
  | rt d ρ' => exact fun Z' H' F' σ' v Gf s S' r f => w Z' H' F' σ' v Gf (st.trans s) S' r (f.step st)
  | ex x xs ρ' => exact fun Z' H' F' σ' s S' => w Z' H' F' σ' (st.trans s) S'
  | bad => exact w
theorem for_imp {D : Ends} {σ : St} {H : Hp} (hg : TgOk c.G c.lk g t) (w : tS c (dFor it t body) D σ H) : tFor (tI c it) g (tS c body) D σ H := by
  obtain ⟨Z, ρ, F, S, w⟩ := w
  generalize hr : dFor it t body ρ = r at w
  unfold dFor at hr
  show tI c it σ H _
  split at hr
  · rename_i f ds eff ρ1 ha
    subst hr
    refine ⟨Z, ρ, F, S, ?_⟩
    rw [ha]
    intro Z1 H1 F1 Gk J P1 fk dk io
    let W : Nat → Nat → St → Hp → Prop := fun i m σ2 H2 => m = ds.length - i ∧ i ≤ ds.length ∧ ∃ Z2 ρ2 F2, State c.G c.lk Z2 H2 σ2 ρ2 F2 ∧ Step Z1 H1 F1 Z2 H2 F2 ∧ SOut c Z2 H2 F2 D (forLoop t body (ds.drop i) ρ2)
    refine ⟨W, ⟨ds.length, rfl, Nat.zero_le _, Z1, ρ1, F1, P1.sta, Step.refl P1.sta.zh, w.trans P1.st⟩, ?_⟩
    rintro i m σ2 H2 ⟨hm, hi, Z2, ρ2, F2, S2, st2, w2⟩
    have kept : ∀ a ∈ Gk, ∀ o, H1 a = some o → (∀ ps, o ≠ .tbl ps) → H2 a = some o := fun a ha o e => st2.fr a o e (fk.nf a ha)
    by_cases hlt : i < ds.length
    · obtain ⟨go, yl⟩ := io.go Z2 H2 st2.zz S2.zh kept i _ (List.getElem?_eq_getElem hlt)
      rw [List.drop_eq_getElem_cons hlt] at w2
      refine .inr ⟨go, fun σ' H' => W (i + 1) (ds.length - (i + 1)) σ' H', fun σ' H' n => ⟨_, by omega, n⟩, fun x H3 hy => ?_⟩
      obtain ⟨Z3, n3, r3⟩ := yl x H3 hy S2.tb.2.1
      cases ht : t ds[i] ρ2 with
      | none => simp only [forLoop, ht, SOut] at w2
      | some ρ3 =>
        simp only [forLoop, ht] at w2
        refine hg Z3 H3 σ2 ρ2 ρ3 F2 _ x _ (S2.new n3) r3 ht fun σ3 F3 S3 h3 => ?_
        have st3 : Step Z2 H2 F2 Z3 H3 F3 := (n3.step (F := F2)).sub fun a ha => .inl (h3 a ha)
        refine ⟨Z3, ρ3, F3, S3, ?_⟩
        have nextW : ∀ {ρ4 : Env}, SOut c Z2 H2 F2 D (forLoop t body (ds.drop (i + 1)) ρ4) → ∀ Z' H' F' σ', Step Z3 H3 F3 Z' H' F' → State c.G c.lk Z' H' σ' ρ4 F' → W (i + 1) (ds.length - (i + 1)) σ' H' := fun {ρ4} w4 Z' H' F' σ' s S' =>
          ⟨rfl, hlt, Z', ρ4, F', S', (st2.trans st3).trans s, w4.trans (st3.trans s)⟩
        cases hb : body ρ3 with
        | nx ρ4 => simp only [hb] at w2; exact nextW w2
        | ct ρ4 => simp only [hb] at w2; exact nextW w2
        | bk ρ4 => simp only [hb] at w2; exact w2.trans st3
        | rt d ρ4 => simp only [hb] at w2; exact w2.trans st3
        | ex x xs ρ4 => simp only [hb] at w2; exact w2.trans st3
        | bad => simp only [hb] at w2; exact w2
    · have ei : i = ds.length := by omega
      subst ei
      rw [List.drop_length] at w2
      exact .inl ⟨io.stop Z2 H2 st2.zz S2.zh kept, w2 Z2 H2 F2 σ2 (Step.refl S2.zh) S2⟩
  · rename_i ha
    subst hr
    exact ⟨Z, ρ, F, S, by rw [ha]; exact fun Z' H' F' => w Z' H' F' σ⟩
  · subst hr; exact w.elim
theorem s_for {X : Cx} {tg iter : Expr} {bs : List Stmt} {pos : Pos} (hp : PassesOwn (model X.prog X.w) X.A X.env X.xe) (hc : X.calm = true) (hi : PI X tg iter (tI c it)) (hg : PG X tg g) (ht : TgOk c.G c.lk g t) (hb : PSs X bs (tS c body))
    (hs : ∀ x, foldedSetIterable iter X.env x = pure x := by intro _; rfl) : PS X (.For tg iter bs [] pos) (tS c (dFor it t body)) := (ps_for hp hc hi hg hb hs).imp fun _ _ _ w => for_imp ht w
end

/-! ### while, at most so many turns -/
def whLoop (t : DT) (body : DS) : Nat → DS
  | 0, _ => .bad
  | n + 1, ρ => match t ρ with
    | .ok _ true _ ρ1 => (match body ρ1 with
      | .nx ρ2 => whLoop t body n ρ2
      | .ct ρ2 => whLoop t body n ρ2
      | .bk ρ2 => .nx ρ2
      | r => r)
    | .ok _ false _ ρ1 => .nx ρ1
    | .ex c xs ρ1 => .ex c xs ρ1
    | .bad => .bad
def dWhile (fuel : Env → Nat) (t : DT) (body : DS) : DS := fun ρ => whLoop t body (fuel ρ) ρ
end Dd
/-! List comprehensions; a def's body. -/
namespace Dd
open PySem L2

def wipeE (ρ : Env) : List Nat → Env
  | [] => ρ
  | v :: vs => (wipeE ρ vs).set v none
def lcLoop (t : Tg) (test : DT) (elt : DE) (vs : List Nat) : List D → List D → Bool → Env → Res (List D)
  | [], acc, eff, ρ => .ok true acc eff ρ
  | d :: ds, acc, eff, ρ => match t d ρ with
    | none => .bad
    | some ρ1 => match test ρ1 with
      | .ok _ true e1 ρ2 => (match elt ρ2 with
        | .ok f x e2 ρ3 => if (f || frz x) = true then (if acc.length < 1000000 then lcLoop t test elt vs ds (acc ++ [x]) (eff || e1 || e2) (wipeE ρ3 vs) else .bad) else .bad
        | _ => .bad)
      | .ok _ false e1 ρ2 => lcLoop t test elt vs ds acc (eff || e1) (wipeE ρ2 vs)
      | _ => .bad
def dLc (it : DI) (t : Tg) (test : DT) (elt : DE) (vs : List Nat) : DE := fun ρ => match it ρ with
  | .ok _ ds e ρ1 => (match lcLoop t test elt vs ds [] false (wipeE ρ1 vs) with
    | .ok _ acc eff ρ2 => .ok true (.box true .lst acc) (e || eff) (if eff = true then ρ2 else ρ1)
    | _ => .bad)
  | .ex c xs ρ1 => .ex c xs ρ1
  | .bad => .bad
def dYes : DT := fun ρ => .ok true true false ρ
section
variable {G : Gx} {lk : List (Nat × V)} {Z H : Hp} {σ : St} {ρ : Env} {F : List Addr}
theorem RepS.wipe : ∀ {vs : List Nat}, RepS G Z H ρ σ F → ∃ F', RepS G Z H (wipeE ρ vs) (wipe σ vs) F' ∧ F'.Sublist F
  | [], h => ⟨F, h, List.Sublist.refl _⟩
  | v :: vs, h => by
    obtain ⟨F1, h1, h2⟩ := RepS.wipe (vs := vs) h
    obtain ⟨F2, h3, h4⟩ := h1.drop v none
    exact ⟨F2, h3, h4.trans h2⟩
theorem wipe_ne {σ : St} {i : Nat} : ∀ {vs : List Nat}, i ∉ vs → (wipe σ vs)[i]? = σ[i]?
  | [], _ => rfl
  | v :: vs, h => by
    unfold wipe
    rw [List.getElem?_set_ne fun q => h (by rw [q]; exact List.mem_cons_self)]
    exact wipe_ne fun q => h (List.mem_cons_of_mem _ q)
theorem State.wipe (S : State G lk Z H σ ρ F) {vs : List Nat} (hl : ∀ v ∈ vs, lkOk lk v = true) : ∃ F', State G lk Z H (wipe σ vs) (wipeE ρ vs) F' ∧ F'.Sublist F := by
  obtain ⟨F1, h1, h2⟩ := S.rs.wipe (vs := vs)
  refine ⟨F1, ⟨S.zh, h1, h2.nodup S.nd, fun a ha => S.fz a (h2.subset ha), fun p hp => ?_, S.tb⟩, h2⟩
  rw [wipe_ne fun q => lkOk.ne (hl _ q) p hp rfl]
  exact S.lk p hp
theorem wipe_get {σ : St} {i : Nat} : ∀ {vs : List Nat}, i ∈ vs → (wipe σ vs)[i]? = if i < σ.length then some none else none
  | [], h => by cases h
  | v :: vs, h => by
    unfold wipe
    by_cases q : v = i
    · subst q
      by_cases hl : v < σ.length
      · rw [List.getElem?_set_self (by rw [wipe_length]; exact hl), if_pos hl]
      · rw [List.getElem?_eq_none (by rw [List.length_set, wipe_length]; omega), if_neg hl]
    · rw [List.getElem?_set_ne q]
      exact wipe_get ((List.mem_cons.mp h).resolve_left fun e => q e.symm)
theorem wipe_congr {σ τ : St} {vs : List Nat} (hl : σ.length = τ.length) (h : ∀ i, i ∉ vs → σ[i]? = τ[i]?) : wipe σ vs = wipe τ vs := by
  refine List.ext_getElem? fun i => ?_
  by_cases q : i ∈ vs
  · rw [wipe_get q, wipe_get q, hl]
  · rw [wipe_ne q, wipe_ne q, h i q]
theorem wipeE_length (ρ : Env) : ∀ vs : List Nat, (wipeE ρ vs).length = ρ.length
  | [] => rfl
  | v :: vs => by unfold wipeE; rw [List.length_set, wipeE_length ρ vs]
theorem wipeE_ne {ρ : Env} {i : Nat} : ∀ {vs : List Nat}, i ∉ vs → (wipeE ρ vs)[i]? = ρ[i]?
  | [], _ => rfl
  | v :: vs, h => by
    unfold wipeE
    rw [List.getElem?_set_ne fun q => h (by rw [q]; exact List.mem_cons_self)]
    exact wipeE_ne fun q => h (List.mem_cons_of_mem _ q)
theorem wipeE_get {ρ : Env} {i : Nat} : ∀ {vs : List Nat}, i ∈ vs → (wipeE ρ vs)[i]? = if i < ρ.length then some none else none
  | [], h => by cases h
  | v :: vs, h => by
    unfold wipeE
    by_cases q : v = i
    · subst q
      by_cases hl : v < ρ.length
      · rw [List.getElem?_set_self (by rw [wipeE_length]; exact hl), if_pos hl]
      · rw [List.getElem?_eq_none (by rw [List.length_set, wipeE_length]; omega), if_neg hl]
    · rw [List.getElem?_set_ne q]
      exact wipeE_get ((List.mem_cons.mp h).resolve_left fun e => q e.symm)
theorem wipeE_congr {σ τ : Env} {vs : List Nat} (hl : σ.length = τ.length) (h : ∀ i, i ∉ vs → σ[i]? = τ[i]?) : wipeE σ vs = wipeE τ vs := by
  refine List.ext_getElem? fun i => ?_
  by_cases q : i ∈ vs
  · rw [wipeE_get q, wipeE_get q, hl]
  · rw [wipeE_ne q, wipeE_ne q, h i q]
theorem wipeE_idem (ρ : Env) (vs : List Nat) : wipeE (wipeE ρ vs) vs = wipeE ρ vs := wipeE_congr (wipeE_length ρ vs) fun i q => wipeE_ne q
/-- what is wiped away does not matter -/
theorem RepS.unwipe : ∀ {ρ : Env} {σ τ : St} {F : List Addr}, RepS G Z H ρ σ F → σ.length = τ.length → (∀ (i : Nat) (d : D), ρ[i]? = some (some d) → τ[i]? = σ[i]?) → RepS G Z H ρ τ F
  | [], σ, τ, F, h, hl, _ => by
    have e : τ = [] := List.length_eq_zero_iff.mp (by rw [← hl, h.1]; rfl)
    exact ⟨e, h.2⟩
  | none :: ρ, σ, τ, F, h, hl, k => by
    obtain ⟨x, σ', rfl, h1⟩ := h
    cases τ with
    | nil => cases hl
    | cons y τ' => exact ⟨y, τ', rfl, RepS.unwipe h1 (by simpa using hl) fun i d e => by simpa using k (i + 1) d (by simpa using e)⟩
  | some d :: ρ, σ, τ, F, h, hl, k => by
    obtain ⟨v, σ', F1, F2, rfl, e2, h1, h2⟩ := h
    cases τ with
    | nil => cases hl
    | cons y τ' =>
      have e0 : y = some v := by simpa using k 0 d rfl
      exact ⟨v, τ', F1, F2, by rw [e0], e2, h1, RepS.unwipe h2 (by simpa using hl) fun i d e => by simpa using k (i + 1) d (by simpa using e)⟩
theorem wipeE_some {ρ : Env} {i : Nat} {d : D} : ∀ {vs : List Nat}, (wipeE ρ vs)[i]? = some (some d) → i ∉ vs
  | [], _ => by simp
  | v :: vs, h => by
    unfold wipeE at h
    by_cases q : v = i
    · subst q
      by_cases hl : v < (wipeE ρ vs).length
      · rw [List.getElem?_set_self hl] at h; cases h
      · rw [List.getElem?_eq_none (by rw [List.length_set]; omega)] at h; cases h
    · rw [List.getElem?_set_ne q] at h
      exact fun m => (List.mem_cons.mp m).elim (fun e => q e.symm) (wipeE_some h)
end
section
variable {c : Cc} {it : DI} {t : Tg} {g : TG} {test : DT} {elt : DE} {vs : List Nat}
/-- within a comprehension nothing is let out -/
def Cc.in (c : Cc) : Cc := { c with W := W0 }
/-- targets within the wiped slots -/
structure TgIn (g : TG) (t : Tg) (vs : List Nat) : Prop where
  tg : ∀ (x : V) (σ : St) (H : Hp) (Q : St → Hp → Prop), g x (wipe σ vs) H (fun σ2 H2 => wipe σ2 vs = wipe σ vs → Q σ2 H2) → g x (wipe σ vs) H fun σ2 H2 => wipe σ2 vs = wipe σ vs ∧ Q σ2 H2
  te : ∀ d ρ ρ', t d ρ = some ρ' → wipeE ρ' vs = wipeE ρ vs
theorem tgIn_N {i : Nat} (h : i ∈ vs) : TgIn (gName i) (tgN i) vs := by
  refine ⟨fun x σ H Q q => have e : wipe ((wipe σ vs).set i (some x)) vs = wipe σ vs := ?_
    ⟨e, q e⟩, fun d ρ ρ' e => ?_⟩
  · refine (wipe_congr (by simp) fun j hj => ?_).trans (wipe_congr (σ := wipe σ vs) (wipe_length σ vs) fun j hj => wipe_ne hj)
    rw [List.getElem?_set_ne fun (q : i = j) => hj (q ▸ h)]
  · unfold tgN at e
    split at e
    · obtain rfl := Option.some.inj e
      exact wipeE_congr (by simp) fun j hj => by rw [List.getElem?_set_ne fun (q : i = j) => hj (q ▸ h)]
    · cases e
theorem setV_ne : ∀ {is : List Nat} {xs : List V} {σ : St} {j : Nat}, j ∉ is → (setV is xs σ)[j]? = σ[j]?
  | [], _, _, _, _ => by simp [setV]
  | _ :: _, [], _, _, _ => by simp [setV]
  | i :: is, x :: xs, σ, j, h => by
    show (setV is xs (σ.set i (some x)))[j]? = _
    rw [setV_ne fun q => h (List.mem_cons_of_mem _ q), List.getElem?_set_ne fun q => h (by rw [q]; exact List.mem_cons_self)]
theorem setV_len : ∀ {is : List Nat} {xs : List V} {σ : St}, (setV is xs σ).length = σ.length
  | [], _, _ => by simp [setV]
  | _ :: _, [], _ => by simp [setV]
  | i :: is, x :: xs, σ => by
    show (setV is xs (σ.set i (some x))).length = _
    rw [setV_len, List.length_set]
theorem setAll_ne : ∀ {is : List Nat} {ds : List D} {ρ ρ' : Env} {j : Nat}, setAll is ds ρ = some ρ' → j ∉ is → ρ'[j]? = ρ[j]?
  | [], [], ρ, ρ', j, h, _ => by simp only [setAll, Option.some.injEq] at h; rw [h]
  | [], _ :: _, _, _, _, h, _ => by simp only [setAll, reduceCtorEq] at h
  | _ :: _, [], _, _, _, h, _ => by simp only [setAll, reduceCtorEq] at h
  | i :: is, d :: ds, ρ, ρ', j, h, hj => by
    simp only [setAll] at h
    split at h
    · rw [setAll_ne h fun q => hj (List.mem_cons_of_mem _ q), List.getElem?_set_ne fun q => hj (by rw [q]; exact List.mem_cons_self)]
    · cases h
theorem setAll_ln : ∀ {is : List Nat} {ds : List D} {ρ ρ' : Env}, setAll is ds ρ = some ρ' → ρ'.length = ρ.length
  | [], [], ρ, ρ', h => by simp only [setAll, Option.some.injEq] at h; rw [h]
  | [], _ :: _, _, _, h => by simp only [setAll, reduceCtorEq] at h
  | _ :: _, [], _, _, h => by simp only [setAll, reduceCtorEq] at h
  | i :: is, d :: ds, ρ, ρ', h => by
    simp only [setAll] at h
    split at h
    · rw [setAll_ln h, List.length_set]
    · cases h
theorem gNames_iff {is : List Nat} : ∀ {xs : List V} {σ : St} {H : Hp} {Q : St → Hp → Prop}, gNames is xs σ H Q → xs.length = is.length ∧ Q (setV is xs σ) H := by
  induction is with
  | nil =>
    intro xs σ H Q ⟨e, q⟩
    subst e
    exact ⟨rfl, q⟩
  | cons i is ih =>
    intro xs σ H Q ⟨v, r, e, q⟩
    subst e
    obtain ⟨h1, h2⟩ := ih q
    exact ⟨by rw [List.length_cons, List.length_cons, h1], h2⟩
theorem tgIn_T {K : PySem.W.Frag} {is : List Nat} {n : Nat} (h : ∀ i ∈ is, i ∈ vs) : TgIn (gTup K n (gNames is)) (tgT is) vs := by
  refine ⟨fun x σ H Q q => ?_, fun d ρ ρ' e => ?_⟩
  · obtain ⟨a, xs, e1, e2, e3, q⟩ := q
    obtain ⟨h1, h2⟩ := gNames_iff q
    have e : wipe (setV is xs (wipe σ vs)) vs = wipe σ vs := ?_
    exact ⟨a, xs, e1, e2, e3, gNames_of h1 ⟨e, h2 e⟩⟩
    exact (wipe_congr setV_len fun j hj => setV_ne fun q => hj (h j q)).trans (wipe_congr (σ := wipe σ vs) (wipe_length σ vs) fun j hj => wipe_ne hj)
  · unfold tgT at e
    split at e
    · exact wipeE_congr (setAll_ln e) fun j hj => setAll_ne e fun q => hj (h j q)
    · cases e
theorem State.upd {G : Gx} {lk : List (Nat × V)} {Z H : Hp} {σ : St} {ρ : Env} {F : List Addr} (S : State G lk Z H σ ρ F) {p : Addr} {o : HO} (hz : Z p = none) (hp : p ∉ F) (ht : ∀ ps, H p ≠ some (.tbl ps)) (hx : ∀ b u, H p ≠ some (.frz b u)) (ho : ∀ xs, o ≠ .tup xs := by intro _ z; cases z) : State G lk Z (upd H p o) σ ρ F :=
  ⟨fun a u e => by rw [upd_ne fun q => by rw [q, hz] at e; cases e]; exact S.zh a u e, S.rs.mono (Ex.refl _) fun a ha u e _ => by rw [upd_ne fun (q : a = p) => hp (q ▸ ha)]; exact e, S.nd, S.fz, S.lk, ⟨fun P hP => by
    exact ⟨(S.tb.1 P hP).1.updN ht hx, (S.tb.1 P hP).2⟩, fun q xs h => S.tb.2.1 q xs (tp_upd ho h), S.tb.2.2⟩⟩
theorem lc_imp {Q : VK} {σ : St} {H : Hp} (hg : TgOk c.G c.lk g t) (hin : TgIn g t vs) (hl : ∀ v ∈ vs, lkOk c.lk v = true) (w : tE c (dLc it t test elt vs) σ H Q) : tLc (tI c it) g (tT c.in test) (tE c.in elt) vs σ H Q := by
  obtain ⟨Z, ρ, F, S, w⟩ := w
  generalize hr : dLc it t test elt vs ρ = r at w
  unfold dLc at hr
  show tI c it σ H _
  split at hr
  · rename_i f ds eff ρ1 ha
    refine ⟨Z, ρ, F, S, ?_⟩
    rw [ha]
    intro Z1 H1 F1 Gk J P1 fk dk io Dl hD
    split at hr
    · rename_i f2 acc eff2 ρ2 hlc
      subst hr
      obtain ⟨Fw, Sw, subw⟩ := P1.sta.wipe hl
      let W : Nat → Nat → Hp → Prop := fun i m H2 => m = ds.length - i ∧ i ≤ ds.length ∧ ∃ Z2 ρi F2 acci accv Ga effi, State c.G c.lk Z2 H2 (wipe σ vs) ρi F2 ∧ Step Z1 H1 F1 Z2 H2 F2 ∧ H2 Dl = some (.lst accv) ∧ Z2 Dl = none ∧ Dl ∉ F2 ∧ Dl ∉ Ga ∧
        RepL c.G Z2 H2 acci accv Ga ∧ Fresh H1 F1 Z2 F2 Ga ∧ (effi = false → ρi = wipeE ρ1 vs ∧ New Z1 H1 Z2 H2 ∧ ∀ a ∈ Ga, a ∉ F1) ∧ lcLoop t test elt vs (ds.drop i) acci effi ρi = .ok f2 acc eff2 ρ2 ∧ (∀ (i : Nat) (d : D), ρi[i]? = some (some d) → i ∉ vs)
      have nF1 : Dl ∉ F1 := fun q => P1.sta.dom q hD
      have nFw : Dl ∉ Fw := fun q => nF1 (subw.subset q)
      have n0 := New.own (o := .lst []) P1.sta.zh hD
      refine ⟨W, ⟨ds.length, rfl, Nat.zero_le _, Z1, wipeE ρ1 vs, Fw, [], [], [], false, Sw.new n0, (n0.step (F := F1)).sub fun a ha => .inl (subw.subset ha), upd_same, z_none P1.sta.zh hD, nFw, by simp, ⟨rfl, rfl⟩, Fresh.nil, fun _ => ⟨rfl, n0, by simp⟩, hlc, fun i d e => wipeE_some e⟩, ?_⟩
      rintro i m H2 ⟨hm, hi, Z2, ρi, F2, acci, accv, Ga, effi, S2, st2, hDl, zDl, nDl, nGa, ra, fa, qa, hloop, hw⟩
      have kept : ∀ a ∈ Gk, ∀ o, H1 a = some o → (∀ ps, o ≠ .tbl ps) → H2 a = some o := fun a ha o e => st2.fr a o e (fk.nf a ha)
      by_cases hlt : i < ds.length
      · obtain ⟨go, yl⟩ := io.go Z2 H2 st2.zz S2.zh kept i _ (List.getElem?_eq_getElem hlt)
        rw [List.drop_eq_getElem_cons hlt] at hloop
        refine .inr ⟨go, fun H' => W (i + 1) (ds.length - (i + 1)) H', fun H' n => ⟨_, by omega, n⟩, fun x H3 hy => ?_⟩
        obtain ⟨Z3, n3, r3⟩ := yl x H3 hy S2.tb.2.1
        cases ht : t ds[i] ρi with
        | none => simp only [lcLoop, ht, reduceCtorEq] at hloop
        | some ρ3 =>
          simp only [lcLoop, ht] at hloop
          refine hin.tg x σ H3 _ ?_
          refine hg Z3 H3 _ ρi ρ3 F2 _ x _ (S2.new n3) r3 ht fun σ3 F3 S3 h3 => ?_
          have hlen : (wipe σ vs).length = (wipe σ vs).length := rfl
          intro hwσ
          -- what has been gathered, behind the target
          have d3 : H3 Dl = some (.lst accv) := n3.hh.fr _ _ hDl (fun _ z => nomatch z)
          have z3 : Z3 Dl = none := (n3.nn Dl (ne_none hDl)).trans zDl
          have nD3 : Dl ∉ F3 := fun q => nDl (h3 Dl q)
          have ra3 : RepL c.G Z3 H3 acci accv Ga := ra.mono n3.zz fun a _ o e => n3.hh.fr a o e
          have domA : ∀ a ∈ Ga, H2 a ≠ none := fun a h => let ⟨_, e, _⟩ := ra.dom a h; ne_none e
          have fa3 : Fresh H1 F1 Z3 F3 Ga := ⟨fa.nd, fa.nh, fun a h => (n3.nn a (domA a h)).trans (fa.nz a h), fun a h q => fa.nf a h (h3 a q)⟩
          have st3 : Step Z1 H1 F1 Z3 H3 F3 := (st2.trans n3.step).sub fun a h => .inl (h3 a h)
          have dom3 : ∀ a ∈ Ga, H3 a ≠ none := fun a h => n3.dm (domA a h)
          cases htt : test ρ3 with
          | bad => simp only [htt, reduceCtorEq] at hloop
          | ex x xs ρ4 => simp only [htt, reduceCtorEq] at hloop
          | ok ft b e1 ρ4 =>
            refine tT.ok (c := c.in) S3 htt fun Z4 H4 F4 P4 => ?_
            have d4 : H4 Dl = some (.lst accv) := P4.st.fr _ _ d3 nD3 (fun _ z => nomatch z)
            have z4 : Z4 Dl = none := P4.st.zn _ nD3 (ne_none d3) z3
            have nD4 : Dl ∉ F4 := P4.st.notin nD3 (ne_none d3)
            have ra4 : RepL c.G Z4 H4 acci accv Ga := ra3.mono P4.st.zz fun a h o e => P4.st.fr a o e (fa3.nf a h)
            have fa4 : Fresh H1 F1 Z4 F4 Ga := fa3.later dom3 P4
            have dom4 : ∀ a ∈ Ga, H4 a ≠ none := fun a h => P4.st.dm a (dom3 a h)
            have st4 : Step Z1 H1 F1 Z4 H4 F4 := st3.trans P4.st
            have quiet4 : effi = false → e1 = false → wipeE ρ4 vs = wipeE ρ1 vs ∧ New Z1 H1 Z4 H4 ∧ F4 = F3 ∧ ∀ a ∈ Ga, a ∉ F1 := fun h1 h2 => by
              obtain ⟨q1, q2, q3⟩ := qa h1
              obtain ⟨p1, p2, p3⟩ := P4.qui h2
              exact ⟨by rw [p1, hin.te _ _ _ ht, q1, wipeE_idem], (q2.trans n3).trans p3, p2, q3⟩
            cases b with
            | false =>
              rw [if_neg Bool.false_ne_true]
              simp only [htt] at hloop
              obtain ⟨F5, S5, sub5⟩ := P4.sta.wipe (vs := vs) hl
              rw [hwσ] at S5
              exact ⟨rfl, hlt, Z4, wipeE ρ4 vs, F5, acci, accv, Ga, (effi || e1), S5, st4.sub fun a h => .inl (sub5.subset h), d4, z4, fun q => nD4 (sub5.subset q), nGa, ra4, ⟨fa4.nd, fa4.nh, fa4.nz, fun a h q => fa4.nf a h (sub5.subset q)⟩, fun h => by
                rw [Bool.or_eq_false_iff] at h
                obtain ⟨q1, q2, _, q3⟩ := quiet4 h.1 h.2
                exact ⟨q1, q2, q3⟩, hloop, fun i d e => wipeE_some e⟩
            | true =>
              rw [if_pos rfl]
              simp only [htt] at hloop
              cases he : elt ρ4 with
              | bad => simp only [he, reduceCtorEq] at hloop
              | ex x xs ρ5 => simp only [he, reduceCtorEq] at hloop
              | ok fe x e2 ρ5 =>
                simp only [he] at hloop
                by_cases hk : (fe || frz x) = true
                · rw [if_pos hk] at hloop
                  by_cases hlen : acci.length < 1000000
                  · rw [if_pos hlen] at hloop
                    refine tE.ok (c := c.in) P4.sta he fun Z5 H5 F5 y G5 P5 R5 f5h => ?_
                    have fr5 := fresh_or hk R5 f5h
                    have d5 : H5 Dl = some (.lst accv) := P5.st.fr _ _ d4 nD4 (fun _ z => nomatch z)
                    have z5 : Z5 Dl = none := P5.st.zn _ nD4 (ne_none d4) z4
                    have nD5 : Dl ∉ F5 := P5.st.notin nD4 (ne_none d4)
                    have ra5 : RepL c.G Z5 H5 acci accv Ga := ra4.mono P5.st.zz fun a h o e => P5.st.fr a o e (fa4.nf a h)
                    have fa5 : Fresh H1 F1 Z5 F5 Ga := fa4.later dom4 P5
                    have st5 : Step Z1 H1 F1 Z5 H5 F5 := st4.trans P5.st
                    have nD6 : Dl ∉ G5 := fun q => (fr5.nh Dl q).elim nD4 (ne_none d4)
                    have disj : ∀ a ∈ Ga, a ∉ G5 := fun a h q => (fr5.nh a q).elim (fa4.nf a h) (dom4 a h)
                    refine ⟨accv, d5, by rw [← ra5.length]; exact big_lt hlen, ?_⟩
                    obtain ⟨F6, S6, sub6⟩ := P5.sta.wipe (vs := vs) hl
                    rw [hwσ] at S6
                    have nD7 : Dl ∉ F6 := fun q => nD5 (sub6.subset q)
                    have S7 := S6.upd (o := .lst (accv ++ [y])) z5 nD7 (fun ps z => by rw [d5] at z; cases z) (fun _ _ z => by rw [d5] at z; cases z)
                    have fr6 : Fresh H1 F1 Z5 F5 G5 := fr5.step st4
                    have fAll := fa5.append fr6 disj
                    have keep : ∀ a, a ≠ Dl → ∀ o, H5 a = some o → L2.upd H5 Dl (.lst (accv ++ [y])) a = some o := fun a h o e => by rw [upd_ne h]; exact e
                    have rAll : RepL c.G Z5 (L2.upd H5 Dl (.lst (accv ++ [y]))) (acci ++ [x]) (accv ++ [y]) (Ga ++ G5) := by
                      have r1 := (ra5.append (es := [x]) (ws := [y]) (F' := G5 ++ []) ⟨y, [], G5, [], rfl, rfl, R5, rfl, rfl⟩)
                      rw [List.append_nil] at r1
                      exact r1.mono (Ex.refl _) fun a h o e _ => keep a (fun q => (List.mem_append.mp h).elim (fun h => nGa (q ▸ h)) fun h => nD6 (q ▸ h)) o e
                    have tgk : ∀ P, TBx.Tb H5 P → TBx.Tb (L2.upd H5 Dl (.lst (accv ++ [y]))) P := fun P t => t.updN (fun ps z => by rw [d5] at z; cases z) (fun _ _ z => by rw [d5] at z; cases z)
                    have st8 : Step Z1 H1 F1 Z5 (L2.upd H5 Dl (.lst (accv ++ [y]))) F6 := ⟨st5.zz, S7.zh, fun a h => by
                        by_cases q : a = Dl
                        · rw [q, upd_same]; exact Option.some_ne_none _
                        · rw [upd_ne q]; exact st5.dm a h, fun a o h hn t => keep a (fun q => by rw [q, hD] at h; cases h) o (st5.fr a o h hn t), fun P t hn => tgk P (st5.tg P t hn), fun a h => st5.ff a (sub6.subset h), st5.zn, fun q xs h => st5.tp q xs (tp_upd (u := .lst (accv ++ [y])) (fun _ z => nomatch z) h), st5.tz⟩
                    refine ⟨rfl, hlt, Z5, wipeE ρ5 vs, F6, acci ++ [x], accv ++ [y], Ga ++ G5, (effi || e1 || e2), S7, st8, upd_same, z5, nD7, fun q => (List.mem_append.mp q).elim nGa nD6, rAll, ⟨fAll.nd, fAll.nh, fAll.nz, fun a h q => fAll.nf a h (sub6.subset q)⟩, fun h => ?_, hloop, fun i d e => wipeE_some e⟩
                    rw [Bool.or_eq_false_iff, Bool.or_eq_false_iff] at h
                    obtain ⟨q1, q2, q3, q4⟩ := quiet4 h.1.1 h.1.2
                    obtain ⟨p1, p2, p3⟩ := P5.qui h.2
                    have q5 := q2.trans p3
                    refine ⟨by rw [p1, q1], ⟨q5.zz, ⟨fun a o h t => keep a (fun q => by rw [q, hD] at h; cases h) o (q5.hh.fr a o h t), fun P t => tgk P (q5.hh.tg P t), st8.dm⟩, S7.zh, q5.nn, st8.tp, st8.tz⟩, fun a h q => ?_⟩
                    rcases List.mem_append.mp h with h | h
                    · exact q4 a h q
                    · rcases fr5.nh a h with h2 | h2
                      · exact fr5.nf a h (by rw [p2]; exact h2)
                      · exact (st4.dm a (P1.sta.dom q)) h2
                  · rw [if_neg hlen] at hloop
                    cases hloop
                · rw [if_neg hk] at hloop
                  cases hloop
      · have ei : i = ds.length := by omega
        subst ei
        refine .inl ⟨io.stop Z2 H2 st2.zz S2.zh kept, ?_⟩
        rw [List.drop_length] at hloop
        simp only [lcLoop, Res.ok.injEq] at hloop
        obtain ⟨rfl, rfl, rfl, rfl⟩ := hloop
        have dDl : H1 Dl = none := hD
        have rr : Rep c.G Z2 H2 (.box true .lst acci) (.ref Dl) (Dl :: Ga) := ⟨Dl, accv, Ga, rfl, ra, fun q => (nomatch q), fun _ => ⟨rfl, _, hDl, rfl⟩⟩
        cases effi with
        | true =>
          simp only [if_true] at w
          have S4 : State c.G c.lk Z2 H2 σ ρi F2 := ⟨S2.zh, S2.rs.unwipe (wipe_length σ vs) fun j d e => (wipe_ne (hw j d e)).symm, S2.nd, S2.fz, P1.sta.lk, S2.tb⟩
          refine w Z2 H2 F2 _ _ ⟨P1.st.trans st2, S4, fun q => by rw [Bool.or_true] at q; cases q⟩ rr fun _ => Fresh.earlier P1 ⟨List.nodup_cons.mpr ⟨nGa, fa.nd⟩, fun a h => ?_, fun a h => ?_, fun a h => ?_⟩
          · exact (List.mem_cons.mp h).elim (fun e => .inr (e ▸ dDl)) (fa.nh a)
          · exact (List.mem_cons.mp h).elim (fun e => e ▸ zDl) (fa.nz a)
          · exact (List.mem_cons.mp h).elim (fun e => e ▸ nDl) (fa.nf a)
        | false =>
          obtain ⟨q1, q2, q3⟩ := qa rfl
          simp only [Bool.false_eq_true, if_false] at w
          refine w Z2 H2 F1 _ _ (P1.trans (PostE.new P1.sta q2)) rr fun _ => Fresh.earlier P1 ⟨List.nodup_cons.mpr ⟨nGa, fa.nd⟩, fun a h => ?_, fun a h => ?_, fun a h => ?_⟩
          · exact (List.mem_cons.mp h).elim (fun e => .inr (e ▸ dDl)) (fa.nh a)
          · exact (List.mem_cons.mp h).elim (fun e => e ▸ zDl) (fa.nz a)
          · exact (List.mem_cons.mp h).elim (fun e => e ▸ nF1) (q3 a)
    · subst hr; exact w.elim
  · rename_i ha
    subst hr
    exact ⟨Z, ρ, F, S, by rw [ha]; exact w⟩
  · subst hr; exact w.elim

section
variable {X : Cx} {tg iter elx : Expr} {ifs : List Expr} {scope : Scope} {own : List (Str × Nat)} {pos spos py : Pos}
theorem ts_nil : PTs X [] (tT c dYes) := ⟨fun pins s σ H Q I w => (pts_nil (X := X)).run pins s σ H Q I (by
  obtain ⟨Z, ρ, F, S, w⟩ := w
  exact w Z H F (PostE.refl S))⟩
theorem ts_one {e : Expr} {m : DT} (h : PT X e (tT c m)) : PTs X [e] (tT c m) := pts_one h
theorem e_lc (hc : X.calm = true) (hN : X.N.Nodup) (hi : PI X tg iter (tI c it)) (ok : BlkOk X.N X.env.scope scope own)
    (hg : ∀ (s : Shared) (H : Hp) (C : Addr) (cl : List (Str × Addr)) (fp : List Addr), PG (X.blk s H scope (compEnvC scope cl C X.env) fp) tg g)
    (htg : TgOk c.G c.lk g t) (hin : TgIn g t (own.map (·.2)))
    (ht : ∀ (s : Shared) (H : Hp) (C : Addr) (cl : List (Str × Addr)) (fp : List Addr), PTs (X.blk s H scope (compEnvC scope cl C X.env) fp) ifs (tT c.in test))
    (he : ∀ (s : Shared) (H : Hp) (C : Addr) (cl : List (Str × Addr)) (fp : List Addr), PE (X.blk s H scope (compEnvC scope cl C X.env) fp) elx (tE c.in elt)) (hl : (own.map (·.2)).all (lkOk c.lk) = true := by rfl) (hs : ∀ x, foldedSetIterable iter X.env x = pure x := by intro _; rfl) :
    PE X (.ListComp elx [⟨tg, iter, ifs, 0⟩] scope pos) (tE c (dLc it t test elt (own.map (·.2)))) := (pe_lc hc hN hi ok hg ht he hs).imp fun _ _ _ w => lc_imp htg hin (List.all_eq_true.mp hl) w
/-- y = [..] -/
theorem s_lc {i : Nat} {y : Str} (hc : X.calm = true) (hN : X.N.Nodup) (hy : X.N[i]? = some y) (hyl : X.env.scope.names.lookup y = some .local) (hsw : swapsWith (.ListComp elx [⟨tg, iter, ifs, 0⟩] scope pos) (some (.Name y py)) spos.line X.env = pure true)
    (hi : PI X tg iter (tI c it)) (ok : BlkOk X.N X.env.scope scope own)
    (hg : ∀ (s : Shared) (H : Hp) (C : Addr) (cl : List (Str × Addr)) (fp : List Addr), PG (X.blk s H scope (compEnvC scope cl C X.env) fp) tg g)
    (htg : TgOk c.G c.lk g t) (hin : TgIn g t (own.map (·.2)))
    (ht : ∀ (s : Shared) (H : Hp) (C : Addr) (cl : List (Str × Addr)) (fp : List Addr), PTs (X.blk s H scope (compEnvC scope cl C X.env) fp) ifs (tT c.in test))
    (he : ∀ (s : Shared) (H : Hp) (C : Addr) (cl : List (Str × Addr)) (fp : List Addr), PE (X.blk s H scope (compEnvC scope cl C X.env) fp) elx (tE c.in elt)) (hl : (own.map (·.2)).all (lkOk c.lk) = true := by rfl) (hl2 : lkOk c.lk i = true := by rfl) (hs : ∀ x, foldedSetIterable iter X.env x = pure x := by intro _; rfl) :
    PS X (.Assign [.Name y py] (.ListComp elx [⟨tg, iter, ifs, 0⟩] scope pos) spos) (tS c (dAsg i (dLc it t test elt (own.map (·.2))))) := (ps_setLc hc hN hy hyl hsw hi ok hg ht he hs).imp fun D σ H w => by
  have w2 := asg_imp hl2 w
  exact lc_imp htg hin (List.all_eq_true.mp hl) w2
end
end

/-! ### a def's body -/
def runD (ln : Bool) (n : Nat) (m : DS) : DF := fun ds => match m (ds.map some ++ List.replicate (n - ds.length) none) with
  | .rt d ρ => if ln = true then (match ρ[0]? with | some (some d0) => .ok d [d0] | _ => .bad) else .ok d []
  | .nx ρ => if ln = true then (match ρ[0]? with | some (some d0) => .ok .non [d0] | _ => .bad) else .ok .non []
  | .ex x [] ρ => if ln = true then (match ρ[0]? with | some (some d0) => .ex x [d0] | _ => .bad) else .ex x []
  | _ => .bad
def gxT (K : PySem.W.Frag) (mg : Str → Option Value) (tb : List Addr) : Gx := ⟨K, fun x => match mg x with | some (.ref C) => some C | _ => none, tb⟩
abbrev gx (K : PySem.W.Frag) (mg : Str → Option Value) : Gx := gxT K mg []
def wE (G : Gx) (E : XK) : EW := fun x _ _ H => ∀ C, G.cn x = some C → E (.ref C) none H
section
variable {G : Gx} {Z H : Hp}
theorem rep_none (σ : List (Option V)) : ∀ n, σ = List.replicate n none → RepS G Z H (List.replicate n none) σ []
  | 0, h => ⟨h, rfl⟩
  | n + 1, h => ⟨none, List.replicate n none, h, rep_none _ n rfl⟩
theorem rep_start : ∀ {ds : List D} {vs : List V} {F : List Addr} (n : Nat), RepL G Z H ds vs F → RepS G Z H (ds.map some ++ List.replicate n none) (vs.map some ++ List.replicate n none) F
  | [], vs, F, n, h => by
    obtain ⟨rfl, rfl⟩ := h
    exact rep_none _ n rfl
  | d :: ds, vs, F, n, h => by
    obtain ⟨v, vs', F1, F2, rfl, rfl, h1, h2⟩ := h
    exact ⟨v, vs'.map some ++ List.replicate n none, F1, F2, rfl, rfl, h1, rep_start n h2⟩
/-- a slot's data, the rest forgotten -/
theorem State.out {lk : List (Nat × V)} {σ : St} {ρ : Env} {F Gr : List Addr} {i : Nat} {d : D} {v : V} (S : State G lk Z H σ ρ F) (hi : ρ[i]? = some (some d)) (hv : σ[i]? = some (some v)) : ∃ Fo, Rep G Z H d v Fo ∧ Fo.Nodup ∧ (∀ a ∈ Fo, Z a = none) ∧ ∀ a ∈ Fo, a ∈ F := by
  obtain ⟨v', A, F1, B, g1, g2, g3, g4⟩ := S.rs.get hi
  rw [hv] at g1
  obtain rfl := Option.some.inj (Option.some.inj g1)
  have sub : ∀ a ∈ F1, a ∈ F := fun a h => by rw [g2]; exact mem_mid.mpr (.inl h)
  exact ⟨F1, g3, (nodup_mid (by rw [← g2]; exact S.nd)).2.1, fun a h => S.fz a (sub a h), sub⟩
theorem run_imp0 {n nN : Nat} {m : DS} {vs : List V} {Q : VK} {E : XK} {N : List Str} (hN : N.length = nN) (h : spD G n false (runD false nN m) vs H Q E) : tS ⟨G, [], wE G E⟩ m { nx := fun _ H' => Q .non H', rt := Q } (L2.start N vs) H := by
  obtain ⟨hl, Z, ds, Fp, zh, tb, rl, nd, nz, w⟩ := h
  have e : L2.start N vs = vs.map some ++ List.replicate (nN - ds.length) none := by unfold L2.start; rw [hN, rl.length]
  rw [e]
  refine ⟨Z, _, Fp, ⟨zh, rep_start _ rl, nd, nz, (fun p hp => by cases hp), tb⟩, ?_⟩
  generalize hr : runD false nN m ds = r at w
  unfold runD at hr
  split at hr
  · rename_i hm
    simp only [Bool.false_eq_true, if_false] at hr
    subst hr
    rw [hm]
    exact fun Z' H' F' σ' v Gf st S' r f => w Z' H' [] v Gf (st.sub fun a h => by cases h) ⟨rfl, rfl⟩ List.nodup_nil (by simp) r ⟨f.nd, f.nh, f.nz, by simp⟩
  · rename_i hm
    simp only [Bool.false_eq_true, if_false] at hr
    subst hr
    rw [hm]
    exact fun Z' H' F' σ' st S' => w Z' H' [] .non [] (st.sub fun a h => by cases h) ⟨rfl, rfl⟩ List.nodup_nil (by simp) ⟨rfl, rfl⟩ Fresh.nil
  · rename_i hm
    simp only [Bool.false_eq_true, if_false] at hr
    subst hr
    rw [hm]
    exact fun Z' H' F' σ' st S' => w Z' H' [] (st.sub fun a h => by cases h) ⟨rfl, rfl⟩ List.nodup_nil (by simp)
  · subst hr; exact w.elim
theorem run_imp1 {n nN : Nat} {m : DS} {v0 : V} {vs : List V} {Q : VK} {E : XK} {N : List Str} (hN : N.length = nN) (h : spD G n true (runD true nN m) (v0 :: vs) H Q E) : tS ⟨G, [(0, v0)], wE G E⟩ m { nx := fun _ H' => Q .non H', rt := Q } (L2.start N (v0 :: vs)) H := by
  obtain ⟨hl, Z, ds, Fp, zh, tb, rl, nd, nz, w⟩ := h
  have e : L2.start N (v0 :: vs) = (v0 :: vs).map some ++ List.replicate (nN - ds.length) none := by unfold L2.start; rw [hN, rl.length]
  rw [e]
  refine ⟨Z, _, Fp, ⟨zh, rep_start _ rl, nd, nz, (fun p hp => by rw [List.mem_singleton.mp hp]; rfl), tb⟩, ?_⟩
  have lv : lentV true (v0 :: vs) = [v0] := rfl
  have one : ∀ {Z' H' : Hp} {d : D} {Fo : List Addr}, Rep G Z' H' d v0 Fo → RepL G Z' H' [d] (lentV true (v0 :: vs)) Fo := fun {Z' H' d Fo} r => ⟨v0, [], Fo, [], rfl, by simp, r, rfl, rfl⟩
  generalize hr : runD true nN m ds = r at w
  unfold runD at hr
  split at hr
  · rename_i d ρ hm
    simp only [if_true] at hr
    split at hr
    · rename_i d0 h0
      subst hr
      rw [hm]
      intro Z' H' F' σ' v Gf st S' r f
      obtain ⟨Fo, ro, no, zo, sub⟩ := S'.out (Gr := []) h0 (S'.lk (0, v0) List.mem_cons_self)
      exact w Z' H' Fo v Gf (st.sub fun a h => .inl (sub a h)) (one ro) no zo r ⟨f.nd, f.nh, f.nz, fun a h q => f.nf a h (sub a q)⟩
    · subst hr; exact w.elim
  · rename_i ρ hm
    simp only [if_true] at hr
    split at hr
    · rename_i d0 h0
      subst hr
      rw [hm]
      intro Z' H' F' σ' st S'
      obtain ⟨Fo, ro, no, zo, sub⟩ := S'.out (Gr := []) h0 (S'.lk (0, v0) List.mem_cons_self)
      exact w Z' H' Fo .non [] (st.sub fun a h => .inl (sub a h)) (one ro) no zo ⟨rfl, rfl⟩ Fresh.nil
    · subst hr; exact w.elim
  · rename_i x ρ hm
    simp only [if_true] at hr
    split at hr
    · rename_i d0 h0
      subst hr
      rw [hm]
      intro Z' H' F' σ' st S'
      obtain ⟨Fo, ro, no, zo, sub⟩ := S'.out (Gr := []) h0 (S'.lk (0, v0) List.mem_cons_self)
      exact w Z' H' Fo (st.sub fun a h => .inl (sub a h)) (one ro) no zo
    · subst hr; exact w.elim
  · subst hr; exact w.elim
end
section
variable {P : Program} {w : World} {K : PySem.W.Frag} {mg : Str → Option Value} {base : Heap} {x qual : Str} {st : Stmt} {f : Addr} {fd : FuncData} {N ps : List Str} {k : Nat} {m : DS}
theorem tk_fn {G : Gx} {lk : List (Nat × V)} {cdv : Value} {A : Around} {outer : List PySem.Env} {s : Shared} {H : Hp} {E : XK} {sc : Scope} : Takes (cxOf (L2.CX P w) P w K mg base N qual sc f cdv A outer s H E) (wxOf ⟨G, lk, wE G E⟩) :=
  (takes_of rfl rfl rfl rfl).imp fun cls d σ H' ⟨y, C, h1, h2, h3, h4⟩ => by rw [h2, h3]; exact h4 C h1
theorem po_fn {cdv : Value} {A : Around} {outer : List PySem.Env} {s : Shared} {H : Hp} {E : XK} {sc : Scope} : PassesOwn (model P w) (cxOf (L2.CX P w) P w K mg base N qual sc f cdv A outer s H E).A (cxOf (L2.CX P w) P w K mg base N qual sc f cdv A outer s H E).env (cxOf (L2.CX P w) P w K mg base N qual sc f cdv A outer s H E).xe := passes_of rfl
/-- THE RULE: a def by its body -/
theorem fn0 {G : Gx} (F : Fun K x qual st f fd) (S : FnScope N ps (defScope st))
    (der : ∀ (cdv : Value) (A : Around) (outer : List PySem.Env) (s : Shared) (H : Hp) (E : XK), Room k (A.deeper (PyProof.Rows.envOfC qual (defScope st) s.heap.objs.size f cdv)) → PSs (cxOf (L2.CX P w) P w K mg base N qual (defScope st) f cdv A outer s H E) (defBody st) (tS ⟨G, [], wE (G) E⟩ m)) :
    FnOk P w K mg base (L2.CX P w) (k + 1) f fd ps (spD (G) ps.length false (runD false N.length m)) :=
  F.okX S spD_len fun cdv A outer s H vs Q E hr h => ⟨_, der cdv A outer s H E hr, run_imp0 rfl h⟩
theorem fn1 {G : Gx} (F : Fun K x qual st f fd) (S : FnScope N ps (defScope st)) (hp : 0 < ps.length)
    (der : ∀ (v0 : V) (cdv : Value) (A : Around) (outer : List PySem.Env) (s : Shared) (H : Hp) (E : XK), Room k (A.deeper (PyProof.Rows.envOfC qual (defScope st) s.heap.objs.size f cdv)) → PSs (cxOf (L2.CX P w) P w K mg base N qual (defScope st) f cdv A outer s H E) (defBody st) (tS ⟨G, [(0, v0)], wE (G) E⟩ m)) :
    FnOk P w K mg base (L2.CX P w) (k + 1) f fd ps (spD (G) ps.length true (runD true N.length m)) :=
  F.okX S spD_len fun cdv A outer s H vs Q E hr h => by
    match vs, h with
    | [], h => exact absurd h.1 (Nat.ne_of_lt hp)
    | v0 :: vs, h => exact ⟨_, der v0 cdv A outer s H E hr, run_imp1 rfl h⟩
/-- the same where the code object is known (for generator expressions) -/
theorem fn0C {G : Gx} {cd : Addr} (F : Fun K x qual st f fd) (hcd : fd.code = .ref cd) (S : FnScope N ps (defScope st))
    (der : ∀ (A : Around) (outer : List PySem.Env) (s : Shared) (H : Hp) (E : XK), Room k (A.deeper (PyProof.Rows.envOfC qual (defScope st) s.heap.objs.size f (.ref cd))) → PSs (cxOf (L2.CX P w) P w K mg base N qual (defScope st) f (.ref cd) A outer s H E) (defBody st) (tS ⟨G, [], wE (G) E⟩ m)) :
    FnOk P w K mg base (L2.CX P w) (k + 1) f fd ps (spD (G) ps.length false (runD false N.length m)) :=
  by
    obtain ⟨oc, od, kV, doc, pm, an, cdv, ct, osl, rfl, lk, hc⟩ := F.ex
    have e : cdv = .ref cd := hcd
    subst e
    exact fn_of lk hc S spD_len fun A outer s H vs Q E hr h => ⟨_, der A outer s H E hr, run_imp0 rfl h⟩
theorem fn1C {G : Gx} {cd : Addr} (F : Fun K x qual st f fd) (hcd : fd.code = .ref cd) (S : FnScope N ps (defScope st)) (hp : 0 < ps.length)
    (der : ∀ (v0 : V) (A : Around) (outer : List PySem.Env) (s : Shared) (H : Hp) (E : XK), Room k (A.deeper (PyProof.Rows.envOfC qual (defScope st) s.heap.objs.size f (.ref cd))) → PSs (cxOf (L2.CX P w) P w K mg base N qual (defScope st) f (.ref cd) A outer s H E) (defBody st) (tS ⟨G, [(0, v0)], wE (G) E⟩ m)) :
    FnOk P w K mg base (L2.CX P w) (k + 1) f fd ps (spD (G) ps.length true (runD true N.length m)) :=
  by
    obtain ⟨oc, od, kV, doc, pm, an, cdv, ct, osl, rfl, lk, hc⟩ := F.ex
    have e : cdv = .ref cd := hcd
    subst e
    exact fn_of lk hc S spD_len fun A outer s H vs Q E hr h => by
      match vs, h with
      | [], h => exact absurd h.1 (Nat.ne_of_lt hp)
      | v0 :: vs, h => exact ⟨_, der v0 A outer s H E hr, run_imp1 rfl h⟩
end
end Dd
/-! Operators for whatever stands there; in; all, any, sum; constants of the module. -/
namespace Dd
open PySem L2

theorem Op2.or {G : Gx} {r r' : R2} {f g : D → D → Option (Bool × D)} (h : Op2 G r f) (h' : Op2 G r' g) : Op2 G (fun x y H Q => r x y H Q ∨ r' x y H Q) (fun x y => match f x y with | some p => some p | none => g x y) := by
  intro Z H x y v w F1 F2 fr z zh r1 r2 hf Q k
  simp only at hf
  split at hf
  · rename_i p hp
    exact .inl (h Z H x y v w F1 F2 fr z zh r1 r2 (by rw [hp]; exact hf) Q k)
  · exact .inr (h' Z H x y v w F1 F2 fr z zh r1 r2 hf Q k)
/-! ### + -/
def fCat : D → D → Option (Bool × D)
  | .box o1 .lst ds, .box o2 .lst es => if o1 = true ∧ o2 = true ∧ frzL ds = true ∧ frzL es = true ∧ ds.length + es.length ≤ 1000000 then some (true, .box true .lst (ds ++ es)) else none
  | _, _ => none
def fCatT : D → D → Option (Bool × D)
  | .box _ .tup ds, .box _ .tup es => if frzL ds = true ∧ frzL es = true ∧ ds.length + es.length ≤ 1000000 then some (true, .box false .tup (ds ++ es)) else none
  | _, _ => none
def fCatS : D → D → Option (Bool × D)
  | .str a, .str b => if a.length + b.length ≤ 1000000 then some (true, .str (a ++ b)) else none
  | _, _ => none
def fPlus (x y : D) : Option (Bool × D) := match x, y with
  | .int i, .int j => some (true, .int (i + j))
  | .str a, .str b => fCatS (.str a) (.str b)
  | .box o k ds, .box o' k' es => (match fCatT (.box o k ds) (.box o' k' es) with | some p => some p | none => fCat (.box o k ds) (.box o' k' es))
  | _, _ => none
section
variable {G : Gx} {Z H : Hp}
theorem o_cat : Op2 G rCat fCat := by
  intro Z H x y v w F1 F2 fr z zh r1 r2 hf Q k
  unfold fCat at hf
  split at hf
  · rename_i o1 ds o2 es
    split at hf
    · rename_i hc
      obtain ⟨rfl, rfl, h1, h2, h3⟩ := hc
      simp only [Option.some.injEq, Prod.mk.injEq] at hf
      obtain ⟨rfl, rfl⟩ := hf
      obtain ⟨a, vs, F', rfl, hs, hl, ho, _⟩ := rep_lst zh r1
      obtain ⟨b, ws, F'', rfl, hs2, hl2, ho2, _⟩ := rep_lst zh r2
      have e0 := hl.frz_nil h1
      subst e0
      have e1 := hl2.frz_nil h2
      subst e1
      exact ⟨a, b, vs, ws, rfl, rfl, ho rfl, ho2 rfl, by rw [← hl.length, ← hl2.length]; exact big_le h3, fun p hp => k _ _ _ [p] (New.own zh hp) (rep_newL zh hp (hl.append hl2)) fun _ => ⟨by simp, fun c hc => by rw [List.mem_singleton.mp hc]; exact ⟨hp, z_none zh hp⟩⟩⟩
    · cases hf
  · cases hf
theorem o_catT : Op2 G (rCatA G.K) fCatT := by
  intro Z H x y v w F1 F2 fr z zh r1 r2 hf Q k
  unfold fCatT at hf
  split at hf
  · rename_i o1 ds o2 es
    split at hf
    · rename_i hc
      obtain ⟨h1, h2, h3⟩ := hc
      simp only [Option.some.injEq, Prod.mk.injEq] at hf
      obtain ⟨rfl, rfl⟩ := hf
      obtain ⟨_, a, vs, rfl, hs, hl⟩ := rep_tup zh r1
      obtain ⟨_, b, ws, rfl, hs2, hl2⟩ := rep_tup zh r2
      have e0 := hl.frz_nil h1
      subst e0
      have e1 := hl2.frz_nil h2
      subst e1
      have old : ∀ {c : Addr} {us : List V} {cs : List D}, SqT G.K Z c us → RepL G Z H cs us [] → Rep G Z H (.box false .tup cs) (.ref c) [] := fun {c us cs} q r => ⟨c, us, [], rfl, r, fun _ => ⟨rfl, q, .inl rfl⟩, fun q => nomatch q⟩
      have nl : ∀ {cs : List D} {us : List V}, RepL G Z H cs us [] → us = [] → cs = [] := fun {cs us} r e => by
        have := r.length
        rw [e] at this
        exact List.length_eq_zero_iff.mp this
      refine ⟨a, b, vs, ws, rfl, rfl, ex_t zh hs, ex_t zh hs2, by rw [← hl.length, ← hl2.length]; exact big_le h3, fun e => ?_, fun _ e => ?_, fun _ _ p hp => ?_⟩
      · rw [nl hl e, List.nil_append] at k
        exact k Z H _ [] (New.refl zh) (old hs2 hl2) fun _ => ⟨List.nodup_nil, by simp⟩
      · rw [nl hl2 e, List.append_nil] at k
        exact k Z H _ [] (New.refl zh) (old hs hl) fun _ => ⟨List.nodup_nil, by simp⟩
      · exact k _ _ _ [] (New.fro zh hp) (rep_newT zh hp (hl.append hl2)) fun _ => ⟨List.nodup_nil, by simp⟩
    · cases hf
  · cases hf
theorem o_catS : Op2 G (fun x y H Q => ∃ i j, x = .str i ∧ y = .str j ∧ i.length + j.length ≤ sizeLine ∧ Q (.str (i ++ j)) H) fCatS := op2_sc fun Z H x y v w F1 F2 fr z zh r1 r2 hf => by
  unfold fCatS at hf
  split at hf
  · split at hf
    · rename_i h
      simp only [Option.some.injEq, Prod.mk.injEq] at hf
      obtain ⟨rfl, rfl⟩ := hf
      exact ⟨_, rfl, fun Q q => ⟨_, _, r1.1, r2.1, big_le h, q⟩⟩
    · cases hf
  · cases hf
def rPlus (K : PySem.W.Frag) : R2 := fun x y H Q => rI0 (fun i j => .int (i + j)) x y H Q ∨ (fun x y H Q => ∃ i j, x = .str i ∧ y = .str j ∧ i.length + j.length ≤ sizeLine ∧ Q (.str (i ++ j)) H) x y H Q ∨ rCatA K x y H Q ∨ rCat x y H Q
theorem x_add {X : Cx} : OpR X (binaryOp .Add) (rPlus X.K) := op_add.or (op_add_str.or (op_catA.or op_cat))
theorem m_add : Op2 G (rPlus G.K) fPlus := by
  intro Z H x y v w F1 F2 fr z zh r1 r2 hf Q k
  unfold fPlus at hf
  split at hf
  · exact .inl (o_add Z H _ _ v w F1 F2 fr z zh r1 r2 (by simpa [fAdd, fInt] using hf) Q k)
  · exact .inr (.inl (o_catS Z H _ _ v w F1 F2 fr z zh r1 r2 hf Q k))
  · split at hf
    · rename_i p hp
      exact .inr (.inr (.inl (o_catT Z H _ _ v w F1 F2 fr z zh r1 r2 (by rw [hp]; exact hf) Q k)))
    · exact .inr (.inr (.inr (o_cat Z H _ _ v w F1 F2 fr z zh r1 r2 hf Q k)))
  · cases hf
end
/-! ### * and // of ints -/
def okDivW (j : Int) : Bool := decide (0 < j ∧ j.natAbs < 2 ^ 64)
def fDivW := fInt (fun _ j => okDivW j) fun i j => .int (i / j)
section
variable {G : Gx}
theorem m_div : Op2 G (rI CDivW fun i j => .int (i / j)) fDivW := op_int (fun i j h => by
  have h : 0 < j ∧ j.natAbs < 2 ^ 64 := of_decide_eq_true h
  exact wide_div (b := 64) h.1 (by omega) (by decide) (by decide)) fun _ _ => rfl
end
/-! ### in -/
def svL : List D → Option (List V)
  | [] => some []
  | d :: ds => (sv d).bind fun v => (svL ds).map fun vs => v :: vs
def fInG (g : Bool → Bool) (x y : D) : Option (Bool × D) := match y with
  | .box _ .lst ds => (sv x).bind fun v => (svL ds).map fun vs => (true, D.bl (g (inV v vs)))
  | .box _ .tup ds => (sv x).bind fun v => (svL ds).map fun vs => (true, D.bl (g (inV v vs)))
  | _ => none
def fIn := fInG fun b => b
def fNotIn := fInG fun b => !b
section
variable {G : Gx} {Z H : Hp}
theorem sv_eq {d : D} {v u : V} {F : List Addr} (r : Rep G Z H d v F) (h : sv d = some u) : v = u := by
  cases d <;> simp only [sv, Option.some.injEq, reduceCtorEq] at h <;> rw [r.1, ← h]
theorem sv_flat {d : D} {u : V} (h : sv d = some u) : flatV u = true := by
  cases d <;> simp only [sv, Option.some.injEq, reduceCtorEq] at h <;> rw [← h] <;> rfl
theorem svL_eq : ∀ {ds : List D} {vs us : List V} {F : List Addr}, RepL G Z H ds vs F → svL ds = some us → vs = us ∧ us.all flatV = true
  | [], vs, us, F, r, h => by
    simp only [svL, Option.some.injEq] at h
    rw [← h, r.1]
    exact ⟨rfl, rfl⟩
  | d :: ds, vs, us, F, r, h => by
    obtain ⟨v, vs', F1, F2, rfl, _, r1, r2⟩ := r
    cases h1 : sv d with
    | none => simp only [svL, h1, Option.bind_none, reduceCtorEq] at h
    | some u =>
      cases h2 : svL ds with
      | none => simp only [svL, h1, h2, Option.bind_some, Option.map_none, reduceCtorEq] at h
      | some us' =>
        simp only [svL, h1, h2, Option.bind_some, Option.map_some, Option.some.injEq] at h
        obtain ⟨e1, e2⟩ := svL_eq r2 h2
        rw [← h, sv_eq r1 h1, e1]
        refine ⟨rfl, ?_⟩
        rw [List.all_cons, sv_flat h1, e2]; rfl
theorem in_imp {x y : D} {v w : V} {F1 F2 : List Addr} {fr : Bool} {z : D} {g : Bool → Bool} (zh : Ex Z H) (r1 : Rep G Z H x v F1) (r2 : Rep G Z H y w F2)
    (hf : fInG g x y = some (fr, z)) : ∃ b, z = .bl b ∧ ∃ p xs, w = .ref p ∧ (SqL G.K H p xs ∨ SqT G.K H p xs) ∧ flatV v = true ∧ xs.all flatV = true ∧ b = g (inV v xs) := by
  have fin : ∀ {ds : List D} {vs : List V} {F : List Addr}, RepL G Z H ds vs F → ((sv x).bind fun v => (svL ds).map fun vs => (true, D.bl (g (inV v vs)))) = some (fr, z) → ∃ b, z = .bl b ∧ flatV v = true ∧ vs.all flatV = true ∧ b = g (inV v vs) := fun {ds vs F} hl h => by
    cases h1 : sv x with
    | none => simp only [h1, Option.bind_none, reduceCtorEq] at h
    | some u =>
      cases h2 : svL ds with
      | none => simp only [h1, h2, Option.bind_some, Option.map_none, reduceCtorEq] at h
      | some us =>
        simp only [h1, h2, Option.bind_some, Option.map_some, Option.some.injEq, Prod.mk.injEq] at h
        obtain ⟨e1, e2⟩ := svL_eq hl h2
        refine ⟨_, h.2.symm, ?_, ?_, ?_⟩
        · rw [sv_eq r1 h1]; exact sv_flat h1
        · rw [e1]; exact e2
        · rw [sv_eq r1 h1, e1]
  unfold fInG at hf
  split at hf
  · obtain ⟨a, vs, F', rfl, hs, hl, _⟩ := rep_lst zh r2
    obtain ⟨b, h1, h2, h3, h4⟩ := fin hl hf
    exact ⟨b, h1, a, vs, rfl, .inl hs, h2, h3, h4⟩
  · obtain ⟨_, a, vs, rfl, hs, hl⟩ := rep_tup zh r2
    obtain ⟨b, h1, h2, h3, h4⟩ := fin hl hf
    exact ⟨b, h1, a, vs, rfl, .inr (ex_t zh hs), h2, h3, h4⟩
  · cases hf
theorem o_in : Op2 G (rIn G.K false) fIn := op2_sc fun Z H x y v w F1 F2 fr z zh r1 r2 hf => by
  obtain ⟨b, rfl, p, xs, e1, e2, e3, e4, rfl⟩ := in_imp (g := fun b => b) zh r1 r2 hf
  exact ⟨_, rfl, fun Q q => ⟨p, xs, e1, e2, e3, e4, q⟩⟩
theorem o_notIn : Op2 G (rIn G.K true) fNotIn := op2_sc fun Z H x y v w F1 F2 fr z zh r1 r2 hf => by
  obtain ⟨b, rfl, p, xs, e1, e2, e3, e4, rfl⟩ := in_imp (g := fun b => !b) zh r1 r2 hf
  exact ⟨_, rfl, fun Q q => ⟨p, xs, e1, e2, e3, e4, q⟩⟩
theorem bl_inG {g : Bool → Bool} : BlF (fInG g) := by
  intro x y fr d h
  have fin : ∀ {ds : List D}, ((sv x).bind fun v => (svL ds).map fun vs => (true, D.bl (g (inV v vs)))) = some (fr, d) → ∃ b, d = .bl b := fun {ds} h => by
    cases h1 : sv x with
    | none => simp only [h1, Option.bind_none, reduceCtorEq] at h
    | some u =>
      cases h2 : svL ds with
      | none => simp only [h1, h2, Option.bind_some, Option.map_none, reduceCtorEq] at h
      | some us =>
        simp only [h1, h2, Option.bind_some, Option.map_some, Option.some.injEq, Prod.mk.injEq] at h
        exact ⟨_, h.2.symm⟩
  unfold fInG at h
  split at h
  · exact fin h
  · exact fin h
  · cases h
theorem bl_in : BlF fIn := bl_inG
theorem bl_notIn : BlF fNotIn := bl_inG
end
/-! ### all, any, sum of lists -/
def blL : List D → Option (List Bool)
  | [] => some []
  | .bl b :: ds => (blL ds).map fun bs => b :: bs
  | _ :: _ => none
def inL : List D → Option (List Int)
  | [] => some []
  | .int b :: ds => (inL ds).map fun bs => b :: bs
  | _ :: _ => none
def fAll : D → Option (Bool × D)
  | .box _ .lst ds => (blL ds).map fun bs => (true, D.bl (bs.all id))
  | _ => none
def fAny : D → Option (Bool × D)
  | .box _ .lst ds => (blL ds).map fun bs => (true, D.bl (bs.any id))
  | _ => none
def fSum : D → Option (Bool × D)
  | .box _ .lst ds => (inL ds).map fun bs => (true, D.int bs.sum)
  | _ => none
section
variable {G : Gx} {Z H : Hp}
theorem blL_eq : ∀ {ds : List D} {vs : List V} {bs : List Bool} {F : List Addr}, RepL G Z H ds vs F → blL ds = some bs → vs = bs.map V.bl
  | [], vs, bs, F, r, h => by
    simp only [blL, Option.some.injEq] at h
    rw [← h, r.1]; rfl
  | d :: ds, vs, bs, F, r, h => by
    obtain ⟨v, vs', F1, F2, rfl, _, r1, r2⟩ := r
    cases d with
    | bl b =>
      cases h2 : blL ds with
      | none => simp only [blL, h2, Option.map_none, reduceCtorEq] at h
      | some us =>
        simp only [blL, h2, Option.map_some, Option.some.injEq] at h
        rw [← h, r1.1, blL_eq r2 h2]; rfl
    | _ => simp only [blL, reduceCtorEq] at h
theorem inL_eq : ∀ {ds : List D} {vs : List V} {bs : List Int} {F : List Addr}, RepL G Z H ds vs F → inL ds = some bs → vs = bs.map V.int
  | [], vs, bs, F, r, h => by
    simp only [inL, Option.some.injEq] at h
    rw [← h, r.1]; rfl
  | d :: ds, vs, bs, F, r, h => by
    obtain ⟨v, vs', F1, F2, rfl, _, r1, r2⟩ := r
    cases d with
    | int b =>
      cases h2 : inL ds with
      | none => simp only [inL, h2, Option.map_none, reduceCtorEq] at h
      | some us =>
        simp only [inL, h2, Option.map_some, Option.some.injEq] at h
        rw [← h, r1.1, inL_eq r2 h2]; rfl
    | _ => simp only [inL, reduceCtorEq] at h
theorem o_all : Op1 G (fun x H Q => rAll G.K [x] H Q) fAll := op1_sc fun Z H x v F1 fr z zh r1 hf => by
  unfold fAll at hf
  split at hf
  · rename_i own ds
    cases hb : blL ds with
    | none => rw [hb] at hf; cases hf
    | some bs =>
      rw [hb] at hf
      simp only [Option.map_some, Option.some.injEq, Prod.mk.injEq] at hf
      obtain ⟨rfl, rfl⟩ := hf
      obtain ⟨a, vs, F', rfl, hs, hl, _⟩ := rep_lst zh r1
      have e := blL_eq hl hb
      subst e
      exact ⟨_, rfl, fun Q q => ⟨a, bs, rfl, hs, q⟩⟩
  · cases hf
theorem o_any : Op1 G (fun x H Q => rAny G.K [x] H Q) fAny := op1_sc fun Z H x v F1 fr z zh r1 hf => by
  unfold fAny at hf
  split at hf
  · rename_i own ds
    cases hb : blL ds with
    | none => rw [hb] at hf; cases hf
    | some bs =>
      rw [hb] at hf
      simp only [Option.map_some, Option.some.injEq, Prod.mk.injEq] at hf
      obtain ⟨rfl, rfl⟩ := hf
      obtain ⟨a, vs, F', rfl, hs, hl, _⟩ := rep_lst zh r1
      have e := blL_eq hl hb
      subst e
      exact ⟨_, rfl, fun Q q => ⟨a, bs, rfl, hs, q⟩⟩
  · cases hf
theorem o_sum : Op1 G (fun x H Q => rSum G.K [x] H Q) fSum := op1_sc fun Z H x v F1 fr z zh r1 hf => by
  unfold fSum at hf
  split at hf
  · rename_i own ds
    cases hb : inL ds with
    | none => rw [hb] at hf; cases hf
    | some bs =>
      rw [hb] at hf
      simp only [Option.map_some, Option.some.injEq, Prod.mk.injEq] at hf
      obtain ⟨rfl, rfl⟩ := hf
      obtain ⟨a, vs, F', rfl, hs, hl, _⟩ := rep_lst zh r1
      have e := inL_eq hl hb
      subst e
      exact ⟨_, rfl, fun Q q => ⟨a, bs, rfl, hs, q⟩⟩
  · cases hf
end
/-! ### constants of the module -/
section
variable {c : Cc} {X : Cx} {x : Str} {pos : Pos}
theorem e_globI {i : Int} (hm : ∃ t, X.mg x = some (.int i t)) (hg : Gl X x) (hd : (x == ("__debug__" : Str)) = false := by decide) : PE X (.Name x pos) (tE c (dC (.int i))) := by
  obtain ⟨t, hm⟩ := hm
  exact e_con (pe_glob (v := .int i) hg hm ⟨t, rfl⟩ hd) fun _ _ _ => ⟨rfl, rfl⟩
theorem e_globS {i : Str} (hm : ∃ t, X.mg x = some (.str i t)) (hg : Gl X x) (hd : (x == ("__debug__" : Str)) = false := by decide) : PE X (.Name x pos) (tE c (dC (.str i))) := by
  obtain ⟨t, hm⟩ := hm
  exact e_con (pe_glob (v := .str i) hg hm ⟨t, rfl⟩ hd) fun _ _ _ => ⟨rfl, rfl⟩
end
/-! ### a def that is never reached -/
theorem fn_bad {P : Program} {w : World} {K : PySem.W.Frag} {mg : Str → Option Value} {base : Heap} {CX : CXT} {k n : Nat} {ln : Bool} {G : Gx} {f : Addr} {fd : FuncData} {ps : List Str} (hn : n = ps.length) : FnOk P w K mg base CX k f fd ps (spD G n ln fun _ => .bad) :=
  ⟨fun vs H Q E h => h.1.trans hn, fun _ _ _ _ _ _ _ _ _ _ _ _ _ h => by obtain ⟨_, _, _, _, _, _, _, _, _, z⟩ := h; exact z.elim⟩
/-- the facts of an exception class -/
structure ExcT (K : PySem.W.Frag) (mg : Str → Option Value) (x : Str) (C : Addr) : Prop where
  g : mg x = some (.ref C)
  k : PySem.W.keepIn K (.ref C) = true
  b : PySem.W.subIn K (.ref C) (.type "BaseException") = some true
  t : PySem.W.typeIn K (.ref C) = some (.type "type")
/-- keywords alone -/
theorem pe_callK0S {X : Cx} {CX : CXT} {k : Nat} {f : Addr} {fd : FuncData} {ps ks : List Str} {sp : Sp} {E : L2.St → XK} {x : Str} {p pos : Pos} {kws : List Keyword} {tk : TA} {g : List Value → List Value} {gV : List V → List V}
    (F : FnOk X.prog X.w X.K X.mg X.base CX k f fd ps sp) (hr : Room k X.A) (hg : Gl X x) (hm : X.mg x = some (.ref f)) (hk : PySem.W.keepIn X.K (.ref f) = true)
    (hb : ∀ (s : Shared) (ws : List Value), ws.length = ps.length → BindsTo s fd ⟨[], ks.zip ws⟩ (ps.zip (g ws))) (hgl : ∀ ws, (g ws).length = ws.length) (hgr : ∀ {zs : List V} {ws : List Value}, zs.length = ps.length → Vals zs ws → Vals (gV zs) (g ws)) (hx : ∀ σ, PassesAt CX X σ (E σ))
    (hkw : PK X kws tk) (hnk : ∀ zs, zs.length ≠ ps.length → ∀ H Q E, ¬ sp (gV zs) H Q E) (hall : (backToKw pos (keywordEach kws X.env)).all (·.1.isSome) = true := by rfl) (hks : (backToKw pos (keywordEach kws X.env)).filterMap (·.1) = ks := by rfl)
    (hdb : (x == ("__debug__" : Str)) = false := by decide) (hpl : ((backTo pos (starEach [] X.env)).any (·.1) || (backToKw pos (keywordEach kws X.env)).any (·.1.isNone)) = false := by rfl) :
    PE X (.Call (.Name x p) [] kws pos) (fun σ H Q => tk σ H fun zs H2 => sp (gV zs) H2 Q (E σ)) := by
  refine ⟨fun pins s σ H Q I h => ?_⟩
  refine wpAny_Call_Name_kw (ld_glob I hg hm ?_ hdb)
  refine PySem.W.callWith_KW0 (h₀ := X.base) I.ok.mod.kin hk hall ?_ hpl
  refine thn (hkw.run pos pins s σ H _ I h) fun ws s2 ⟨zs, H2, I2, rz, q2⟩ => ⟨I2.kIn, ?_⟩
  rw [hks]
  by_cases hz : zs.length = ps.length
  · have r2 := hgr hz rz
    have hl : ws.length = ps.length := by rw [← rz.length]; exact hz
    refine wpAny_call (codeAny_mono (F.run X.A X.stack s2 H2 ⟨[], ks.zip ws⟩ (g ws) (gV zs) Q (E σ) hr I2.env0 (hb s2 ws hl) r2 q2) fun r s' hq => ?_)
    cases r with
    | error e => exact hx σ pins H2 s2 e s' I2 hq
    | ok fl =>
      cases fl with
      | ret u => exact I2.after hq
      | next => exact False.elim hq
      | brk => exact False.elim hq
      | cont => exact False.elim hq
  · exact absurd q2 (hnk zs hz _ _ _)
end Dd
/-! Names of built-ins; keyword calls; small things for printed derivations. -/
namespace Dd
open PySem L2

theorem bb_len : bootBuiltins "len" = some (.builtin "len") := by decide +kernel
theorem bb_int : bootBuiltins "int" = some (.type "int") := by decide +kernel
theorem bb_bool : bootBuiltins "bool" = some (.type "bool") := by decide +kernel
theorem bb_str : bootBuiltins "str" = some (.type "str") := by decide +kernel
theorem bb_list : bootBuiltins "list" = some (.type "list") := by decide +kernel
theorem bb_tuple : bootBuiltins "tuple" = some (.type "tuple") := by decide +kernel
theorem bb_dict : bootBuiltins "dict" = some (.type "dict") := by decide +kernel
theorem bb_max : bootBuiltins "max" = some (.builtin "max") := by decide +kernel
theorem bb_min : bootBuiltins "min" = some (.builtin "min") := by decide +kernel
theorem bb_abs : bootBuiltins "abs" = some (.builtin "abs") := by decide +kernel
theorem bb_all : bootBuiltins "all" = some (.builtin "all") := by decide +kernel
theorem bb_any : bootBuiltins "any" = some (.builtin "any") := by decide +kernel
theorem bb_sum : bootBuiltins "sum" = some (.builtin "sum") := by decide +kernel
theorem bb_sorted : bootBuiltins "sorted" = some (.builtin "sorted") := by decide +kernel
theorem bb_isinstance : bootBuiltins "isinstance" = some (.builtin "isinstance") := by decide +kernel

theorem tk_in {X : Cx} {c : Cc} : Takes X (wxOf c.in) := (takes0 (X := X)).imp fun _ _ _ _ ⟨_, _, _, _, _, h⟩ => h
section
variable {X : Cx}
theorem x_eq {k : Nat} (hr : Room k X.A) : OpR X (compareOp .Eq) (fun x y H Q => rEq x y H Q ∨ rEqD X.K x y H Q) := op_eq.or (op_eqD hr.units)
theorem x_ne {k : Nat} (hr : Room k X.A) : OpR X (compareOp .NotEq) (fun x y H Q => rNe x y H Q ∨ rNeD X.K x y H Q) := op_ne.or (op_neD hr.units)
variable {c : Cc} {e : Expr} {m : DE} {a : DA} {kws : List Keyword} {nm : Option Str} {kpos p pos : Pos} {x : Str} {f : Addr} {fd : FuncData} {ps ks : List Str} {F : DF} {n k : Nat}
theorem k_nil : PK X [] (tA c dNil) := ⟨fun pos pins s σ H Q I w => (pk_nil (X := X)).run pos pins s σ H Q I (by
  obtain ⟨Z, ρ, F, S, w⟩ := w
  exact w Z H F [] [] (PostE.refl S) ⟨rfl, rfl⟩ Fresh.nil)⟩
theorem k_cons (he : PE X e (tE c m)) (hr : PK X kws (tA c a)) : PK X (⟨nm, e, kpos⟩ :: kws) (tA c (dCons m a)) := ⟨fun pos pins s σ H Q I w => (pk_cons he hr).run pos pins s σ H Q I (cons_imp w)⟩
/-- arguments put into the parameters' order -/
def permL {α : Type} (π : List Nat) (xs : List α) : List α := π.filterMap fun i => xs[i]?
def dPerm (π : List Nat) (F : DF) : DF := fun ds => if frzL ds = true then F (permL π ds) else .bad
theorem repL_perm {G : Gx} {Z H : Hp} {ds : List D} {vs : List V} (r : RepL G Z H ds vs []) : ∀ π : List Nat, RepL G Z H (permL π ds) (permL π vs) []
  | [] => ⟨rfl, rfl⟩
  | i :: π => by
    have ih := repL_perm r π
    unfold permL at ih ⊢
    rw [List.filterMap_cons, List.filterMap_cons]
    cases h : ds[i]? with
    | none =>
      have h2 : vs[i]? = none := List.getElem?_eq_none_iff.mpr (by rw [← r.length]; exact List.getElem?_eq_none_iff.mp h)
      rw [h2]
      exact ih
    | some d =>
      obtain ⟨v, A, F1, B, g1, g2, g3⟩ := r.get h
      obtain ⟨h1, rfl⟩ := List.append_eq_nil_iff.mp g2.symm
      obtain ⟨rfl, rfl⟩ := List.append_eq_nil_iff.mp h1
      rw [g1]
      exact ⟨v, _, [], [], rfl, rfl, g3, ih⟩
/-- f(a = e, ..), all by keywords -/
theorem e_callK (π : List Nat) (G : FnOk X.prog X.w X.K X.mg X.base (L2.CX X.prog X.w) k f fd ps (spD c.G n false F)) (hr : Room k X.A) (hg : Gl X x) (hm : X.mg x = some (.ref f)) (hk : PySem.W.keepIn X.K (.ref f) = true)
    (hb : ∀ (s : Shared) (ws : List Value), ws.length = ps.length → BindsTo s fd ⟨[], ks.zip ws⟩ (ps.zip (permL π ws))) (hnp : n = ps.length) (tk : Takes X (wxOf c))
    (ha : PK X kws (tA c a)) (hn : LenA a n) (hgl : ∀ {α : Type} (ws : List α), ws.length = n → (permL π ws).length = n) (hall : (backToKw pos (keywordEach kws X.env)).all (·.1.isSome) = true := by rfl) (hks : (backToKw pos (keywordEach kws X.env)).filterMap (·.1) = ks := by rfl)
    (hdb : (x == ("__debug__" : Str)) = false := by decide) (hpl : ((backTo pos (starEach [] X.env)).any (·.1) || (backToKw pos (keywordEach kws X.env)).any (·.1.isNone)) = false := by rfl) :
    PE X (.Call (.Name x p) [] kws pos) (tE c (dCall (dPerm π F) a)) := by
  refine ⟨fun pins s σ H Q I w => ?_⟩
  refine wpAny_Call_Name_kw (ld_glob I hg hm ?_ hdb)
  refine PySem.W.callWith_KW0 (h₀ := X.base) I.ok.mod.kin hk hall ?_ hpl
  have w2 := call_imp (n := n) hn w
  have w3 : tA c a σ H fun vs H1 => spD c.G n false (dPerm π F) vs H1 Q (WE (wxOf c) σ) := w2
  refine thn (ha.run pos pins s σ H _ I w3) fun ws s2 ⟨zs, H2, I2, rz, q2⟩ => ⟨I2.kIn, ?_⟩
  rw [hks]
  obtain ⟨hl, Z, ds, Fp, zh, tb, rl, nd, nz, q3⟩ := q2
  unfold dPerm at q3
  by_cases hf : frzL ds = true
  · rw [if_pos hf] at q3
    have e0 := rl.frz_nil hf
    subst e0
    have rp := repL_perm rl π
    have hlw : ws.length = ps.length := by rw [← rz.length, hl, hnp]
    have rv : ∀ π : List Nat, Vals (permL π zs) (permL π ws) := fun π => by
      induction π with
      | nil => exact .nil
      | cons i π ih =>
        unfold permL at ih ⊢
        rw [List.filterMap_cons, List.filterMap_cons]
        cases h : zs[i]? with
        | none =>
          rw [rz.none_of h]
          exact ih
        | some d =>
          obtain ⟨u, h1, h2⟩ := rz.get h
          rw [h1]
          exact .cons h2 ih
    have q4 : spD c.G n false F (permL π zs) H2 Q (WE (wxOf c) σ) := ⟨hgl zs hl, Z, _, [], zh, tb, rp, List.nodup_nil, by simp, q3⟩
    refine wpAny_call (codeAny_mono (G.run X.A X.stack s2 H2 ⟨[], ks.zip ws⟩ (permL π ws) (permL π zs) Q (WE (wxOf c) σ) hr I2.env0 (hb s2 ws hlw) (rv π) q4) fun r s' hq => ?_)
    cases r with
    | error e => exact passAt tk σ pins H2 s2 e s' I2 hq
    | ok fl =>
      cases fl with
      | ret u => exact I2.after hq
      | next => exact False.elim hq
      | brk => exact False.elim hq
      | cont => exact False.elim hq
  · rw [if_neg hf] at q3
    exact q3.elim
theorem _root_.L2.Fun.bindsK {K : PySem.W.Frag} {x qual : Str} {st : Stmt} {f : Addr} {fd : FuncData} {ps ks : List Str} {π : List Nat} (F : Fun K x qual st f fd)
    (h : ∀ (kV doc pm : Value) (an : Option Addr) (cdv ct : Value) (us : List Value), us.length = ps.length → bindArgs (PySem.W.fnOf x qual (defArgs st) (defBody st) (defScope st) .none kV doc pm an cdv ct) ⟨[], ks.zip us⟩ = pure (ps.zip (permL π us))) : ∀ (s : Shared) (ws : List Value), ws.length = ps.length → BindsTo s fd ⟨[], ks.zip ws⟩ (ps.zip (permL π ws)) := by
  obtain ⟨oc, od, kV, doc, pm, an, cdv, ct, osl, rfl, lk, hcd⟩ := F.ex
  exact fun s ws hl => .of_eq (h kV doc pm an cdv ct ws hl)
end
end Dd
/-! The end: what the top leaves, by names; a law from what its def computes. -/
namespace Dd
open PySem L2
def mkD (x : Str) (st : Stmt) : He.DefD := ⟨(x, none), x, x, defArgs st, defBody st, defScope st, [], []⟩
/-- the def of that name -/
def Got (K : PySem.W.Frag) (x : Str) (st : Stmt) (fd : FuncData) : Prop := FunD K x x (defArgs st) (defBody st) (defScope st) [] [] (He.ga K x) fd
theorem got {fa : List He.Fa} {fn : List He.DefD} {K : PySem.W.Frag} (c : He.SaysD fa fn K) (i : Nat) {x : Str} {st : Stmt} (h : fn[i]? = some (mkD x st)) : ∃ fd, Got K x st fd := c.def_ i h
theorem Got.fun {K : PySem.W.Frag} {x : Str} {st : Stmt} {fd : FuncData} (F : Got K x st fd) : Fun K x x st (He.ga K x) fd := by
  obtain ⟨oc, od, dV, kV, doc, pm, an, cdv, ct, osl, e, lk, hcd, hD, hK⟩ := F.ex
  rcases hD with ⟨_, rfl⟩ | ⟨z, _⟩
  · exact ⟨⟨oc, od, kV, doc, pm, an, cdv, ct, osl, e, lk, hcd⟩, F.kp⟩
  · exact absurd rfl z
theorem exc_ga {K : PySem.W.Frag} {h : Heap} {mg : Str → Option Value} (X : K.In h) (G : h.Ns mainGlobals mg) {x : Str} (c : (He.Fa.glo x).ok K = true) (e : (He.Fa.exc x).ok K = true) : ExcT K mg x (He.ga K x) := by
  obtain ⟨_, h2, h3, h4⟩ := He.exc_ok e
  exact ⟨He.glo_ok X G c, h2, h3, h4⟩
/-- the promise of a law -/
def spHold (K : PySem.W.Frag) (n : Nat) : Sp := fun vs H Q _ => ∃ (a : Addr) (ns : List Int), vs = [.ref a] ∧ SqL K H a (ns.map V.int) ∧ ns.length ≤ n ∧ (∀ z ∈ ns, Builtin.Int.intBits z ≤ 1048576) ∧ ∀ H', Q (.bl true) H'
theorem repL_ints {G : Gx} {Z H : Hp} : ∀ ns : List Int, RepL G Z H (ns.map D.int) (ns.map V.int) []
  | [] => ⟨rfl, rfl⟩
  | n :: ns => ⟨.int n, ns.map V.int, [], [], rfl, rfl, ⟨rfl, rfl⟩, repL_ints ns⟩
def noTb (H : Hp) : Hp := fun a => match H a with
  | some (.tbl _) => none
  | o => o
theorem noTb_ex (H : Hp) : Ex (noTb H) H := fun a o e => by
  unfold noTb at e
  split at e
  · cases e
  · exact e
theorem noTb_at {H : Hp} {a : Addr} {o : HO} (e : H a = some o) (t : ∀ ps, o ≠ .tbl ps) : noTb H a = some o := by
  unfold noTb
  rw [e]
  split
  · rename_i h
    cases h
    exact absurd rfl (t _)
  · rfl
theorem noTb_no (H : Hp) : NoT (noTb H) := fun P ps e => by
  unfold noTb at e
  split at e
  · cases e
  · rename_i hn
    exact hn ps e
theorem law_ok {P : Program} {w : World} {K : PySem.W.Frag} {mg : Str → Option Value} {base : Heap} {CX : CXT} {k n : Nat} {f : Addr} {fd : FuncData} {F : DF}
    (h : ∀ ns : List Int, ns.length ≤ n → (∀ z ∈ ns, Builtin.Int.intBits z ≤ 1048576) → F [D.fl (ns.map D.int)] = .ok (.bl true) [])
    (O : FnOk P w K mg base CX k f fd ["script"] (spD (gx K mg) 1 false F)) : FnOk P w K mg base CX k f fd ["script"] (spHold K n) :=
  O.imp fun vs H Q E ⟨a, ns, hv, hS, hl, hb, q⟩ => by
    subst hv
    have hz : SqL K (noTb H) a (ns.map V.int) := by
      rcases hS with (h1 | ⟨o, h1⟩) | h1
      · exact .inl (.inl (noTb_at h1 fun _ z => nomatch z))
      · exact .inl (.inr ⟨o, noTb_at h1 fun _ z => nomatch z⟩)
      · exact .inr h1
    refine ⟨rfl, noTb H, [D.fl (ns.map D.int)], [], noTb_ex H, ⟨(fun P hP => nomatch hP), fun _ _ h => noTb_at h (fun _ z => nomatch z), noTb_no H⟩, ?_, List.nodup_nil, (fun a ha => nomatch ha), ?_⟩
    · refine ⟨.ref a, [], [], [], rfl, rfl, ?_, rfl, rfl⟩
      exact ⟨a, ns.map V.int, [], rfl, repL_ints ns, fun _ => ⟨rfl, hz, .inr rfl⟩, fun z => nomatch z⟩
    · rw [h ns hl hb]
      intro Z' H' Fo v Gr _ _ _ _ r _
      rw [show v = .bl true from r.1]
      exact q H'
/-- from the top to the law's def -/
theorem walk_law {l : PySem.W.OpenLaw} {m lv : Nat} {q : Program} {lo : List Str} {XQ : (Str → Option Value) → Heap → Prop} {YQ : World → Heap → Prop} {dr : DefRec}
    (h1 : l.most = some m) (h2 : m ≤ sizeLine) (h3 : dr.params.defaults = []) (h4 : Room lv callerA)
    (h5 : ∀ (w : World) (mg : Str → Option Value) (fa : Addr) (hp : Heap), YQ w hp → hp.Ns mainGlobals mg → mg dr.name = some (.ref fa) →
      ∃ (K : PySem.W.Frag) (fd : FuncData), K.In hp ∧ (∀ (s : Shared) (u : Value), BindsTo s fd ⟨[u], []⟩ [("script", u)]) ∧
        ∀ base : Heap, K.In base → base.Ns mainGlobals mg → FnOk l.prog w K mg base (L2.CX l.prog w) lv fa fd ["script"] (spHold K m)) :
    PySem.W.WalkO q lo XQ YQ l.row.toRowW dr [] (fun f vs => PySem.call f vs) := by
  refine Att.attach_callB h1 h3 fun w s0 s1 mg mb fa o pm cd doc a vs ns G Y _ _ _ hmg hobj hints hlen hbits hg => ?_
  obtain ⟨K, fd, KX, hb, hF⟩ := h5 w mg fa _ Y G.T.g hmg
  exact law_call KX G.T.g G.T.b G.T.builtins G.T.nolimit hg hobj hints (Nat.le_trans hlen h2) h4 hF hb
    (fun H _ hS => ⟨a, ns, rfl, hS, hlen, hbits, fun _ => rfl⟩) (fun H e s' z => by
      obtain ⟨_, _, _, _, _, _, _, _, _, _, _, _, z⟩ := z
      exact z)
end Dd
/-! Mirrors are evaluated by simp. -/
namespace Dd
open PySem L2
section
variable (ρ : Env) (a b k : DE) (t u : DT) (s r : DS) (as : DA) (f g : D → D → Option (Bool × D)) (h : D → Option (Bool × D)) (i : Nat) (d : D) (ds : List D)
@[simp] theorem v_seq : dSeq s r ρ = match s ρ with | .nx ρ1 => r ρ1 | z => z := rfl
@[simp] theorem v_var : dVar i ρ = match ρ[i]? with | some (some d) => .ok false d false ρ | _ => .bad := rfl
@[simp] theorem v_fz : dFz i ρ = match ρ[i]? with | some (some d) => if frz d = true then .ok true d false ρ else .ok true (fz d) true (ρ.set i (some (fz d))) | _ => .bad := rfl
@[simp] theorem v_mv : dMv i ρ = match ρ[i]? with | some (some d) => .ok true d true (ρ.set i none) | _ => .bad := rfl
@[simp] theorem v_c : dC d ρ = .ok true d false ρ := rfl
@[simp] theorem v_pass : dPass ρ = .nx ρ := rfl
@[simp] theorem v_brk : dBrk ρ = .bk ρ := rfl
@[simp] theorem v_cnt : dCnt ρ = .ct ρ := rfl
@[simp] theorem v_retN : dRetN ρ = .rt .non ρ := rfl
@[simp] theorem v_raise (x : Str) : dRaise x ρ = .ex x [] ρ := rfl
@[simp] theorem v_nil : dNil ρ = .ok true [] false ρ := rfl
@[simp] theorem v_yes : dYes ρ = .ok true true false ρ := rfl
@[simp] theorem v_no : dNo ρ = .ok true none false ρ := rfl
@[simp] theorem v_int (C : Int → Int → Bool) (p : Int → Int → D) (x y : Int) : fInt C p (.int x) (.int y) = if C x y = true then some (true, p x y) else none := rfl
@[simp] theorem v_add (x y : Int) : fAdd (.int x) (.int y) = some (true, .int (x + y)) := rfl
@[simp] theorem v_plus (x y : Int) : fPlus (.int x) (.int y) = some (true, .int (x + y)) := rfl
@[simp] theorem v_sub (x y : Int) : fSub (.int x) (.int y) = some (true, .int (x - y)) := rfl
@[simp] theorem v_mul (x y : Int) : fMul (.int x) (.int y) = if okMul x y = true then some (true, .int (x * y)) else none := rfl
@[simp] theorem v_mod (x y : Int) : fMod (.int x) (.int y) = if 0 < y then some (true, .int (x % y)) else none := by
  show (if decide (0 < y) = true then _ else _) = _
  simp only [decide_eq_true_eq]
@[simp] theorem v_divW (x y : Int) : fDivW (.int x) (.int y) = if 0 < y ∧ y.natAbs < 18446744073709551616 then some (true, .int (x / y)) else none := by
  show (if decide (0 < y ∧ y.natAbs < 2 ^ 64) = true then _ else _) = _
  simp only [decide_eq_true_eq] <;> rfl
@[simp] theorem v_cmp (p : Int → Int → Bool) (x y : Int) : fCmp p (.int x) (.int y) = some (true, .bl (p x y)) := rfl
@[simp] theorem v_max (x y : Int) : fMax2 (.int x) (.int y) = some (true, .int (if y > x then y else x)) := rfl
@[simp] theorem v_min (x y : Int) : fMin2 (.int x) (.int y) = some (true, .int (if y < x then y else x)) := rfl
@[simp] theorem v_bind1 (f : D → Option (Bool × D)) (a : DE) (ρ : Env) : bind1 f a ρ = match a ρ with
  | .ok f1 x e1 ρ1 => (match f x with | some (fr, z) => .ok fr z e1 ρ1 | none => .bad)
  | .ex c xs ρ1 => .ex c xs ρ1
  | .bad => .bad := rfl
@[simp] theorem v_bind2 (f : D → D → Option (Bool × D)) (a b : DE) (ρ : Env) : bind2 f a b ρ = match a ρ with
  | .ok f1 x e1 ρ1 => (match b ρ1 with
    | .ok f2 y e2 ρ2 => if (!e2 || f1 || frz x) = true then (match f x y with | some (fr, z) => .ok fr z (e1 || e2) ρ2 | none => .bad) else .bad
    | .ex c xs ρ2 => .ex c xs ρ2
    | .bad => .bad)
  | .ex c xs ρ1 => .ex c xs ρ1
  | .bad => .bad := rfl
@[simp] theorem v_dCons (m : DE) (r : DA) (ρ : Env) : dCons m r ρ = match m ρ with
  | .ok f1 x e1 ρ1 => if (f1 || frz x) = true then (match r ρ1 with
    | .ok _ xs e2 ρ2 => .ok true (x :: xs) (e1 || e2) ρ2
    | .ex c ys ρ2 => .ex c ys ρ2
    | .bad => .bad) else .bad
  | .ex c xs ρ1 => .ex c xs ρ1
  | .bad => .bad := rfl
@[simp] theorem v_dBox (own : Bool) (k : Kd) (a : DA) (ρ : Env) : dBox own k a ρ = match a ρ with
  | .ok _ xs e ρ1 => if xs.length ≤ 1000000 then .ok true (.box own k xs) e ρ1 else .bad
  | .ex c xs ρ1 => .ex c xs ρ1
  | .bad => .bad := rfl
@[simp] theorem v_dAt (m : DE) (ρ : Env) : dAt m ρ = match m ρ with
  | .ok _ (.int i) e ρ1 => .ok true (some i) e ρ1
  | .ok _ _ _ _ => .bad
  | .ex c xs ρ1 => .ex c xs ρ1
  | .bad => .bad := rfl
@[simp] theorem v_dSl (m : DE) (lo hi : DO) (ρ : Env) : dSl m lo hi ρ = match m ρ with
  | .ok f1 x e1 ρ1 => (match lo ρ1 with
    | .ok _ l e2 ρ2 => (match hi ρ2 with
      | .ok _ h e3 ρ3 => if (!(e2 || e3) || f1 || frz x) = true then (match fSl x l h with | some (fr, z) => .ok fr z (e1 || (e2 || e3)) ρ3 | none => .bad) else .bad
      | .ex c xs ρ3 => .ex c xs ρ3
      | .bad => .bad)
    | .ex c xs ρ2 => .ex c xs ρ2
    | .bad => .bad)
  | .ex c xs ρ1 => .ex c xs ρ1
  | .bad => .bad := rfl
@[simp] theorem v_dT (m : DE) (ρ : Env) : dT m ρ = match m ρ with
  | .ok _ x e ρ1 => (match truthD x with | some b => .ok true b e ρ1 | none => .bad)
  | .ex c xs ρ1 => .ex c xs ρ1
  | .bad => .bad := rfl
@[simp] theorem v_dAnd (a b : DT) (ρ : Env) : dAnd a b ρ = match a ρ with
  | .ok _ x e ρ1 => if x = true then (match b ρ1 with
    | .ok _ y e2 ρ2 => .ok true y (e || e2) ρ2
    | .ex c xs ρ2 => .ex c xs ρ2
    | .bad => .bad) else .ok true false e ρ1
  | .ex c xs ρ1 => .ex c xs ρ1
  | .bad => .bad := rfl
@[simp] theorem v_dOr (a b : DT) (ρ : Env) : dOr a b ρ = match a ρ with
  | .ok _ x e ρ1 => if x = true then .ok true true e ρ1 else (match b ρ1 with
    | .ok _ y e2 ρ2 => .ok true y (e || e2) ρ2
    | .ex c xs ρ2 => .ex c xs ρ2
    | .bad => .bad)
  | .ex c xs ρ1 => .ex c xs ρ1
  | .bad => .bad := rfl
@[simp] theorem v_dNot (a : DT) (ρ : Env) : dNot a ρ = match a ρ with
  | .ok _ x e ρ1 => .ok true (!x) e ρ1
  | .ex c xs ρ1 => .ex c xs ρ1
  | .bad => .bad := rfl
@[simp] theorem v_dAndV (a b : DE) (ρ : Env) : dAndV a b ρ = match a ρ with
  | .ok _ (.bl true) e ρ1 => (match b ρ1 with
    | .ok f y e2 ρ2 => .ok f y (e || e2) ρ2
    | .ex c xs ρ2 => .ex c xs ρ2
    | .bad => .bad)
  | .ok _ (.bl false) e ρ1 => .ok true (.bl false) e ρ1
  | .ok _ _ _ _ => .bad
  | .ex c xs ρ1 => .ex c xs ρ1
  | .bad => .bad := rfl
@[simp] theorem v_dOrV (a b : DE) (ρ : Env) : dOrV a b ρ = match a ρ with
  | .ok _ (.bl false) e ρ1 => (match b ρ1 with
    | .ok f y e2 ρ2 => .ok f y (e || e2) ρ2
    | .ex c xs ρ2 => .ex c xs ρ2
    | .bad => .bad)
  | .ok _ (.bl true) e ρ1 => .ok true (.bl true) e ρ1
  | .ok _ _ _ _ => .bad
  | .ex c xs ρ1 => .ex c xs ρ1
  | .bad => .bad := rfl
@[simp] theorem v_dNotV (a : DE) (ρ : Env) : dNotV a ρ = match a ρ with
  | .ok _ (.bl b) e ρ1 => .ok true (.bl (!b)) e ρ1
  | .ok _ _ _ _ => .bad
  | .ex c xs ρ1 => .ex c xs ρ1
  | .bad => .bad := rfl
@[simp] theorem v_dChain (f g : D → D → Option (Bool × D)) (a b k : DE) (ρ : Env) : dChain f g a b k ρ = match a ρ with
  | .ok f1 x e1 ρ1 => (match b ρ1 with
    | .ok f2 y e2 ρ2 => if (!e2 || f1 || frz x) = true then (match f x y with
      | some (_, .bl true) => (match k ρ2 with
        | .ok f3 z e3 ρ3 => if (!e3 || f2 || frz y) = true then (match g y z with | some (fr, d) => .ok fr d ((e1 || e2) || e3) ρ3 | none => .bad) else .bad
        | .ex c xs ρ3 => .ex c xs ρ3
        | .bad => .bad)
      | some (_, .bl false) => .ok true (.bl false) (e1 || e2) ρ2
      | _ => .bad) else .bad
    | .ex c xs ρ2 => .ex c xs ρ2
    | .bad => .bad)
  | .ex c xs ρ1 => .ex c xs ρ1
  | .bad => .bad := rfl
@[simp] theorem v_dIfE (t : DT) (a b : DE) (ρ : Env) : dIfE t a b ρ = match t ρ with
  | .ok _ x e ρ1 => (match (if x = true then a else b) ρ1 with
    | .ok f y e2 ρ2 => .ok f y (e || e2) ρ2
    | .ex c xs ρ2 => .ex c xs ρ2
    | .bad => .bad)
  | .ex c xs ρ1 => .ex c xs ρ1
  | .bad => .bad := rfl
@[simp] theorem v_dCall (F : DF) (a : DA) (ρ : Env) : dCall F a ρ = match a ρ with
  | .ok _ ds e ρ1 => (match F ds with
    | .ok d [] => .ok true d e ρ1
    | .ok _ _ => .bad
    | .ex x [] => .ex x [] ρ1
    | .ex _ _ => .bad
    | .bad => .bad)
  | .ex c xs ρ1 => .ex c xs ρ1
  | .bad => .bad := rfl
@[simp] theorem v_dCallL (F : DF) (i : Nat) (a : DA) (ρ : Env) : dCallL F i a ρ = match ρ[i]? with
  | some (some _) => (match a ρ with
    | .ok _ ds e ρ1 => (match ρ1[i]? with
      | some (some d0) => (match F (d0 :: ds) with
        | .ok d [d1] => .ok true d true (ρ1.set i (some d1))
        | .ok _ _ => .bad
        | .ex x [d1] => .ex x [] (ρ1.set i (some d1))
        | .ex _ _ => .bad
        | .bad => .bad)
      | _ => .bad)
    | .ex c xs ρ1 => .ex c xs ρ1
    | .bad => .bad)
  | _ => .bad := rfl
@[simp] theorem v_dDrop (m : DE) (ρ : Env) : dDrop m ρ = match m ρ with
  | .ok _ _ _ ρ1 => .nx ρ1
  | .ex c xs ρ1 => .ex c xs ρ1
  | .bad => .bad := rfl
@[simp] theorem v_dAsg (i : Nat) (m : DE) (ρ : Env) : dAsg i m ρ = match m ρ with
  | .ok f d _ ρ1 => if (f || frz d) = true then (if i < ρ1.length then .nx (ρ1.set i (some d)) else .bad) else .bad
  | .ex c xs ρ1 => .ex c xs ρ1
  | .bad => .bad := rfl
@[simp] theorem v_dRet (m : DE) (ρ : Env) : dRet m ρ = match m ρ with
  | .ok f d _ ρ1 => if (f || frz d) = true then .rt d ρ1 else .bad
  | .ex c xs ρ1 => .ex c xs ρ1
  | .bad => .bad := rfl
@[simp] theorem v_dIf (t : DT) (a b : DS) (ρ : Env) : dIf t a b ρ = match t ρ with
  | .ok _ x _ ρ1 => if x = true then a ρ1 else b ρ1
  | .ex c xs ρ1 => .ex c xs ρ1
  | .bad => .bad := rfl
@[simp] theorem v_dAug (i : Nat) (g : Int → Int → Int) (m : DE) (ρ : Env) : dAug i g m ρ = match ρ[i]? with
  | some (some (.int a)) => (match m ρ with
    | .ok _ (.int b) _ ρ1 => if i < ρ1.length then .nx (ρ1.set i (some (.int (g a b)))) else .bad
    | .ok _ _ _ _ => .bad
    | .ex c xs ρ1 => .ex c xs ρ1
    | .bad => .bad)
  | _ => .bad := rfl
@[simp] theorem v_dAsgT (is : List Nat) (m : DE) (ρ : Env) : dAsgT is m ρ = match m ρ with
  | .ok f d _ ρ1 => if (f || frz d) = true then (match d with
    | .box _ .tup ds => (match setAll is ds ρ1 with | some ρ2 => .nx ρ2 | none => .bad)
    | _ => .bad) else .bad
  | .ex c xs ρ1 => .ex c xs ρ1
  | .bad => .bad := rfl
@[simp] theorem v_dApp (i : Nat) (m : DE) (ρ : Env) : dApp i m ρ = match ρ[i]? with
  | some (some (.box true .lst _)) => (match m ρ with
    | .ok f d _ ρ1 => if (f || frz d) = true then (match ρ1[i]? with
      | some (some (.box true .lst ds)) => if ds.length < 1000000 then .nx (ρ1.set i (some (.box true .lst (ds ++ [d])))) else .bad
      | _ => .bad) else .bad
    | .ex c xs ρ1 => .ex c xs ρ1
    | .bad => .bad)
  | _ => .bad := rfl
@[simp] theorem v_dSetI (i : Nat) (mk me : DE) (ρ : Env) : dSetI i mk me ρ = match ρ[i]? with
  | some (some _) => (match me ρ with
    | .ok f d e1 ρ1 => if (f || frz d) = true then (match mk ρ1 with
      | .ok _ (.int k) e2 ρ2 => (match ρ2[i]? with
        | some (some (.box true .lst ds)) => (match ixN ds.length k with
          | some j => .nx (ρ2.set i (some (.box true .lst (ds.set j d))))
          | none => .bad)
        | _ => .bad)
      | .ok _ _ _ _ => .bad
      | .ex c xs ρ2 => .ex c xs ρ2
      | .bad => .bad) else .bad
    | .ex c xs ρ1 => .ex c xs ρ1
    | .bad => .bad)
  | _ => .bad := rfl
@[simp] theorem v_dPopAt (i : Nat) (mk : DE) (ρ : Env) : dPopAt i mk ρ = match ρ[i]? with
  | some (some (.box true .lst _)) => (match mk ρ with
    | .ok _ (.int k) _ ρ1 => (match ρ1[i]? with
      | some (some (.box true .lst ds)) => if ds.length < 1000000 then (match ixN ds.length k with
        | some j => (match ds[j]? with
          | some d => .ok true d true (ρ1.set i (some (.box true .lst (ds.eraseIdx j))))
          | none => .bad)
        | none => .bad) else .bad
      | _ => .bad)
    | .ok _ _ _ _ => .bad
    | .ex c xs ρ1 => .ex c xs ρ1
    | .bad => .bad)
  | _ => .bad := rfl
@[simp] theorem v_dItems (m : DE) (ρ : Env) : dItems m ρ = match m ρ with
  | .ok f (.box own .lst ds) e ρ1 => if ((f || !own) && frzL ds) = true then .ok true ds e ρ1 else .bad
  | .ok _ (.box _ .tup ds) e ρ1 => if frzL ds = true then .ok true ds e ρ1 else .bad
  | .ok _ _ _ _ => .bad
  | .ex c xs ρ1 => .ex c xs ρ1
  | .bad => .bad := rfl
@[simp] theorem v_dRange1 (a : DA) (ρ : Env) : dRange1 a ρ = match a ρ with
  | .ok _ [.int n] e ρ1 => if okR n = true then .ok true (rangeD 0 n.toNat) e ρ1 else .bad
  | .ok _ _ _ _ => .bad
  | .ex c xs ρ1 => .ex c xs ρ1
  | .bad => .bad := rfl
@[simp] theorem v_dRange2 (a : DA) (ρ : Env) : dRange2 a ρ = match a ρ with
  | .ok _ [.int i, .int n] e ρ1 => if (okR i && okR n) = true then .ok true (rangeD i (n - i).toNat) e ρ1 else .bad
  | .ok _ _ _ _ => .bad
  | .ex c xs ρ1 => .ex c xs ρ1
  | .bad => .bad := rfl
@[simp] theorem v_dFor (it : DI) (t : Tg) (body : DS) (ρ : Env) : dFor it t body ρ = match it ρ with
  | .ok _ ds _ ρ1 => forLoop t body ds ρ1
  | .ex c xs ρ1 => .ex c xs ρ1
  | .bad => .bad := rfl
@[simp] theorem v_dLc (it : DI) (t : Tg) (test : DT) (elt : DE) (vs : List Nat) (ρ : Env) : dLc it t test elt vs ρ = match it ρ with
  | .ok _ ds e ρ1 => (match lcLoop t test elt vs ds [] false (wipeE ρ1 vs) with
    | .ok _ acc eff ρ2 => .ok true (.box true .lst acc) (e || eff) (if eff = true then ρ2 else ρ1)
    | _ => .bad)
  | .ex c xs ρ1 => .ex c xs ρ1
  | .bad => .bad := rfl
@[simp] theorem v_run (ln : Bool) (n : Nat) (m : DS) (ds : List D) : runD ln n m ds = match m (ds.map some ++ List.replicate (n - ds.length) none) with
  | .rt d ρ => if ln = true then (match ρ[0]? with | some (some d0) => .ok d [d0] | _ => .bad) else .ok d []
  | .nx ρ => if ln = true then (match ρ[0]? with | some (some d0) => .ok .non [d0] | _ => .bad) else .ok .non []
  | .ex x [] ρ => if ln = true then (match ρ[0]? with | some (some d0) => .ex x [d0] | _ => .bad) else .ex x []
  | _ => .bad := rfl
@[simp] theorem v_tgN (i : Nat) (d : D) (ρ : Env) : tgN i d ρ = if i < ρ.length then some (ρ.set i (some d)) else none := rfl
@[simp] theorem v_tgT (is : List Nat) (o : Bool) (ds : List D) (ρ : Env) : tgT is (.box o .tup ds) ρ = setAll is ds ρ := rfl
@[simp] theorem v_set0 (ρ : Env) : setAll [] [] ρ = some ρ := rfl
@[simp] theorem v_set1 (i : Nat) (is : List Nat) (d : D) (ds : List D) (ρ : Env) : setAll (i :: is) (d :: ds) ρ = if i < ρ.length then setAll is ds (ρ.set i (some d)) else none := rfl
@[simp] theorem v_is (x : D) : fIs x .non = some (true, .bl (isNon x)) := rfl
@[simp] theorem v_isN (x : D) : fIsNot x .non = some (true, .bl (!isNon x)) := rfl
@[simp] theorem v_nn : isNon .non = true := rfl
@[simp] theorem v_nb (b : Bool) : isNon (.bl b) = false := rfl
@[simp] theorem v_ni (b : Int) : isNon (.int b) = false := rfl
@[simp] theorem v_ns (b : Str) : isNon (.str b) = false := rfl
@[simp] theorem v_nx (o : Bool) (k : Kd) (ds : List D) : isNon (.box o k ds) = false := rfl
@[simp] theorem v_int1 (i : Int) : fInt1 (.int i) = some (true, .int i) := rfl
@[simp] theorem v_intb (b : Bool) : fInt1 (.bl b) = some (true, .int (if b then 1 else 0)) := rfl
@[simp] theorem v_abs (i : Int) : fAbs (.int i) = some (true, .int (if i < 0 then -i else i)) := rfl
@[simp] theorem v_neg (i : Int) : fNeg (.int i) = some (true, .int (-i)) := rfl
@[simp] theorem v_lenT (o : Bool) (ds : List D) : fLen (.box o .tup ds) = some (true, .int (ds.length : Int)) := rfl
@[simp] theorem v_lenL (o : Bool) (ds : List D) : fLen (.box o .lst ds) = some (true, .int (ds.length : Int)) := rfl
@[simp] theorem v_ixT (o : Bool) (ds : List D) (i : Int) : fIx (.box o .tup ds) (.int i) = (atI ds i).map fun d => (frz d, d) := rfl
@[simp] theorem v_ixL (o : Bool) (ds : List D) (i : Int) : fIx (.box o .lst ds) (.int i) = (atI ds i).map fun d => (frz d, d) := rfl
@[simp] theorem v_toT (o : Bool) (ds : List D) : fTupOf (.box o .tup ds) = if frzL ds = true then some (true, .box false .tup ds) else none := rfl
@[simp] theorem v_toL (o : Bool) (ds : List D) : fTupOf (.box o .lst ds) = if frzL ds = true then some (true, .box false .tup ds) else none := rfl
@[simp] theorem v_loT (o : Bool) (ds : List D) : fLstOf (.box o .tup ds) = if frzL ds = true then some (true, .box true .lst ds) else none := rfl
@[simp] theorem v_loL (o : Bool) (ds : List D) : fLstOf (.box o .lst ds) = if frzL ds = true then some (true, .box true .lst ds) else none := rfl
@[simp] theorem v_slT (o : Bool) (ds : List D) (x y : Option Int) : fSl (.box o .tup ds) x y = if frzL ds = true then some (true, .box false .tup (cutG ds x y)) else none := rfl
@[simp] theorem v_slL (o : Bool) (ds : List D) (x y : Option Int) : fSl (.box o .lst ds) x y = if frzL ds = true then some (true, .box true .lst (cutG ds x y)) else none := rfl
@[simp] theorem v_tN (n : Ty) : fIsi n .non = some (true, .bl (isi .non n)) := rfl
@[simp] theorem v_tB (n : Ty) (b : Bool) : fIsi n (.bl b) = some (true, .bl (isi .bool n)) := rfl
@[simp] theorem v_tI (n : Ty) (b : Int) : fIsi n (.int b) = some (true, .bl (isi .int n)) := rfl
@[simp] theorem v_tS (n : Ty) (b : Str) : fIsi n (.str b) = some (true, .bl (isi .str n)) := rfl
@[simp] theorem v_tT (n : Ty) (o : Bool) (ds : List D) : fIsi n (.box o .tup ds) = some (true, .bl (isi .tup n)) := rfl
@[simp] theorem v_tL (n : Ty) (o : Bool) (ds : List D) : fIsi n (.box o .lst ds) = some (true, .bl (isi .lst n)) := rfl
@[simp] theorem v_uN : truthD .non = some false := rfl
@[simp] theorem v_uB (b : Bool) : truthD (.bl b) = some b := rfl
@[simp] theorem v_uI (i : Int) : truthD (.int i) = some (i != 0) := rfl
@[simp] theorem v_uT (o : Bool) (ds : List D) : truthD (.box o .tup ds) = some (!ds.isEmpty) := rfl
@[simp] theorem v_uL (o : Bool) (ds : List D) : truthD (.box o .lst ds) = some (!ds.isEmpty) := rfl
@[simp] theorem v_fN : frz .non = true := rfl
@[simp] theorem v_fB (b : Bool) : frz (.bl b) = true := rfl
@[simp] theorem v_fI (b : Int) : frz (.int b) = true := rfl
@[simp] theorem v_fS (b : Str) : frz (.str b) = true := rfl
@[simp] theorem v_fX (o : Bool) (k : Kd) (ds : List D) : frz (.box o k ds) = (!o && frzL ds) := rfl
@[simp] theorem v_fL0 : frzL [] = true := rfl
@[simp] theorem v_fL1 (d : D) (ds : List D) : frzL (d :: ds) = (frz d && frzL ds) := rfl
@[simp] theorem v_zX (o : Bool) (k : Kd) (ds : List D) : fz (.box o k ds) = .box false k (fzL ds) := rfl
@[simp] theorem v_zI (i : Int) : fz (.int i) = .int i := rfl
@[simp] theorem v_zL0 : fzL [] = [] := rfl
@[simp] theorem v_zL1 (d : D) (ds : List D) : fzL (d :: ds) = fz d :: fzL ds := rfl
@[simp] theorem frzL_ints : ∀ l : List Int, frzL (l.map D.int) = true
  | [] => rfl
  | a :: l => by
    show (frz (D.int a) && frzL (l.map D.int)) = true
    rw [frzL_ints l] <;> rfl
@[simp] theorem fzL_ints : ∀ l : List Int, fzL (l.map D.int) = l.map D.int
  | [] => rfl
  | a :: l => by
    show fz (D.int a) :: fzL (l.map D.int) = _
    rw [fzL_ints l] <;> rfl
@[simp] theorem frzL_app (l r : List D) : frzL (l ++ r) = (frzL l && frzL r) := by
  induction l with
  | nil => rfl
  | cons a l ih => simp [ih, Bool.and_assoc]
theorem at_lit {α : Type} (xs : List α) (i : Nat) : atI xs (i : Int) = xs[i]? := by
  cases h : xs[i]? with
  | some x => exact atI_nat h
  | none =>
    have h2 : xs.length ≤ i := List.getElem?_eq_none_iff.mp h
    unfold atI ixN
    rw [if_pos (Int.natCast_nonneg i), if_neg (by omega)]
    rfl
theorem ix_lit (n i : Nat) : ixN n (i : Int) = if i < n then some i else none := by
  unfold ixN
  rw [if_pos (Int.natCast_nonneg i)]
  by_cases h : i < n
  · rw [if_pos h, if_pos (by omega)] <;> simp
  · rw [if_neg h, if_neg (by omega)]
@[simp] theorem v_at0 {α : Type} (xs : List α) : atI xs 0 = xs[0]? := at_lit xs 0
@[simp] theorem v_ix0 (n : Nat) : ixN n 0 = if 0 < n then some 0 else none := ix_lit n 0
@[simp] theorem v_at1 {α : Type} (xs : List α) : atI xs 1 = xs[1]? := at_lit xs 1
@[simp] theorem v_ix1 (n : Nat) : ixN n 1 = if 1 < n then some 1 else none := ix_lit n 1
@[simp] theorem v_at2 {α : Type} (xs : List α) : atI xs 2 = xs[2]? := at_lit xs 2
@[simp] theorem v_ix2 (n : Nat) : ixN n 2 = if 2 < n then some 2 else none := ix_lit n 2
@[simp] theorem v_at3 {α : Type} (xs : List α) : atI xs 3 = xs[3]? := at_lit xs 3
@[simp] theorem v_ix3 (n : Nat) : ixN n 3 = if 3 < n then some 3 else none := ix_lit n 3
@[simp] theorem v_at4 {α : Type} (xs : List α) : atI xs 4 = xs[4]? := at_lit xs 4
@[simp] theorem v_ix4 (n : Nat) : ixN n 4 = if 4 < n then some 4 else none := ix_lit n 4
@[simp] theorem v_at5 {α : Type} (xs : List α) : atI xs 5 = xs[5]? := at_lit xs 5
@[simp] theorem v_ix5 (n : Nat) : ixN n 5 = if 5 < n then some 5 else none := ix_lit n 5
@[simp] theorem v_at6 {α : Type} (xs : List α) : atI xs 6 = xs[6]? := at_lit xs 6
@[simp] theorem v_ix6 (n : Nat) : ixN n 6 = if 6 < n then some 6 else none := ix_lit n 6
@[simp] theorem v_at7 {α : Type} (xs : List α) : atI xs 7 = xs[7]? := at_lit xs 7
@[simp] theorem v_ix7 (n : Nat) : ixN n 7 = if 7 < n then some 7 else none := ix_lit n 7
@[simp] theorem v_wipe0 (ρ : Env) : wipeE ρ [] = ρ := rfl
@[simp] theorem v_wipe1 (ρ : Env) (v : Nat) (vs : List Nat) : wipeE ρ (v :: vs) = (wipeE ρ vs).set v none := rfl
theorem fzL_of : ∀ l : List D, frzL l = true → fzL l = l
  | [], _ => rfl
  | d :: l, h => by
    have h : (frz d && frzL l) = true := h
    obtain ⟨h1, h2⟩ := Bool.and_eq_true_iff.mp h
    show fz d :: fzL l = d :: l
    rw [fzL_of l h2]
    cases d with
    | box o k es =>
      have h1 : (!o && frzL es) = true := h1
      obtain ⟨h3, h4⟩ := Bool.and_eq_true_iff.mp h1
      show D.box false k (fzL es) :: l = _
      rw [fzL_of es h4]
      cases o with
      | false => rfl
      | true => cases h3
    | _ => rfl
/-- a loop by an invariant -/
theorem for_ind {t : Tg} {body : DS} (I : List D → Env → Prop) (step : ∀ d ds ρ, I (d :: ds) ρ → ∃ ρ1 ρ2, t d ρ = some ρ1 ∧ body ρ1 = .nx ρ2 ∧ I ds ρ2) : ∀ (ds : List D) (ρ : Env), I ds ρ → ∃ ρ', forLoop t body ds ρ = .nx ρ' ∧ I [] ρ'
  | [], ρ, h => ⟨ρ, rfl, h⟩
  | d :: ds, ρ, h => by
    obtain ⟨ρ1, ρ2, h1, h2, h3⟩ := step d ds ρ h
    obtain ⟨ρ', h4, h5⟩ := for_ind I step ds ρ2 h3
    refine ⟨ρ', ?_, h5⟩
    simp only [forLoop, h1, h2, h4]
theorem lc_go {α : Type} {t : Tg} {test : DT} {elt : DE} {vs : List Nat} (c : α → D) (g : α → Option D) (I : Dd.Env → Prop) : ∀ (xs : List α)
    (step : ∀ x ∈ xs, ∀ ρ, I ρ → ∃ ρ1, t (c x) ρ = some ρ1 ∧ ((g x = none ∧ ∃ e ρ2, test ρ1 = .ok true false e ρ2 ∧ I (wipeE ρ2 vs)) ∨
      ∃ e ρ2 f y e2 ρ3, g x = some y ∧ test ρ1 = .ok true true e ρ2 ∧ elt ρ2 = .ok f y e2 ρ3 ∧ (f || frz y) = true ∧ I (wipeE ρ3 vs)))
    (acc : List D) (eff : Bool) (ρ : Dd.Env), acc.length + xs.length ≤ 1000000 → I ρ → ∃ eff' ρ', lcLoop t test elt vs (xs.map c) acc eff ρ = .ok true (acc ++ xs.filterMap g) eff' ρ' ∧ I ρ'
  | [], _, acc, eff, ρ, _, h => ⟨eff, ρ, by simp [lcLoop], h⟩
  | x :: xs, step, acc, eff, ρ, hl, h => by
    have hl' : acc.length + (xs.length + 1) ≤ 1000000 := hl
    obtain ⟨ρ1, h1, h2⟩ := step x List.mem_cons_self ρ h
    have rest := fun z hz => step z (List.mem_cons_of_mem _ hz)
    rcases h2 with ⟨hg, e, ρ2, h3, i1⟩ | ⟨e, ρ2, f, y, e2, ρ3, hg, h3, h4, c1, i1⟩
    · obtain ⟨eff', ρ', q, hI⟩ := lc_go c g I xs rest acc (eff || e) (wipeE ρ2 vs) (by omega) i1
      refine ⟨eff', ρ', ?_, hI⟩
      simp only [List.map_cons, lcLoop, h1, h3, q, List.filterMap_cons, hg]
    · obtain ⟨eff', ρ', q, hI⟩ := lc_go c g I xs rest (acc ++ [y]) (eff || e || e2) (wipeE ρ3 vs) (by simp <;> omega) i1
      refine ⟨eff', ρ', ?_, hI⟩
      have c2 : acc.length < 1000000 := by omega
      simp only [List.map_cons, lcLoop, h1, h3, h4, c1, c2, if_true, q, List.filterMap_cons, hg, List.append_assoc] <;> rfl
/-- a comprehension whose items say what they give -/
theorem lc_do {α : Type} {it : DI} {t : Tg} {test : DT} {elt : DE} {vs : List Nat} {ρ ρ1 : Dd.Env} {f e : Bool} (xs : List α) (c : α → D) (g : α → Option D) (I : Dd.Env → Prop) (hit : it ρ = .ok f (xs.map c) e ρ1) (hl : xs.length ≤ 1000000) (hI : I (wipeE ρ1 vs))
    (step : ∀ x ∈ xs, ∀ ρ, I ρ → ∃ ρ1, t (c x) ρ = some ρ1 ∧ ((g x = none ∧ ∃ e ρ2, test ρ1 = .ok true false e ρ2 ∧ I (wipeE ρ2 vs)) ∨
      ∃ e ρ2 f y e2 ρ3, g x = some y ∧ test ρ1 = .ok true true e ρ2 ∧ elt ρ2 = .ok f y e2 ρ3 ∧ (f || frz y) = true ∧ I (wipeE ρ3 vs))) :
    ∃ e' ρ', dLc it t test elt vs ρ = .ok true (.box true .lst (xs.filterMap g)) e' ρ' ∧ (ρ' = ρ1 ∨ I ρ') := by
  obtain ⟨eff, ρ2, h, hI2⟩ := lc_go c g I xs step [] false (wipeE ρ1 vs) (by simpa using hl) hI
  refine ⟨e || eff, if eff = true then ρ2 else ρ1, ?_, ?_⟩
  · simp only [v_dLc, hit, h, List.nil_append]
  · cases eff with
    | true => exact .inr hI2
    | false => exact .inl rfl
theorem lc_goR {α : Type} {t : Tg} {elt : DE} {vs : List Nat} (c : α → D) (Pr : D → Prop) (I : Dd.Env → Prop) : ∀ (xs : List α)
    (step : ∀ x ∈ xs, ∀ ρ, I ρ → ∃ ρ1, t (c x) ρ = some ρ1 ∧ ∃ f y e2 ρ3, elt ρ1 = .ok f y e2 ρ3 ∧ (f || frz y) = true ∧ Pr y ∧ I (wipeE ρ3 vs))
    (acc : List D) (eff : Bool) (ρ : Dd.Env), acc.length + xs.length ≤ 1000000 → I ρ → ∃ eff' ρ' ys, lcLoop t dYes elt vs (xs.map c) acc eff ρ = .ok true (acc ++ ys) eff' ρ' ∧ ys.length = xs.length ∧ (∀ y ∈ ys, Pr y) ∧ I ρ'
  | [], _, acc, eff, ρ, _, h => ⟨eff, ρ, [], by simp [lcLoop], rfl, (fun _ z => nomatch z), h⟩
  | x :: xs, step, acc, eff, ρ, hl, h => by
    have hl' : acc.length + (xs.length + 1) ≤ 1000000 := hl
    obtain ⟨ρ1, h1, f, y, e2, ρ3, h4, c1, hp, i1⟩ := step x List.mem_cons_self ρ h
    obtain ⟨eff', ρ', ys, q, hn, hP, hI⟩ := lc_goR c Pr I xs (fun z hz => step z (List.mem_cons_of_mem _ hz)) (acc ++ [y]) (eff || false || e2) (wipeE ρ3 vs) (by simp <;> omega) i1
    have c2 : acc.length < 1000000 := by omega
    refine ⟨eff', ρ', y :: ys, ?_, congrArg (· + 1) hn, ?_, hI⟩
    · simp only [List.map_cons, lcLoop, h1, v_yes, h4, c1, c2, if_true, q, List.append_assoc] <;> rfl
    · intro z hz
      rcases List.mem_cons.mp hz with rfl | hz
      · exact hp
      · exact hP z hz
/-- .. of which only a property is told -/
theorem lc_doR {α : Type} {it : DI} {t : Tg} {elt : DE} {vs : List Nat} {ρ ρ1 : Dd.Env} {f e : Bool} (xs : List α) (c : α → D) (Pr : D → Prop) (I : Dd.Env → Prop) (hit : it ρ = .ok f (xs.map c) e ρ1) (hl : xs.length ≤ 1000000) (hI : I (wipeE ρ1 vs))
    (step : ∀ x ∈ xs, ∀ ρ, I ρ → ∃ ρ1, t (c x) ρ = some ρ1 ∧ ∃ f y e2 ρ3, elt ρ1 = .ok f y e2 ρ3 ∧ (f || frz y) = true ∧ Pr y ∧ I (wipeE ρ3 vs)) :
    ∃ e' ρ' ys, dLc it t dYes elt vs ρ = .ok true (.box true .lst ys) e' ρ' ∧ ys.length = xs.length ∧ (∀ y ∈ ys, Pr y) ∧ (ρ' = ρ1 ∨ I ρ') := by
  obtain ⟨eff, ρ2, ys, h, hn, hP, hI2⟩ := lc_goR c Pr I xs step [] false (wipeE ρ1 vs) (by simpa using hl) hI
  refine ⟨e || eff, if eff = true then ρ2 else ρ1, ys, ?_, hn, hP, ?_⟩
  · simp only [v_dLc, hit, h, List.nil_append]
  · cases eff with
    | true => exact .inr hI2
    | false => exact .inl rfl
theorem for_cons {t : Tg} {body : DS} {d : D} {ds : List D} {ρ ρ1 ρ2 : Dd.Env} (h1 : t d ρ = some ρ1) (h2 : body ρ1 = .nx ρ2) : forLoop t body (d :: ds) ρ = forLoop t body ds ρ2 := by
  simp only [forLoop, h1, h2]
theorem okMul_l {i j : Int} (h : i.natAbs < 18446744073709551616) : okMul i j = true := by
  simp only [okMul, Bool.or_eq_true, decide_eq_true_eq]
  exact .inl h
theorem okMul_r {i j : Int} (h : j.natAbs < 18446744073709551616) : okMul i j = true := by
  simp only [okMul, Bool.or_eq_true, decide_eq_true_eq]
  exact .inr h
end
end Dd
/-! try with a first clause that takes all that the body raises; isinstance of what was caught. -/
namespace Dd
open PySem L2
/-- isinstance(e, (A, B, ..)), e what the suite holds -/
def rIsET (K : PySem.W.Frag) (Dc a : Addr) : List V → Hp → VK → Prop := fun zs H Q => ∃ (tp : Addr) (cs : List V) (ws : List Value) (b : Bool), zs = [.ref a, .ref tp] ∧ H tp = some (.tup cs) ∧ Paired ClsV cs ws ∧ PySem.W.kitAny K (.ref Dc) ws = some b ∧ Q (.bl b) H
theorem call_isET {X : Cx} {a Dc : Addr} {oe : Obj} {pn : List (Addr × Obj)} (C : ExcC X.K Dc) (zc : Zc (.ref Dc) none oe) (fl : ∃ vs, oe.data = .fields vs) : CallR (X.suite a ((a, oe) :: pn)) (.builtin "isinstance") (rIsET X.K Dc a) := by
  intro ps s σ H zs us Q I r w
  obtain ⟨tp, cs, ws, b, rfl, hT, hc, hk, q⟩ := w
  obtain ⟨u1, u2, rfl, r1, r2⟩ := vals2 r
  cases (show u1 = Value.ref a from r1)
  cases (show u2 = Value.ref tp from r2)
  obtain ⟨at_, _⟩ := I.pin (a, oe) (List.mem_append.mpr (.inl List.mem_cons_self))
  obtain ⟨fs, hfs⟩ := fl
  have inst : PySem.W.InstAt s.heap a oe Dc none := by
    obtain ⟨c1, d1, p1, s1⟩ := oe
    obtain ⟨z1, z2⟩ := zc
    dsimp only at z1 z2 hfs
    subst z1 z2 hfs
    exact ⟨at_, rfl, rfl, trivial⟩
  obtain ⟨_, its, rv, o, g1, g2, n, g3⟩ := (show ObjOk X.prog X.w H s.heap tp (.tup cs) from I.hok tp _ hT)
  have same := ClsV.all hc rv
  subst same
  obtain ⟨oc, od, dt, sl⟩ := o
  simp only at g2 g3
  subst g2 g3
  exact PySem.W.kia_tup (PySem.W.handS_kitx_exc C.hg C.hk C.hs C.hd C.ha C.hn C.ht C.hm) I.kIn inst g1 hk (fun z => nomatch z) fun tk => ⟨.bl b, H, I.kept (t' := tk) fun _ _ z => z, rfl, q⟩
/-- what the first clause asks of an exception of the body, where it takes all -/
def wFst (K : PySem.W.Frag) (c : Value) (i : Nat) (ts : Addr → Value → Option Addr → TS) (D : Ends) : WX := fun cls d σ H =>
  PySem.W.exmOne K cls c = some true ∧ ∀ a, H a = none → ts a cls d { nx := fun σ1 H1 => D.nx (σ1.set i none) H1, rt := D.rt, bk := fun σ1 H1 => D.bk (σ1.set i none) H1, ct := fun σ1 H1 => D.ct (σ1.set i none) H1 } (σ.set i (some (.ref a))) H
theorem ps_try_fst {X : Cx} {x n : Str} {c : Value} {i : Nat} {body su : List Stmt} {s0 : Stmt} {more : List ExceptHandler} {np p1 p2 : Pos} {tb : WX → TS} {ts : Addr → Value → Option Addr → TS}
    (hst : X.stack = X.env :: X.outer) (hfm : X.env.frame = some X.env.locals) (nod : X.N.Nodup) (hi : X.N[i]? = some n) (kin : X.env.kindOf n = some .local) (nam : Names X x c)
    (der : ∀ (W : WX) (pn : List (Addr × Obj)) (xe : Value → Shared → Prop), Takes (X.tr pn xe) W → PassesOwn (model X.prog X.w) X.A X.env xe → PSs (X.tr pn xe) body (tb W))
    (sui : ∀ (a : Addr) (oe : Obj) (cls : Value) (d : Option Addr) (pn : List (Addr × Obj)), Zc cls d oe → (∃ vs, oe.data = .fields vs) → PSs (X.suite a ((a, oe) :: pn)) (s0 :: su) (ts a cls d)) :
    PS X (.Try body (.ExceptHandler (some (.Name x np)) (some n) (s0 :: su) p1 :: more) [] [] p2) (fun D σ H => tb (wFst X.K c i ts D) D σ H) := by
  refine ⟨fun ps s σ H D I w => ?_⟩
  have good := I.ok
  have fm : X.A.frames = some (X.env :: X.outer) := by rw [good.frames, hst]
  have lcl : Loc X.env.scope n := .inl kin
  refine wpAny_Try_except ?_
  let kk : Value → Shared → Prop := fun e s1 => wpAny (model X.prog X.w) X.A (noteFrame e X.env) (fun _ s2 => wpAny (model X.prog X.w) X.A (setFlight e none) (fun _ s3 =>
    wpAny (model X.prog X.w) X.A (handleBy e X.env (.ExceptHandler (some (.Name x np)) (some n) (s0 :: su) p1 :: more)) (SP X ps D) X.xe s3) X.xe s2) X.xe s1
  have go := (der (wFst X.K c i ts D) (X.pn ++ ps) kk (fun u s1 hx => by
    obtain ⟨a, B, sJ, ps1, σ1, H1, cls, d, rfl, J0, old, up1, hsky, na, os, ag, w1, w2⟩ := hx
    have J : Inv X ps σ1 H1 sJ := J0.ofTry good
    have hsky : Sky B (X.env :: X.outer) a (Zc cls d) X.env.locals s1.heap := by rw [← hst]; exact hsky
    show wpAny (model X.prog X.w) X.A (noteFrame (.ref a) X.env) _ _ _
    refine Sky.land Zc.steady fm hfm hsky fun m3 y3 up3 => ?_
    have I3 : Inv X ps σ1 H1 { s1 with heap := m3 } := J.landed old y3.1 (up1.trans up3) os ag
    obtain ⟨e3, v3, at3, z3, f3⟩ := y3.there
    have far : a ∉ frs (X.env :: X.outer) := fun hm => by
      obtain ⟨_, o1, at1, no1⟩ := y3.2.2.1.mem hm
      rw [at3] at at1; cases at1
      exact no1 _ f3
    have farL : a ≠ X.env.locals := fun z => far (List.mem_filterMap.mpr ⟨X.env, List.mem_cons_self, by rw [hfm, z]⟩)
    have farF : a ∉ X.fs := fun hm => by
      obtain ⟨e, he, q⟩ := List.mem_filterMap.mp hm
      exact far (List.mem_filterMap.mpr ⟨e, List.mem_cons_of_mem _ he, q⟩)
    have T3 := I3.suite at3 f3 na farL farF
    refine wpAny_handleBy_cons (codeAny_handlers_test ?_) (fun q => by cases q)
    have lt3 : PySem.W.Looks (model X.prog X.w) m3 (typeOf (.ref a)) cls := fun A Q E s k q => wpAny_typeOf_ref (k _ _ at3) (by rw [z3.1]; exact q)
    have lm3 := PySem.W.exm_one (M := model X.prog X.w) I3.kIn lt3 w1
    have tst : ∀ {Q E : Value → Shared → Prop}, Q c { s1 with heap := m3 } → wpAny (model X.prog X.w) (X.A.mark (some (.ref a))) (eval (.Name x np) X.env) Q E { s1 with heap := m3 } := fun {Q E} q => by
      obtain ⟨n1, n2, n3 | ⟨n3, n4, n5⟩⟩ := nam
      · exact ld_glob (X := X.suite a ((a, e3) :: (X.pn ++ ps))) T3 n1 n3 q n2
      · exact ld_blt (X := X.suite a ((a, e3) :: (X.pn ++ ps))) T3 n1 n3 n4 q n5 n2
    refine tst (lm3.here (codeAny_handlers_suite_as (HandSPX.lands_againZ y3 fun m4 y4 up4 => ?_)))
    have I4 : Inv X ps σ1 H1 { s1 with heap := m4 } := J.landed old y4.1 ((up1.trans up3).trans up4) os ag
    obtain ⟨e4, v4, at4, z4, f4⟩ := y4.there
    have T4 := I4.suite at4 f4 na farL farF
    refine store_ok (X := X.suite a ((a, e4) :: (X.pn ++ ps))) (v := .ref a) T4 nod hi lcl rfl (fun s5 T5 => ?_) (.inr kin)
    refine wpAny_mono ((sui a e4 cls d (X.pn ++ ps) z4 ⟨_, f4⟩).run [] s5 _ H1 _ T5 (w2 a na)) (fun f s6 sp => ?_) (fun _ _ z => False.elim z)
    have fin : ∀ {σ6 : L2.St} {H6 : Hp} {Q : Shared → Prop}, Inv (X.suite a ((a, e4) :: (X.pn ++ ps))) [] σ6 H6 s6 → (∀ s7, Inv X ps (σ6.set i none) H6 s7 → Q s7) →
        wpAny (model X.prog X.w) X.A (do bindName X.env n .none; unbindBehindTheSuite X.env n p1) (fun _ s7 => Q s7) X.xe s6 := fun T6 hq => gone_ok (T6.unsuite good) nod hi kin hq
    match f, sp with
    | .next, ⟨_, _, T6, q6⟩ => exact fin T6 fun _ J7 => ⟨_, _, J7, q6⟩
    | .brk, ⟨_, _, T6, q6⟩ => exact fin T6 fun _ J7 => ⟨_, _, J7, q6⟩
    | .cont, ⟨_, _, T6, q6⟩ => exact fin T6 fun _ J7 => ⟨_, _, J7, q6⟩
    | .ret _, ⟨_, _, _, T6, r6, q6⟩ => exact fin T6 fun _ J7 => ⟨_, _, _, J7, r6, q6⟩) PassesOwn.looking).run [] s σ H D (I.toTry _) w
  refine wpAny_mono go (fun f s1 sp => ?_) (fun _ _ z => z)
  match f, sp with
  | .next, ⟨_, _, J, q⟩ => exact wpAny_execs_nil ⟨_, _, J.ofTry good, q⟩
  | .brk, ⟨_, _, J, q⟩ => exact ⟨_, _, J.ofTry good, q⟩
  | .cont, ⟨_, _, J, q⟩ => exact ⟨_, _, J.ofTry good, q⟩
  | .ret _, ⟨_, _, _, J, r, q⟩ => exact ⟨_, _, _, J.ofTry good, r, q⟩
/-- try: body / except A as e: a return of the value d -/
def dTry1 (body : DS) (x : Str) (i : Nat) (d : D) : DS := fun ρ => match body ρ with
  | .ex y [] ρ1 => if y = x ∧ i < ρ1.length then .rt d ρ1 else .bad
  | .ex _ _ _ => .bad
  | r => r
theorem s_try1 {c : Cc} {X : Cx} {x n : Str} {C : Addr} {d : D} {v : V} {i : Nat} {body su : List Stmt} {s0 : Stmt} {more : List ExceptHandler} {np p1 p2 : Pos} {m : DS} {ts : Addr → TS}
    (hst : X.stack = X.env :: X.outer) (hfm : X.env.frame = some X.env.locals) (nod : X.N.Nodup) (hi : X.N[i]? = some n) (kin : X.env.kindOf n = some .local) (nam : Names X x (.ref C)) (hx : c.G.cn x = some C) (hm : PySem.W.exmOne X.K (.ref C) (.ref C) = some true) (hv : sv d = some v)
    (der : ∀ (W : EW) (pn : List (Addr × Obj)) (xe : Value → Shared → Prop), Takes (X.tr pn xe) (wxOf { c with W := W }) → PassesOwn (model X.prog X.w) X.A X.env xe → PSs (X.tr pn xe) body (tS { c with W := W } m))
    (sui : ∀ (a : Addr) (oe : Obj) (pn : List (Addr × Obj)), Zc (.ref C) none oe → (∃ vs, oe.data = .fields vs) → PSs (X.suite a ((a, oe) :: pn)) (s0 :: su) (ts a))
    (hts : ∀ (a : Addr) (D : Ends) (σ : L2.St) (H : Hp), i < σ.length → H a = none → (∀ H1, Ex H H1 → D.rt v H1) → ts a D (σ.set i (some (.ref a))) H) :
    PS X (.Try body (.ExceptHandler (some (.Name x np)) (some n) (s0 :: su) p1 :: more) [] [] p2) (tS c (dTry1 m x i d)) := by
  have key := ps_try_fst (X := X) (np := np) (p1 := p1) (p2 := p2) (more := more) (tb := fun W => tS { c with W := fun y ys σ H => ys = [] → ∀ C, c.G.cn y = some C → W (.ref C) none σ H } m) hst hfm nod hi kin nam
    (fun W pn xe tk po => der _ pn xe (tk.imp fun cls dd σ H z => by
      obtain ⟨y, C1, h1, h2, h3, h4⟩ := z
      rw [h2, h3]
      exact h4 rfl C1 h1) po) (ts := fun a cls dd => fun D σ H => cls = .ref C ∧ dd = none ∧ ts a D σ H) (fun a oe cls dd pn zc fl => ⟨fun pins s σ H D I w => by
      obtain ⟨e1, e2, w⟩ := w
      subst e1 e2
      exact (sui a oe pn zc fl).run pins s σ H D I w⟩)
  refine key.imp fun D σ H w => ?_
  obtain ⟨Z, ρ, F, S, w⟩ := w
  refine ⟨Z, ρ, F, S, ?_⟩
  cases hb : m ρ with
  | nx ρ1 => simp only [dTry1, hb] at w; exact w
  | bk ρ1 => simp only [dTry1, hb] at w; exact w
  | ct ρ1 => simp only [dTry1, hb] at w; exact w
  | rt d1 ρ1 => simp only [dTry1, hb] at w; exact w
  | bad => simp only [dTry1, hb] at w; exact w
  | ex y ys ρ1 =>
    cases ys with
    | cons _ _ => simp only [dTry1, hb, SOut] at w
    | nil =>
      by_cases e : y = x ∧ i < ρ1.length
      · obtain ⟨e, hi1⟩ := e
        subst e
        simp only [dTry1, hb, hi1, and_self, if_true] at w
        intro Z1 H1 F1 σ1 st S1 _ C1 h1
        have ec : C1 = C := Option.some.inj (h1.symm.trans hx)
        subst ec
        refine ⟨hm, fun a na => ⟨rfl, rfl, hts a _ σ1 H1 (by rw [← S1.rs.length]; exact hi1) na fun H2 hE => ?_⟩⟩
        obtain ⟨Z2, nw⟩ := New.exf S1.zh hE
        exact w Z2 H2 F1 σ1 v [] (st.trans nw.step) (S1.new nw) (sv_rep hv) Fresh.nil
      · simp only [dTry1, hb, if_neg e, SOut] at w
theorem hts_is {K : PySem.W.Frag} {C a M u1 u2 u3 : Addr} {i : Nat} (km : PySem.W.kitOne K (.ref C) (.ref M) = some true) (kt : PySem.W.kitAny K (.ref C) [.ref u1, .ref u2, .ref u3] = some false) (D : Ends) (σ : L2.St) (H : Hp) (hi : i < σ.length) (_na : H a = none) (k : ∀ H1, Ex H H1 → D.rt (.bl true) H1) :
    tRet (tAndV (tCB (rIsE K C a) (tCons (tVar i) (tCons (tC (.ref M)) tNil))) (tNotV (tCB (rIsET K C a) (tCons (tVar i) (tCons (tTup (tCons (tC (.ref u1)) (tCons (tC (.ref u2)) (tCons (tC (.ref u3)) tNil)))) tNil))))) D (σ.set i (some (.ref a))) H := by
  have g : (σ.set i (some (V.ref a)))[i]? = some (some (.ref a)) := List.getElem?_set_self hi
  refine ⟨.ref a, g, .ref M, .ref M, true, rfl, fun u r => r, km, true, rfl, ?_⟩
  refine ⟨.ref a, g, (show 3 ≤ sizeLine by decide), fun p np => ?_⟩
  exact ⟨p, _, [.ref u1, .ref u2, .ref u3], false, rfl, upd_same, .cons (.own _) (.cons (.own _) (.cons (.own _) .nil)), kt, false, rfl, k _ (Ex.new np)⟩
/-! facts of the top that the names' list does not tell -/
def chkE (K : PySem.W.Frag) (D M : Addr) (us : List Addr) : Bool :=
  He.eqO (PySem.W.findIn K (.ref D) "__getattribute__") (some (some (.builtin "BaseException.__getattribute__"))) && (He.eqO (PySem.W.findIn K (.ref D) "__getattr__") (some none) && (decide (PySem.W.subIn K (.ref D) (.type "BaseException") = some true) && (PySem.W.hasDictIn K D &&
  (He.eqO (PySem.W.findIn K (.ref D) "__class__") (some (some (.builtin "object.__class__"))) && (He.eqO (PySem.W.specialIn K (.builtin "object.__class__") "__get__") (some (some (.builtin "getset_descriptor.__get__"))) && (decide (PySem.W.takesIn K (.builtin "object.__class__") = some true) && (decide (PySem.W.mroIn K D (.type "object") = some true) &&
  (decide (PySem.W.kitOne K (.ref D) (.ref M) = some true) && decide (PySem.W.kitAny K (.ref D) (us.map Value.ref) = some false)))))))))
theorem chkE_ok {K : PySem.W.Frag} {D M : Addr} {us : List Addr} (h : chkE K D M us = true) : ExcC K D ∧ PySem.W.kitOne K (.ref D) (.ref M) = some true ∧ PySem.W.kitAny K (.ref D) (us.map Value.ref) = some false := by
  obtain ⟨h1, h⟩ := He.ba h
  obtain ⟨h2, h⟩ := He.ba h
  obtain ⟨h3, h⟩ := He.ba h
  obtain ⟨h4, h⟩ := He.ba h
  obtain ⟨h5, h⟩ := He.ba h
  obtain ⟨h6, h⟩ := He.ba h
  obtain ⟨h7, h⟩ := He.ba h
  obtain ⟨h8, h⟩ := He.ba h
  obtain ⟨h9, h⟩ := He.ba h
  exact ⟨⟨He.eqO_ok h1, He.eqO_ok h2, of_decide_eq_true h3, h4, He.eqO_ok h5, He.eqO_ok h6, of_decide_eq_true h7, of_decide_eq_true h8⟩, of_decide_eq_true h9, of_decide_eq_true h⟩
abbrev AlB : Type := Bool × He.AlD
def obsB (chk : PySem.W.Frag → Bool) (fa : List He.Fa) (fn : List He.DefD) (K : PySem.W.Frag) : AlB := (chk K, He.obsD fa fn K)
def obsBG (n : Nat) (chk : PySem.W.Frag → Bool) (fa : List He.Fa) (fn : List He.DefD) (g : Addr → Option Obj) : AlB := obsB chk fa fn (He.frG g (He.asD g n))
def hookB (n : Nat) (chk : PySem.W.Frag → Bool) (fa : List He.Fa) (fn : List He.DefD) : PySem.W.Hook where
  α := AlB
  obs := fun s => obsBG n chk fa fn s.heap.get?
  val := fun _ => (true, He.valD fn)
  says := fun _ h => ∃ K : PySem.W.Frag, K.In h ∧ chk K = true ∧ He.SaysD fa fn K
  of := fun _ _ e => ⟨_, He.frG_in, congrArg (fun z : AlB => z.1) e, congrArg (fun z : AlB => z.2) e⟩
  keeps := fun _ _ _ ⟨K, hK, c⟩ k => ⟨K, PySem.W.Frag.In.keeps hK k, c⟩
theorem obsBG_eq {n : Nat} {chk : PySem.W.Frag → Bool} {fa : List He.Fa} {fn : List He.DefD} {g : Addr → Option Obj} {s : Shared} (h : ∀ a, g a = s.heap.get? a) : obsBG n chk fa fn g = (hookB n chk fa fn).obs s := by
  rw [show g = s.heap.get? from funext h] <;> rfl
/-- what is fresh is frozen -/
def dFrE (m : DE) : DE := fun ρ => match m ρ with
  | .ok fr d _ ρ1 => if fr = true then .ok true (fz d) true ρ1 else .bad
  | .ex c xs ρ1 => .ex c xs ρ1
  | .bad => .bad
theorem e_frE {c : Cc} {X : Cx} {e : Expr} {m : DE} (h : PE X e (tE c m)) : PE X e (tE c (dFrE m)) := h.imp fun σ H Q w => by
  obtain ⟨Z, ρ, F, S, w⟩ := w
  refine ⟨Z, ρ, F, S, ?_⟩
  cases hm : m ρ with
  | bad => simp only [dFrE, hm] at w
  | ex x xs ρ1 => simp only [dFrE, hm] at w; exact w
  | ok fr d e1 ρ1 =>
    cases fr with
    | false => simp only [dFrE, hm, Bool.false_eq_true, if_false] at w
    | true =>
      simp only [dFrE, hm, if_true] at w
      intro Z1 H1 F1 v Gf P r f
      have f := f rfl
      let Z2 : Hp := fun a => if a ∈ Gf then H1 a else Z1 a
      have z1 : ∀ a, a ∈ Gf → Z2 a = H1 a := fun a h => if_pos h
      have z2 : ∀ a, a ∉ Gf → Z2 a = Z1 a := fun a h => if_neg h
      have eZ : Ex Z1 Z2 := fun a o z => by
        by_cases q : a ∈ Gf
        · rw [f.nz a q] at z; cases z
        · rw [z2 a q]; exact z
      have zh : Ex Z2 H1 := fun a o z => by
        by_cases q : a ∈ Gf
        · rw [z1 a q] at z; exact z
        · rw [z2 a q] at z; exact P.sta.zh a o z
      have r2 : Rep c.G Z2 H1 (fz d) v [] := r.freeze eZ fun a ha o z => by rw [z1 a ha]; exact z
      have tz : ∀ Q ps, Z2 Q = some (.tbl ps) → Z1 Q = some (.tbl ps) := fun Q ps z => by
        by_cases q : Q ∈ Gf
        · rw [z1 Q q] at z
          obtain ⟨o, e, n, _⟩ := r.dom Q q
          rw [z] at e
          exact absurd (Option.some.inj e).symm (n ps)
        · rw [z2 Q q] at z; exact z
      refine w Z2 H1 F1 v [] ⟨⟨fun a o z => eZ a o (P.st.zz a o z), zh, P.st.dm, P.st.fr, P.st.tg, P.st.ff, fun a h1 h2 h3 => ?_, fun q xs h => (P.st.tp q xs h).imp id (eZ q _), fun Q ps z => P.st.tz Q ps (tz Q ps z)⟩, ⟨zh, P.sta.rs.mono eZ fun _ _ _ z _ => z, P.sta.nd, fun a ha => ?_, P.sta.lk, ⟨fun Q hQ => ⟨(P.sta.tb.1 Q hQ).1, ?_⟩, fun q xs h => eZ q _ (P.sta.tb.2.1 q xs h), fun Q ps z => P.sta.tb.2.2 Q ps (tz Q ps z)⟩⟩, fun z => nomatch z⟩ r2 fun _ => Fresh.nil
      · rw [z2 a fun q => (f.nh a q).elim h1 h2]
        exact P.st.zn a h1 h2 h3
      · rw [z2 a fun q => f.nf a q ha]
        exact P.sta.fz a ha
      · rw [z2 Q (TbOk.notin P.sta.tb r.dom Q hQ)]
        exact (P.sta.tb.1 Q hQ).2
end Dd
/-! A generator expression's turns, by a statement of one's own about the state. -/
namespace GX
open PySem PySem.Spec PyProof.Rows L2
/-- a consumer's list -/
abbrev lstO (acc : Array Value) (c : Nat) : Obj := { cls := .type "list", dict := none, data := .seq acc c, slots := #[] }
/-- while it sleeps: nothing that stands is changed, but v is put behind the list at S -/
structure Slp (S : Option Addr) (v : Value) (s s' : Shared) : Prop where
  os : s'.os = s.os
  gb : AllBare s.gens → AllBare s'.gens
  gz : s.gens.size ≤ s'.gens.size
  keep : ∀ b o, some b ≠ S → s.heap.get? b = some o → s'.heap.get? b = some o
  own : ∀ b, S = some b → ∀ (acc : Array Value) (c : Nat), s.heap.get? b = some (lstO acc c) → ∃ c', s'.heap.get? b = some (lstO (acc.push v) c')
theorem Slp.refl {v : Value} (s : Shared) : Slp none v s s := ⟨rfl, id, Nat.le_refl _, fun _ _ _ e => e, fun _ z => nomatch z⟩
theorem Slp.trans {S : Option Addr} {v u : Value} {a b c : Shared} (x : Slp S v a b) (y : Slp none u b c) : Slp S v a c := ⟨y.os.trans x.os, fun h => y.gb (x.gb h), Nat.le_trans x.gz y.gz, fun q o n e => y.keep q o (fun z => nomatch z) (x.keep q o n e), fun q z acc c e => by
  obtain ⟨c', e'⟩ := x.own q z acc c e
  exact ⟨c', y.keep q _ (fun z => nomatch z) e'⟩⟩
theorem Slp.pre {S : Option Addr} {v u : Value} {a b c : Shared} (x : Slp none u a b) (y : Slp S v b c) : Slp S v a c := ⟨y.os.trans x.os, fun h => y.gb (x.gb h), Nat.le_trans x.gz y.gz, fun q o n e => y.keep q o n (x.keep q o (fun z => nomatch z) e), fun q z acc c e => y.own q z acc c (x.keep q _ (fun z => nomatch z) e)⟩
abbrev fls : Value → Shared → Prop := fun _ _ => False
abbrev gLoop (elt tgt iter : Expr) (ifs : List Expr) (scope : Scope) (pos : Pos) (it : Value) (cenv : PySem.Env) : Code := .compLoop (.GeneratorExp elt [⟨tgt, iter, ifs, 0⟩] scope pos) 0 it .none cenv
/-- one turn, from its head -/
def Turn1 (prog : Program) (w : World) (A : Around) (elt tgt : Expr) (ifs : List Expr) (it : Value) (cenv : PySem.Env) (S : Option Addr) (Go : Value → Prop) (J : Shared → Nat → Shared → Prop) (Wh : Shared → Shared → Prop) (Em : Shared → Value → Shared → Prop) (s0 : Shared) (n : Nat) (s : Shared) : Prop :=
  wpAny (model prog w) A (pyNext it) (fun r s1 => match r with
    | none => Wh s0 s1
    | some v => wpAny (model prog w) A (letOwnedTupleGo tgt it v) (fun _ s2 => wpAny (model prog w) A (assign tgt cenv v) (fun _ s3 =>
        wpAny (model prog w) A (forIn ifs true fun c r => if r = true then do let ok ← isTrue c cenv (eval c cenv); pure (ForInStep.yield ok) else pure (ForInStep.yield r)) (fun ok s4 =>
          if ok = true then wpAny (model prog w) A (eval elt cenv) (fun y s5 => Em s0 y s5 ∧ (Go y → ∀ s6, Slp S y s5 s6 → ∃ m, m < n ∧ J s6 m s6)) fls s4 else ∃ m, m < n ∧ J s0 m s4) fls s3) fls s2) fls s1) fls s
def gR (Wh : Shared → Shared → Prop) : GenEnd := fun _ s0 r s1 => r = .ok .next ∧ Wh s0 s1
def gY (S : Option Addr) (Go : Value → Prop) (Em : Shared → Value → Shared → Prop) : Protocol := fun _ s0 v s kap => Em s0 v s ∧ (Go v → ∀ s', Slp S v s s' → kap (.send .none) s')
theorem seg_gx {prog : Program} {w : World} {A : Around} {elt tgt iter : Expr} {ifs : List Expr} {scope : Scope} {pos : Pos} {it : Value} {cenv : PySem.Env} {S : Option Addr} {Go : Value → Prop} {J : Shared → Nat → Shared → Prop} {Wh : Shared → Shared → Prop} {Em : Shared → Value → Shared → Prop} (hco : cenv.scope.isCoroutine = false)
    (turn : ∀ s0 n s, J s0 n s → Turn1 prog w (A.over (gLoop elt tgt iter ifs scope pos it cenv) []) elt tgt ifs it cenv S Go J Wh Em s0 n s) : ∀ (n f : Nat) (s s0 : Shared), J s0 n s → n < f →
    Seg (model prog w) A (gR Wh) (gY S Go Em) f s0 (gLoop elt tgt iter ifs scope pos it cenv) ((model prog w).den (gLoop elt tgt iter ifs scope pos it cenv)) [] s := by
  intro n
  induction n using Nat.strongRecOn with
  | ind n ih =>
    intro f s s0 hJ hf
    have t := turn s0 n s hJ
    show Seg _ A _ _ _ s0 _ ((compTurn (.GeneratorExp elt [⟨tgt, iter, ifs, 0⟩] scope pos) 0 it .none cenv).onRaise (leaving cenv)) [] s
    rw [compTurn_gen, Sem.onRaise_eq_wrap]
    refine seg_bind_wrap (wpAny_standAt (seg_bind_wrap (wpAny_mono t (fun r s1 h1 => ?_) fun _ _ z => z.elim)))
    cases r with
    | none => exact seg_end (.ok .next) ⟨rfl, h1⟩
    | some v =>
      refine seg_bind_wrap (wpAny_mono h1 (fun _ s2 h2 => ?_) fun _ _ z => z.elim)
      refine seg_bind_wrap (wpAny_mono h2 (fun _ s3 h3 => ?_) fun _ _ z => z.elim)
      refine seg_bind_wrap (wpAny_mono h3 (fun ok s4 h4 => ?_) fun _ _ z => z.elim)
      cases ok with
      | false =>
        obtain ⟨m, hm, hJ2⟩ := h4
        simp only [Bool.false_eq_true, if_false]
        exact seg_again rfl (ih m hm f s4 s0 hJ2 (by omega))
      | true =>
        simp only [if_true] at h4 ⊢
        have hy : ∀ v, yieldOut cenv v = yieldValue v := fun v => by simp only [yieldOut, hco, Bool.false_eq_true, if_false]
        simp only [hy]
        rw [Sem.bind_eq_wrap', Sem.bind_eq_wrap', Sem.wrap_wrap, Sem.wrap_wrap]
        refine seg_wrap (wpAny_mono h4 (fun y s5 h5 => ?_) fun _ _ z => z.elim)
        obtain ⟨he, hn⟩ := h5
        have hn1 : ∃ f1, f = f1 + 1 := ⟨f - 1, by omega⟩
        obtain ⟨f1, rfl⟩ := hn1
        refine seg_at (seg_yield rfl rfl rfl ⟨he, fun go s6 sl => ?_⟩)
        obtain ⟨m, hm, hJ2⟩ := hn go s6 sl
        exact seg_again rfl (ih m hm f1 s6 s6 hJ2 (by omega))
/-- the generator at a, number g: what it does next -/
def GSt (prog : Program) (w : World) (A : Around) (a : Addr) (g : Nat) (S : Option Addr) (Go : Value → Prop) (Wh : Shared → Shared → Prop) (Em : Shared → Value → Shared → Prop) (f : Nat) (s : Shared) : Prop :=
  s.heap.IsGen a g ∧ s.heap.NoLimit ∧ ∃ gs, s.gens[g]? = some gs ∧ ∀ s', Slp none .none s s' → gs.Goes (model prog w) A (gR Wh) (gY S Go Em) f (.send .none) s'
theorem bare_set {s : Shared} {g : Nat} {x : GenState} (hx : x.bare = true) (h : AllBare s.gens) : AllBare (s.setGen g x).gens := fun y hy => by
  obtain ⟨i, hi, e⟩ := Array.mem_iff_getElem.mp hy
  have sz : (s.setGen g x).gens.size = s.gens.size := by simp [Shared.setGen]
  have hi' : i < s.gens.size := by rw [sz] at hi; exact hi
  have q : (s.setGen g x).gens[i]? = some y := by rw [Array.getElem?_eq_getElem hi, e]
  by_cases z : i = g
  · subst z
    have q2 : (s.setGen i x).gens[i]? = some x := by
      show (s.gens.setIfInBounds i x)[i]? = some x
      simp [hi']
    rw [q2] at q; cases q; exact hx
  · have q2 : (s.setGen g x).gens[i]? = s.gens[i]? := by
      show (s.gens.setIfInBounds g x)[i]? = _
      rw [Array.getElem?_setIfInBounds_ne (Ne.symm z)]
    rw [q2] at q
    exact h y (Array.mem_of_getElem? q)
theorem slp_set {v : Value} {s : Shared} {g : Nat} {x : GenState} (hx : x.bare = true) : Slp none v s (s.setGen g x) := ⟨rfl, bare_set hx, by simp [Shared.setGen], fun _ _ _ e => e, fun _ z => nomatch z⟩
/-- next(g), from a state in which it sleeps -/
theorem next_gx {prog : Program} {w : World} {A : Around} {a : Addr} {g f : Nat} {S : Option Addr} {Go : Value → Prop} {Wh : Shared → Shared → Prop} {Em : Shared → Value → Shared → Prop} {Q : Option Value → Shared → Prop} {E : Value → Shared → Prop} {s : Shared} (hh : A.handled = none) (hroom : A.depth < recursionLimit)
    (h : GSt prog w A.in1 a g S Go Wh Em f s) (hgen : ∀ s0 s1 v, s0.heap.IsGen a g → g < s0.gens.size → Em s0 v s1 → s1.heap.IsGen a g ∧ s1.heap.NoLimit ∧ g < s1.gens.size)
    (hY : ∀ v s0 s1 s2, s0.heap = s.heap → Em s0 v s1 → Slp none .none s1 s2 → s2.heap = s1.heap → s2.heap.NoLimit → (Go v → ∀ s3, Slp S v s2 s3 → s3.gens = s2.gens → (∀ o, s2.heap.get? a = some o → s3.heap.get? a = some o) → s3.heap.NoLimit → 0 < f ∧ GSt prog w A.in1 a g S Go Wh Em (f - 1) s3) → Q (some v) s2) (hN : ∀ s0 s1 s2, s0.heap = s.heap → Wh s0 s1 → Slp none .none s1 s2 → Q none s2) :
    wpAny (model prog w) A (pyNext (.ref a)) Q E s := by
  obtain ⟨hg, hl, gs, hgs, hgo⟩ := h
  have hlt : g < (s.setGen g .running).gens.size := by
    have sz : (s.setGen g .running).gens.size = s.gens.size := by simp [Shared.setGen]
    rw [sz]
    rcases Nat.lt_or_ge g s.gens.size with q | q
    · exact q
    · rw [Array.getElem?_eq_none q] at hgs; cases hgs
  refine wpAny_pyNext_genexpQ (P := fun _ s0 s1 => Wh s0 s1) (Y := gY S Go Em) (n := f) hh hl hroom hg hgs (hgo _ (slp_set rfl)) (fun v s1 gs' hb hv => ?_) fun s1 hp h' hk => ?_
  · obtain ⟨he, hk⟩ := hv
    obtain ⟨i1, i2, i3⟩ := hgen (s.setGen g .running) s1 v hg hlt he
    refine hY v (s.setGen g .running) s1 _ rfl he (slp_set hb) rfl i2 fun go s3 sl hgs3 ha3 hl3 => ?_
    have hf : 0 < f := by
      cases f with
      | zero => exact (hk go s3 ((slp_set (v := .none) hb).pre sl)).elim
      | succ f => exact Nat.succ_pos f
    refine ⟨hf, ?_, hl3, gs', ?_, fun s4 sl4 => ?_⟩
    · obtain ⟨o, nm, qn, ho, r⟩ := i1
      exact ⟨o, nm, qn, ha3 o ho, r⟩
    · rw [hgs3]
      show (s1.gens.setIfInBounds g gs')[g]? = some gs'
      simp [i3]
    · have q := hk go s4 (((slp_set (v := .none) hb).pre sl).trans sl4)
      cases f with
      | zero => exact q.elim
      | succ f => exact q
  · exact hN (s.setGen g .running) s1 _ rfl hp ⟨rfl, bare_set rfl, by simp [Shared.setGen], fun b o _ e => hk b o e, fun _ z => nomatch z⟩
/-! ### all, any -/
section
variable {prog : Program} {w : World} {A : Around} {a : Addr} {g : Nat} {Wh : Shared → Shared → Prop} {Em : Shared → Value → Shared → Prop} {R : Result → Shared → Prop}
theorem all_gx (hh : A.handled = none) (hroom : A.depth < recursionLimit) (hgen : ∀ s0 s1 v, s0.heap.IsGen a g → g < s0.gens.size → Em s0 v s1 → s1.heap.IsGen a g ∧ s1.heap.NoLimit ∧ g < s1.gens.size)
    (hbl : ∀ s0 v s1, Em s0 v s1 → ∃ b, v = .bool b) (hT : ∀ s0 s1 s2, Wh s0 s1 → Slp none .none s1 s2 → R (.ok (.ret (.bool true))) s2) (hF : ∀ s0 s1 s2, Em s0 (.bool false) s1 → Slp none .none s1 s2 → R (.ok (.ret (.bool false))) s2) :
    ∀ (f : Nat) (s : Shared), GSt prog w A.in1.in1 a g none (fun v => v = .bool true) Wh Em f s → codeAny (model prog w) A (.builtin "all.loop" ⟨[.ref a], []⟩) R s := by
  intro f
  induction f with
  | zero =>
    intro s h
    refine codeAny_builtin F.entry_all_loop ?_
    rw [Around.under_plainId F.plain_all_loop _]
    show wpAny _ A.in1 (pyNext (.ref a) >>= _) _ _ s
    refine wpAny_bind (next_gx hh hroom h hgen (fun v s0 s1 s2 _ he sl _ hl2 hg => ?_) fun s0 s1 s2 _ hw sl => ?_)
    · obtain ⟨b, rfl⟩ := hbl s0 v s1 he
      refine wpAny_bind (wpAny_holding (wpAny_truthy_bool ?_))
      refine wpAny_bind (wpAny_letGo ?_)
      cases b with
      | true =>
        simp only [if_true]
        exact absurd (hg rfl s2 (Slp.refl s2) rfl (fun _ e => e) hl2).1 (Nat.lt_irrefl 0)
      | false =>
        simp only [Bool.false_eq_true, if_false]
        exact wpAny_bind (wpAny_rule (wpAny_pure (hF s0 s1 s2 he sl)))
    · exact wpAny_bind (wpAny_rule (wpAny_pure (hT s0 s1 s2 hw sl)))
  | succ f ih =>
    intro s h
    refine codeAny_builtin F.entry_all_loop ?_
    rw [Around.under_plainId F.plain_all_loop _]
    show wpAny _ A.in1 (pyNext (.ref a) >>= _) _ _ s
    refine wpAny_bind (next_gx hh hroom h hgen (fun v s0 s1 s2 _ he sl _ hl2 hg => ?_) fun s0 s1 s2 _ hw sl => ?_)
    · obtain ⟨b, rfl⟩ := hbl s0 v s1 he
      refine wpAny_bind (wpAny_holding (wpAny_truthy_bool ?_))
      refine wpAny_bind (wpAny_letGo ?_)
      cases b with
      | true =>
        simp only [if_true]
        exact wpAny_pure ⟨plainId_quiet F.plain_all_loop _, ih s2 (hg rfl s2 (Slp.refl s2) rfl (fun _ e => e) hl2).2⟩
      | false =>
        simp only [Bool.false_eq_true, if_false]
        exact wpAny_bind (wpAny_rule (wpAny_pure (hF s0 s1 s2 he sl)))
    · exact wpAny_bind (wpAny_rule (wpAny_pure (hT s0 s1 s2 hw sl)))
theorem any_gx (hh : A.handled = none) (hroom : A.depth < recursionLimit) (hgen : ∀ s0 s1 v, s0.heap.IsGen a g → g < s0.gens.size → Em s0 v s1 → s1.heap.IsGen a g ∧ s1.heap.NoLimit ∧ g < s1.gens.size)
    (hbl : ∀ s0 v s1, Em s0 v s1 → ∃ b, v = .bool b) (hT : ∀ s0 s1 s2, Wh s0 s1 → Slp none .none s1 s2 → R (.ok (.ret (.bool false))) s2) (hF : ∀ s0 s1 s2, Em s0 (.bool true) s1 → Slp none .none s1 s2 → R (.ok (.ret (.bool true))) s2) :
    ∀ (f : Nat) (s : Shared), GSt prog w A.in1.in1 a g none (fun v => v = .bool false) Wh Em f s → codeAny (model prog w) A (.builtin "any.loop" ⟨[.ref a], []⟩) R s := by
  intro f
  induction f with
  | zero =>
    intro s h
    refine codeAny_builtin F.entry_any_loop ?_
    rw [Around.under_plainId F.plain_any_loop _]
    show wpAny _ A.in1 (pyNext (.ref a) >>= _) _ _ s
    refine wpAny_bind (next_gx hh hroom h hgen (fun v s0 s1 s2 _ he sl _ hl2 hg => ?_) fun s0 s1 s2 _ hw sl => ?_)
    · obtain ⟨b, rfl⟩ := hbl s0 v s1 he
      refine wpAny_bind (wpAny_holding (wpAny_truthy_bool ?_))
      refine wpAny_bind (wpAny_letGo ?_)
      cases b with
      | false =>
        simp only [Bool.false_eq_true, if_false]
        exact absurd (hg rfl s2 (Slp.refl s2) rfl (fun _ e => e) hl2).1 (Nat.lt_irrefl 0)
      | true =>
        simp only [if_true]
        exact wpAny_bind (wpAny_rule (wpAny_pure (hF s0 s1 s2 he sl)))
    · exact wpAny_bind (wpAny_rule (wpAny_pure (hT s0 s1 s2 hw sl)))
  | succ f ih =>
    intro s h
    refine codeAny_builtin F.entry_any_loop ?_
    rw [Around.under_plainId F.plain_any_loop _]
    show wpAny _ A.in1 (pyNext (.ref a) >>= _) _ _ s
    refine wpAny_bind (next_gx hh hroom h hgen (fun v s0 s1 s2 _ he sl _ hl2 hg => ?_) fun s0 s1 s2 _ hw sl => ?_)
    · obtain ⟨b, rfl⟩ := hbl s0 v s1 he
      refine wpAny_bind (wpAny_holding (wpAny_truthy_bool ?_))
      refine wpAny_bind (wpAny_letGo ?_)
      cases b with
      | false =>
        simp only [Bool.false_eq_true, if_false]
        exact wpAny_pure ⟨plainId_quiet F.plain_any_loop _, ih s2 (hg rfl s2 (Slp.refl s2) rfl (fun _ e => e) hl2).2⟩
      | true =>
        simp only [if_true]
        exact wpAny_bind (wpAny_rule (wpAny_pure (hF s0 s1 s2 he sl)))
    · exact wpAny_bind (wpAny_rule (wpAny_pure (hT s0 s1 s2 hw sl)))
end
end GX
/-! The frame of a generator expression, in the hand layer. -/
namespace GX
open PySem PySem.Spec PyProof.Rows L2
/-- its context: a frame of its own over the def's frame -/
abbrev cxG (X : Cx) (A1 : Around) (s : Shared) (H : Hp) (cenv : PySem.Env) (fp : List Addr) : Cx := { X with A := A1, s_0 := s, H_0 := H, env := cenv, outer := X.stack, stack := cenv :: X.stack, ex := fp, fn := fun _ => false, pn := [], xe := fun _ _ => False }
theorem gen_start {X : Cx} {pins : List (Addr × Obj)} {σ : L2.St} {H : Hp} {s s5 : Shared} {scope : Scope} {own : List (Str × Nat)} {fp : List Addr} {A1 : Around} {cenv : PySem.Env} {m5 : Str → Option Value} (I : Inv X pins σ H s) (ok : BlkOk X.N X.env.scope scope own) (ncell : ∀ y ∈ scope.names, y.2 ≠ .cell) (nod : X.N.Nodup)
    (hfp : ∀ b ∈ fp, FpOk X pins H b ∧ b < s.heap.objs.size) (kp : ∀ b o, s.heap.get? b = some o → s5.heap.get? b = some o) (hL : cenv.locals = s.heap.objs.size) (hns : s5.heap.Ns cenv.locals m5) (hos : s5.os = s.os) (hbr : AllBare s5.gens)
    (hsc : cenv.scope = scope) (hcl : cenv.cells = cloFrom X.env.cells scope.names []) (hgl : cenv.globals = X.env.globals) (hbi : cenv.builtins = builtinsNs) (hfr : cenv.frame = some cenv.locals) (hA : A1.frames = some (cenv :: X.stack)) (hAh : A1.handled = none) :
    Inv (cxG X A1 s H cenv fp) [] (wipe σ (own.map (·.2))) H s5 := by
  have has : ∀ y ∈ scope.names, y.2 = .free → ∃ c, X.env.cells.lookup y.1 = some c := fun y hy e => (ok.free y hy e).elim (fun k => I.ok.has _ (.inl k)) fun k => I.ok.has _ (.inr k)
  -- a cell of the frame is a cell of the def
  have cm : ∀ {y c}, cenv.cells.lookup y = some c → X.env.cells.lookup y = some c := fun {y c} e => by
    rw [hcl] at e
    rcases cloFrom_mem (PySem.mem_of_lookup e) with q | ⟨q, rfl⟩
    · cases q
    · obtain ⟨c1, e1⟩ := has _ q rfl
      rw [e1]; rfl
  have look : ∀ {y}, scope.names.lookup y = some .free → ∃ c, cenv.cells.lookup y = some c ∧ X.env.cells.lookup y = some c := fun {y} q => by
    obtain ⟨c1, e1⟩ := mem_lookup (cloFrom_has (cells := X.env.cells) (acc := []) (PySem.mem_of_lookup q))
    rw [← hcl] at e1
    exact ⟨c1, e1, cm e1⟩
  have kinds : ∀ {y k}, scope.names.lookup y = some k → k ≠ .cell := fun {y k} q => ncell _ (PySem.mem_of_lookup q)
  have good : (cxG X A1 s H cenv fp).Ok := by
    refine ⟨I.ok.mod, ?_, ?_, hbi, ?_, fun y z c e1 e2 => I.ok.inj y z c (cm e1) (cm e2), fun y hy => ?_, (fun y c z _ => nomatch z), (fun _ => hAh), hA, .inr ⟨rfl, hfr⟩, fun b hb => ⟨?_, fun y c e z => ?_⟩, I.bs, Nat.le_trans I.ok.bsz I.sz, fun b o e hb => ?_, fun b hb z => ?_, I.stack, I.stkFree⟩
    · show cenv.scope.kind = _
      rw [hsc]; exact ok.kind
    · show cenv.globals = _
      rw [hgl]; exact I.ok.glob
    · show s.heap.objs.size ≤ cenv.locals
      rw [hL]; exact Nat.le_refl _
    · have q : scope.names.lookup y = some .cell ∨ scope.names.lookup y = some .free := by
        rw [← hsc]; exact hy
      rcases q with q | q
      · exact absurd rfl (kinds q)
      · obtain ⟨c, e, _⟩ := look q
        exact ⟨c, e⟩
    · show b ≠ cenv.locals
      rw [hL]; exact Nat.ne_of_lt (hfp b hb).2
    · exact (hfp b hb).1.2.2.2.2.1 y c (cm e) z
    · rcases (hfp b hb).1.2.2.2.1 with z | z
      · exact I.ok.noex b o e z
      · exact absurd (Nat.lt_of_lt_of_le (Heap.lt_size e) (Nat.le_trans I.ok.bsz z)) (Nat.lt_irrefl _)
    · rcases List.mem_cons.mp (I.stkSub b z) with z | z
      · exact (hfp b hb).1.2.1 z
      · exact (hfp b hb).1.2.2.1 z
  refine ⟨good, hos, hbr, Un.kept kp, ⟨m5, hns, fun i y v e1 e2 e3 => ?_⟩, fun y c e => ?_, ?_, fun y c e => I.freeC y c (cm e), fun p hp => ?_, I.hok.kept kp, by rw [wipe_length]; exact I.len⟩
  · obtain ⟨e2, hne⟩ := wipe_some e2
    have e3 : Vis scope y := by rw [← hsc]; exact e3
    have fr : scope.names.lookup y = some .free := by
      rcases e3 with q | q | q
      · rcases ok.own _ (PySem.mem_of_lookup q) (.inl rfl) with z | z
        · obtain ⟨p, hp, hpy⟩ := List.mem_map.mp z
          have e4 := ok.ix p hp
          rw [show p.1 = y from hpy] at e4
          exact absurd (List.mem_map.mpr ⟨p, hp, nodup_ix nod e4 e1⟩) hne
        · exact absurd (List.mem_of_getElem? e1) z
      · exact absurd rfl (kinds q)
      · exact q
    obtain ⟨m, _, hl⟩ := I.loc
    have hvis : Vis X.env.scope y := (ok.free _ (PySem.mem_of_lookup fr) rfl).elim (fun k => .inr (.inl k)) (fun k => .inr (.inr k))
    obtain ⟨u, r, q⟩ := hl i y v e1 e2 hvis
    obtain ⟨c, h1, h2⟩ := look fr
    refine ⟨u, r, .inr ⟨.inr ?_, c, h1, ?_⟩⟩
    · show cenv.scope.names.lookup y = some .free
      rw [hsc]; exact fr
    · rcases q with ⟨k, _⟩ | ⟨_, c1, e4, z⟩
      · have k : X.env.scope.names.lookup y = some .local := k
        rcases ok.free _ (PySem.mem_of_lookup fr) rfl with k1 | k1 <;> rw [show X.env.scope.names.lookup y = _ from k1] at k <;> cases k
      · rw [h2] at e4; cases e4
        exact z.keeps kp
  · obtain ⟨u, z⟩ := I.cell y c (cm e)
    exact ⟨u, z.keeps kp⟩
  · show H cenv.locals = none
    rw [hL]; exact I.hok.fresh (Nat.le_refl _)
  · exact absurd (show p ∈ ([] : List (Addr × Obj)) ++ [] from hp) (by simp)
end GX
/-! The turns of a generator expression, in the hand layer. -/
namespace GX
open PySem PySem.Spec PyProof.Rows L2
section
variable {X : Cx} {pins : List (Addr × Obj)} {σ : L2.St} {H : Hp} {s s' : Shared}
/-- it slept -/
theorem slept {v : Value} (I : Inv X pins σ H s) (z : Slp none v s s') : Inv X pins σ H s' :=
  I.call' (ch := []) z.os (Un.kept fun b o e => z.keep b o (fun q => nomatch q) e) (I.hok.kept fun b o e => z.keep b o (fun q => nomatch q) e) (z.gb I.bare) fun b hb => nomatch hb
end
section
variable {XG : Cx} {ag : Addr × Obj} {g : Nat} {σw : L2.St} {fp : List Addr} {tn : Nat → Heap → Prop} {J : It} {W : Nat → Nat → List V → Hp → Prop} {it : Addr} {S : Option Addr}
/-- what is pinned while ys is out: the generator; the consumer's list, if there is one -/
def Pk (ag : Addr × Obj) : Option Addr → List V → List (Addr × Obj) → Prop
  | none, _, pl => pl = [ag]
  | some b, ys, pl => ∃ (acc : Array Value) (c : Nat), Vals ys acc.toList ∧ pl = [(b, lstO acc c), ag]
/-- at a turn's head -/
def JG (XG : Cx) (ag : Addr × Obj) (g : Nat) (σw : L2.St) (fp : List Addr) (tn : Nat → Heap → Prop) (S : Option Addr) (W : Nat → Nat → List V → Hp → Prop) : Shared → Nat → Shared → Prop := fun _ n s =>
  g < s.gens.size ∧ ∃ i ys pl H, Pk ag S ys pl ∧ Inv XG pl σw H s ∧ tn i s.heap ∧ (∀ b ∈ fp, H b = none) ∧ W i n ys H
def WhG (XG : Cx) (ag : Addr × Obj) (σw : L2.St) (S : Option Addr) (Qe : List V → Hp → Prop) : Shared → Shared → Prop := fun _ s => ∃ ys pl H, Pk ag S ys pl ∧ Inv XG pl σw H s ∧ Qe ys H
def EmG (XG : Cx) (ag : Addr × Obj) (g : Nat) (S : Option Addr) (Ym : List V → V → Hp → Prop) : Shared → Value → Shared → Prop := fun _ v s => g < s.gens.size ∧ ∃ y ys pl σ H, Pk ag S ys pl ∧ RelV y v ∧ Inv XG pl σ H s ∧ Ym ys y H
/-- a list of the consumer's may stand at S -/
structure Apt (XG : Cx) (ag : Addr × Obj) (fp : List Addr) (S : Option Addr) : Prop where
  apart : ∀ b, S = some b → Apart XG b
  nag : ∀ b, S = some b → b ≠ ag.1
  nfp : ∀ b, S = some b → b ∉ fp
theorem woken {ys : List V} {pl ex : List (Addr × Obj)} {y : V} {v : Value} {σ : L2.St} {H : Hp} {s s' : Shared} (hpn : XG.pn = []) (A : Apt XG ag fp S) (hex : ∀ p ∈ ex, p.1 ∈ fp) (hp : Pk ag S ys pl) (I : Inv XG (pl ++ ex) σ H s) (r : RelV y v) (z : Slp S v s s') : ∃ pl', Pk ag S (ys ++ [y]) pl' ∧ Inv XG (pl' ++ ex) σ H s' := by
  cases S with
  | none => exact ⟨pl, hp, slept I z⟩
  | some b =>
    obtain ⟨acc, c, hv, rfl⟩ := hp
    have gi : GI XG b (ag :: ex) ys σ H s := ⟨acc, c, hv, I⟩
    have w := gi.woken (fun p hq => by rw [hpn] at hq; cases hq) (fun p hq => by
      rcases List.mem_cons.mp hq with rfl | hq
      · exact (A.nag b rfl).symm
      · exact fun q => A.nfp b rfl (q ▸ hex p hq)) (A.apart b rfl) r ⟨z.os, z.gb I.bare, fun q o n e => z.keep q o (fun t => n (Option.some.inj t)) e, z.own b rfl⟩
    obtain ⟨acc2, c2, hv2, I2⟩ := w
    exact ⟨_, ⟨acc2, c2, hv2, rfl⟩, I2⟩
theorem turn_gx {elt tg iter : Expr} {ifs : List Expr} {gT : TG} {tt : TT} {te : TE} {vs : List Nat} {Go : Value → Prop} {Gv : V → Prop} {Qe : List V → Hp → Prop} {Ym : List V → V → Hp → Prop} (hc : XG.calm = true) (hex : XG.ex = fp) (hxe : XG.xe = fls) (hpn : XG.pn = []) (nfp : ∀ b ∈ fp, b ≠ ag.1) (A : Apt XG ag fp S)
    (T : Turn XG.prog XG.w XG.K tg J fp it tn) (pg : PG XG tg gT) (pt : PTs XG ifs tt) (pe : PE XG elt te) (hGo : ∀ y v, RelV y v → Go v → Gv y) (hw : wipe σw vs = σw)
    (turn : ∀ i m ys H, W i m ys H → (J.stop i H ∧ Qe ys H) ∨ (J.go i H ∧ ∃ Nx : List V → Hp → Prop, (∀ ys H', Nx ys H' → ∃ m', m' < m ∧ W (i + 1) m' ys H') ∧ ∀ x H', J.yld i H x H' → gT x σw H' fun σ2 H2 => wipe σ2 vs = σw ∧ tt σ2 H2 fun b H3 =>
      if b = true then te σ2 H3 fun y H4 => Ym ys y H4 ∧ (Gv y → Nx (ys ++ [y]) H4) else Nx ys H3)) (s0 : Shared) (n : Nat) (s : Shared) (hJ : JG XG ag g σw fp tn S W s0 n s) :
    Turn1 XG.prog XG.w XG.A elt tg ifs (.ref it) XG.env S Go (JG XG ag g σw fp tn S W) (WhG XG ag σw S Qe) (EmG XG ag g S Ym) s0 n s := by
  obtain ⟨hg, i, ys, pl, H, hpk, I, st, nf, w⟩ := hJ
  have npl : ∀ p ∈ pl, ∀ b ∈ fp, p.1 ≠ b := fun p hp b hb => by
    cases S with
    | none =>
      rw [show pl = [ag] from hpk, List.mem_singleton] at hp
      rw [hp]; exact (nfp b hb).symm
    | some q =>
      obtain ⟨acc, c, _, rfl⟩ := hpk
      rcases List.mem_cons.mp hp with rfl | hp
      · exact fun z => A.nfp q rfl (by rw [show q = b from z]; exact hb)
      · rw [List.mem_singleton] at hp
        rw [hp]; exact (nfp b hb).symm
  have stat : ∀ {σ' : L2.St} {H' : Hp} {s' : Shared}, Inv XG pl σ' H' s' → (∀ b ∈ fp, H' b = none) → ∀ b ∈ fp, FpOk XG pl H' b := fun {σ' H' s'} I' hn b hb => by
    have hb' : b ∈ XG.ex := by rw [hex]; exact hb
    refine ⟨hn b hb, (I'.ok.exf b hb').1, I'.ok.exfs b hb', .inl hb', fun x c e => (I'.ok.exf b hb').2 x c e, fun p hp => ?_⟩
    rw [hpn, List.nil_append] at hp
    exact npl p hp b hb
  have fe : ∀ {α : Type} {t : Sem α} {Q Q' : α → Shared → Prop} {s1 : Shared}, g < s1.gens.size → wpAny (model XG.prog XG.w) XG.A t Q XG.xe s1 → (∀ a s2, g < s2.gens.size → Q a s2 → Q' a s2) → wpAny (model XG.prog XG.w) XG.A t Q' fls s1 := fun hl h hQ => by
    rw [hxe] at h
    exact GenW.wpAny_gsz (Nat.succ_le_of_lt hl) (wpAny_mono h (fun a s2 q z => hQ a s2 (Nat.lt_of_succ_le z) q) fun _ _ z => z.elim)
  unfold Turn1
  rcases turn i n ys H w with ⟨stop, qe⟩ | ⟨go, Nx, hNx, step⟩
  · refine fe hg (T.done XG rfl rfl rfl hc i pl s σw H XG.xe I (stat I nf) st stop) fun r s1 _ h1 => ?_
    obtain ⟨rfl, I1⟩ := h1
    exact ⟨ys, pl, H, hpk, I1, qe⟩
  · refine fe hg (T.item XG rfl rfl rfl hc i pl s σw H XG.xe I (stat I nf) st go) fun r s1 g1 h1 => ?_
    obtain ⟨u, rfl, h1⟩ := h1
    refine fe g1 h1 fun _ s2 g2 h2 => ?_
    obtain ⟨x, H2, I2, r2, y2, st2, n2⟩ := h2
    have I2' := I2.pinned (stat I2 n2) (T.obj _ _ st2)
    refine fe g2 (pg.run _ s2 _ H2 x u _ I2' r2 (step x H2 y2)) fun _ s3 g3 h3 => ?_
    obtain ⟨σ3, H3, I3, hw3, q3⟩ := h3
    refine fe g3 (pt.run _ s3 σ3 H3 _ I3 q3) fun b s4 g4 h4 => ?_
    obtain ⟨H4, I4, q4⟩ := h4
    have back : ∀ {s' : Shared} {H' : Hp} {zs : List V} {pl' : List (Addr × Obj)}, g < s'.gens.size → Pk ag S zs pl' → Inv XG (pl' ++ pinsAt fp s2.heap) σ3 H' s' → Nx zs H' → ∀ s0, ∃ m, m < n ∧ JG XG ag g σw fp tn S W s0 m s' := fun {s' H' zs pl'} gz hp' I' nx s0 => by
      obtain ⟨m', hm, w'⟩ := hNx zs H' nx
      have pin' : ∀ b ∈ fp, ∀ o, s2.heap.get? b = some o → s'.heap.get? b = some o ∧ H' b = none := fun b hb o e =>
        let z := I'.pin (b, o) (List.mem_append_right _ (List.mem_append_right _ (mem_pinsAt hb e)))
        ⟨z.1, z.2.1⟩
      have hl : σw.length = σ3.length := by rw [← hw3, wipe_length]
      refine ⟨m', hm, gz, i + 1, zs, pl', H', hp', I'.unpinned.weak hl (fun j v e => ?_), T.keep _ _ _ st2 fun b hb o e => (pin' b hb o e).1, fun b hb => ?_, w'⟩
      · rw [← hw3] at e
        exact (wipe_some e).1
      · obtain ⟨o, e, _⟩ := T.obj _ _ st2 b hb
        exact (pin' b hb o e).2
    cases b with
    | false =>
      simp only [Bool.false_eq_true, if_false] at q4 ⊢
      exact back g4 hpk I4 q4 s0
    | true =>
      simp only [if_true] at q4 ⊢
      refine fe g4 (pe.run _ s4 σ3 H4 _ I4 q4) fun v s5 g5 h5 => ?_
      obtain ⟨y, H5, I5, r5, ym, nx⟩ := h5
      refine ⟨⟨g5, y, ys, pl, σ3, H5, hpk, r5, I5.unpinned, ym⟩, fun hgo s6 sl => ?_⟩
      obtain ⟨pl', hp', I6⟩ := woken hpn A (fun p hp => by
        unfold pinsAt at hp
        obtain ⟨b, hb, e⟩ := List.mem_filterMap.mp hp
        cases q : s2.heap.get? b with
        | none => rw [q] at e; cases e
        | some o => rw [q] at e; cases e; exact hb) hpk I5 r5 sl
      exact back (s' := s6) (Nat.lt_of_lt_of_le g5 sl.gz) hp' I6 (nx (hGo y v r5 hgo)) s6
end
end GX
/-! A generator expression is made. -/
namespace GX
open PySem PySem.Spec PyProof.Rows L2 TBx
section
variable {X : Cx} {pins : List (Addr × Obj)} {σ : L2.St} {H : Hp} {s : Shared}
theorem cd_stay {h h' : Heap} {c P : Addr} (x : PySem.W.CodeHd h c P) (k : ∀ o, h.get? c = some o → h'.get? c = some o) : PySem.W.CodeHd h' c P :=
  let ⟨o, vs, file, tf, flags, tg, inF, text, tt, e, r⟩ := x; ⟨o, vs, file, tf, flags, tg, inF, text, tt, k _ e, r⟩
/-- a table has grown by a new code object, whose own table is known too -/
theorem inv_tab2 {P c2 P2 : Addr} {ob : Obj} {ps more : Array Value} {h' : Heap} {g' : Array GenState} {d' : Drawn} {t' : Nat} (I : Inv X pins σ H s) (hP : H P = some (.tbl ps)) (k : ∀ b o, b ≠ P → s.heap.get? b = some o → h'.get? b = some o)
    (hm : h'.get? P = some { cls := .none, data := .fields (ps ++ more) }) (lc : s.heap.objs.size ≤ c2) (lp : s.heap.objs.size ≤ P2) (ne : c2 ≠ P2) (hc : PySem.W.CodeHd h' c2 P2) (hob : h'.get? c2 = some ob) (ht : h'.get? P2 = some { cls := .none, data := .fields #[] }) (hg : AllBare g') :
    Inv X pins σ (upd (upd (upd H c2 (cdO ob c2 P2)) P2 (.tbl #[])) P (.tbl (ps ++ more))) { s with heap := h', gens := g', drawn := d', toks := t' } := by
  have nc : H c2 = none := I.hok.fresh lc
  have np : H P2 = none := I.hok.fresh lp
  have at_ : ∀ b o, b ≠ P → H b = some o → (upd (upd (upd H c2 (cdO ob c2 P2)) P2 (.tbl #[])) P (.tbl (ps ++ more))) b = some o := fun b o n h => by
    rw [upd_ne n, upd_ne, upd_ne]
    · exact h
    · rintro rfl; rw [nc] at h; cases h
    · rintro rfl; rw [np] at h; cases h
  have lt : ∀ b o, s.heap.get? b = some o → b ≠ c2 ∧ b ≠ P2 := fun b o e => ⟨fun z => by
    have := Heap.lt_size e
    rw [z] at this
    exact absurd (Nat.lt_of_lt_of_le this lc) (Nat.lt_irrefl _), fun z => by
    have := Heap.lt_size e
    rw [z] at this
    exact absurd (Nat.lt_of_lt_of_le this lp) (Nat.lt_irrefl _)⟩
  have nP : ∀ b u, H b = some u → (∀ q, u ≠ .tbl q) → b ≠ P := fun b u e q z => by
    rw [z, hP] at e
    exact q ps (Option.some.inj e).symm
  have nN : ∀ b, H b = none → b ≠ P := fun b e z => by
    rw [z, hP] at e
    cases e
  refine I.step (g' := g') (d' := d') (ch := []) (fun b hb => absurd hb (by simp)) (fun b o _ _ _ e n => k b o (nN b n) e) (fun b o _ _ _ e n => ⟨o.slots, k b o (nN b n) e⟩)
    (fun b o _ e n => by rw [upd_ne (nN b n), upd_ne (lt b o e).2, upd_ne (lt b o e).1]; exact n) (fun b o _ e => ?_) (fun b xs e => at_ b _ (nP b _ e (fun q z => by cases z)) e) (fun b o u e => at_ b _ (nP b _ e (fun q z => by cases z)) e) (fun b qs e => ?_) (fun m hn => ?_) (fun b u e => ?_) hg
  · by_cases hb : b = P
    · rw [hb]
      exact ⟨_, hm⟩
    · exact ⟨o, k b o hb e⟩
  · by_cases hb : b = P
    · rw [hb, hP] at e
      cases e
      rw [hb, upd_same]
      exact ⟨more, rfl⟩
    · rw [at_ b _ hb e]
      exact ⟨#[], by simp⟩
  · obtain ⟨ob, es, ep, ho, r⟩ := hn
    exact ⟨ob, es, ep, k _ ob (nN _ I.free) ho, r⟩
  · by_cases hb2 : b = P
    · rw [hb2, upd_same] at e
      cases e
      rw [hb2]
      exact hm
    · rw [upd_ne hb2] at e
      by_cases hb3 : b = P2
      · rw [hb3, upd_same] at e
        cases e
        rw [hb3]
        exact ht
      · rw [upd_ne hb3] at e
        by_cases hb4 : b = c2
        · rw [hb4, upd_same] at e
          cases e
          rw [hb4]
          exact ⟨hob, hc, ⟨ob, hob⟩, fun h1 h2 x y => cd_stay x y⟩
        · rw [upd_ne hb4] at e
          refine (I.hok b u e).stay (fun d v hd q => k d v ?_ q) (fun d q => at_ d _ (nP d _ q (fun q z => by cases z)) q) fun d xs q => at_ d _ (nP d _ q (fun q z => by cases z)) q
          rcases hd with z | z
          · rw [z]
            exact hb2
          · exact nP d _ z (fun q z => by cases z)
end
theorem over_room {k : Nat} {A : Around} {elt tgt iter : Expr} {ifs : List Expr} {scope : Scope} {pos : Pos} {it : Value} {cenv : PySem.Env} (r : Room (k + 2) A) : Room k (A.in1.in1.over (gLoop elt tgt iter ifs scope pos it cenv) []) := by
  refine ⟨r.hd, ?_, ?_⟩
  · have := r.dp
    show A.depth + 0 + 1 + 3 * k + 5 < _
    omega
  · have := r.un
    show A.units + 1 + 1 + 0 + 3 + 16 * k + 200 < _
    omega
theorem over_frames {A : Around} {st : List PySem.Env} {elt tgt iter : Expr} {ifs : List Expr} {scope : Scope} {pos : Pos} {it : Value} {cenv : PySem.Env} (h : A.frames = some st) : (A.over (gLoop elt tgt iter ifs scope pos it cenv) []).frames = some (cenv :: st) := by
  obtain ⟨a1, a2, a3, a4, a5⟩ := A
  simp only at h
  subst h
  simp [Around.over, marksOver, frameCount, unitsOf, envsOf, guardsOf, pushEnvs, pushGuards, Code.envs, Code.env?, Code.isFrame, Code.guards, Code.isGuard, Code.weight, Code.frames]
/-- made: at a, number g, in the state s5; s3: before its frame was laid -/
structure Made (X : Cx) (pins : List (Addr × Obj)) (σ : L2.St) (H2 : Hp) (scope : Scope) (own : List (Str × Nat)) (elt tg iter : Expr) (ifs : List Expr) (gpos : Pos) (J : It) (it : Addr) (fp : List Addr) (tn : Nat → Heap → Prop) (a : Addr) (og : Obj) (g : Nat) (code : Value) (s3 s5 : Shared) : Prop where
  turn : Turn X.prog X.w X.K tg J fp it tn
  st : tn 0 s5.heap
  inv : Inv X pins σ H2 s3
  fps : ∀ b ∈ fp, FpOk X pins H2 b ∧ b < s3.heap.objs.size
  ginv : ∀ A1 : Around, A1.frames = some (genEnv scope (cloFrom X.env.cells scope.names []) s3.heap.objs.size code builtinsNs X.env :: X.stack) → A1.handled = none → Inv (cxG X A1 s3 H2 (genEnv scope (cloFrom X.env.cells scope.names []) s3.heap.objs.size code builtinsNs X.env) fp) [(a, og)] (wipe σ (own.map (·.2))) H2 s5
  gen : s5.gens[g]? = some (.fresh (.compStart (.GeneratorExp elt [⟨tg, iter, ifs, 0⟩] scope gpos) 0 (.ref it) .none (genEnv scope (cloFrom X.env.cells scope.names []) s3.heap.objs.size code builtinsNs X.env)))
  is : s5.heap.IsGen a g
  isO : ∃ nm qn, og.cls = .type "generator" ∧ og.data = .fields #[.int g 0, nm, qn] ∧ og.slots = #[]
  ne : ∀ b ∈ fp, b ≠ a
  cdt : ∃ c' Q, code = .ref c' ∧ CdT H2 c' Q ∧ Tb H2 Q
theorem gen_core {X : Cx} {pins : List (Addr × Obj)} {σ : L2.St} {H : Hp} {s : Shared} {c0 P0 c P : Addr} {elt tg iter : Expr} {ifs : List Expr} {scope : Scope} {own : List (Str × Nat)} {gpos : Pos} {wi : TI} {R : It → Hp → Prop} {Q' : Value → Shared → Prop} (nod : X.N.Nodup) (hroom : X.A.depth < recursionLimit)
    (TB : GxR.TabB X.base X.mg c0 P0) (hcode : X.env.code = .ref c) (co : scope.isCoroutine = false) (ok : BlkOk X.N X.env.scope scope own) (ncell : ∀ y ∈ scope.names, y.2 ≠ .cell) (dot : scope.names.lookup (".0" : Str) = some NameKind.local)
    (hi : PI X tg iter wi) (hs : ∀ v, genFold iter X.env v = pure v) (I : Inv X pins σ H s) (h : wi σ H fun J H1 => Tb H1 P ∧ R J H1) (hcd : ∀ J (s1 : Shared) (H1 : Hp), Inv X pins σ H1 s1 → R J H1 → PySem.W.CodeHd s1.heap c P)
    (hQ : ∀ J H1 H2 it fp tn a og g code s3 s5, R J H1 → Grw H1 H2 → Made X pins σ H2 scope own elt tg iter ifs gpos J it fp tn a og g code s3 s5 → Q' (.ref a) s5) :
    wpAny (model X.prog X.w) X.A (eval (.GeneratorExp elt [⟨tg, iter, ifs, 0⟩] scope gpos) X.env) Q' X.xe s := by
  have has : ∀ y ∈ scope.names, y.2 = .free → ∃ c, X.env.cells.lookup y.1 = some c := fun y hy e => (ok.free y hy e).elim (fun k => I.ok.has _ (.inl k)) fun k => I.ok.has _ (.inr k)
  refine wpAny_GeneratorExp_make co (closure_ok has) ncell dot ok.kind hroom ?_ hs
  refine thn (hi.run pins s σ H _ I h) fun xv s1 hx => thn hx fun itv s2 h2 => ?_
  obtain ⟨it, fp, tn, J, H2, e, I2, T, st2, f2, tbP, r⟩ := h2
  obtain ⟨ps, hP, ht⟩ := tbP.g
  subst e
  refine ⟨I2.nolimit, ?_⟩
  have hPs : s2.heap.get? P = some { cls := .none, data := .fields ps } := I2.hok P _ hP
  have cd : PySem.W.CodeHd s2.heap c P := hcd J s2 H2 I2 r
  have cont : ∀ (code : Value) (s3 : Shared) (H3 : Hp), Inv X pins σ H3 s3 → Grw H2 H3 → (∀ b, H2 b = none → b < s2.heap.objs.size → H3 b = none) → (∃ c' Q, code = .ref c' ∧ CdT H3 c' Q ∧ Tb H3 Q) → (∀ b o, b ≠ P → s2.heap.get? b = some o → s3.heap.get? b = some o) → s2.heap.objs.size ≤ s3.heap.objs.size →
      wpAny (model X.prog X.w) X.A (builtinsFor X.env.globals X.env.builtins) (fun bi s₄ =>
        ∀ h', h'.Ns s₄.heap.objs.size (fun y => if y = ".0" then some (.ref it) else none) → Heap.SameBut s₄.heap.objs.size (s₄.heap.push { cls := .type "frame", data := .dict #[] }) h' →
          Q' (.ref h'.objs.size) { s₄ with
            gens := s₄.gens.push (.fresh (.compStart (.GeneratorExp elt [⟨tg, iter, ifs, 0⟩] scope gpos) 0 (.ref it) .none (genEnv scope (cloFrom X.env.cells scope.names []) s₄.heap.objs.size code bi X.env))),
            toks := s₄.toks + 1 + 1 + 1,
            heap := h'.push { cls := .type "generator", data := .fields #[.int s₄.gens.size 0, .str "<genexpr>" (s₄.toks + 1), .str (X.env.qual ++ "<genexpr>") (s₄.toks + 1 + 1)] } }) X.xe s3 := by
    intro code s3 H3 I3 hG hF hC hk hz
    obtain ⟨bm, ob, e1, e2, e3, e4, e5, e6, e7, e8⟩ := TB.bm
    refine wpAny_builtinsFor (m := X.mg) (by rw [I3.ok.glob]; exact I3.mod.glob.keeps I3.bk) e1 e2 (I3.bk _ _ e5) e6 e7 e8 ?_
    intro h' hns hsb
    have ltC : s3.heap.objs.size < h'.objs.size := hns.lt
    have kp1 : ∀ b o, s3.heap.get? b = some o → h'.get? b = some o := fun b o e => (hsb.2 b (Nat.ne_of_lt (Heap.lt_size e))).trans (Heap.get?_push_of_some _ e)
    have nP : ∀ b ∈ fp, b ≠ P := fun b hb z => by
      have q := (f2 b hb).1
      rw [z, hP] at q
      cases q
    have sz2 : ∀ b ∈ fp, b < s2.heap.objs.size := fun b hb => by
      obtain ⟨o, e, _⟩ := T.obj _ _ st2 b hb
      exact Heap.lt_size e
    have sz : ∀ b ∈ fp, b < s3.heap.objs.size := fun b hb => Nat.lt_of_lt_of_le (sz2 b hb) hz
    have f3 : ∀ b ∈ fp, FpOk X pins H3 b ∧ b < s3.heap.objs.size := fun b hb => ⟨⟨hF b (f2 b hb).1 (sz2 b hb), (f2 b hb).2⟩, sz b hb⟩
    refine hQ J H2 H3 it fp tn h'.objs.size { cls := .type "generator", data := .fields #[.int s3.gens.size 0, .str "<genexpr>" (s3.toks + 1), .str (X.env.qual ++ "<genexpr>") (s3.toks + 1 + 1)] } s3.gens.size code s3 _ r hG
      ⟨T, T.keep _ _ _ st2 fun b hb o e => Heap.get?_push_of_some _ (kp1 b o (hk b o (nP b hb) e)), I3, f3, fun A1 hA hh => ?_, ?_, ⟨_, _, _, Heap.get?_push_size _ rfl, rfl, rfl, rfl⟩, ⟨_, _, rfl, rfl, rfl⟩, fun b hb => Nat.ne_of_lt (Nat.lt_trans (sz b hb) ltC), hC⟩
    · have G := gen_start (A1 := A1) (cenv := genEnv scope (cloFrom X.env.cells scope.names []) s3.heap.objs.size code builtinsNs X.env) (s5 := { s3 with gens := s3.gens.push (.fresh (.compStart (.GeneratorExp elt [⟨tg, iter, ifs, 0⟩] scope gpos) 0 (.ref it) .none (genEnv scope (cloFrom X.env.cells scope.names []) s3.heap.objs.size code builtinsNs X.env))), toks := s3.toks + 1 + 1 + 1, heap := h'.push { cls := .type "generator", data := .fields #[.int s3.gens.size 0, .str "<genexpr>" (s3.toks + 1), .str (X.env.qual ++ "<genexpr>") (s3.toks + 1 + 1)] } })
        I3 ok ncell nod f3 (fun b o e => Heap.get?_push_of_some _ (kp1 b o e)) rfl (hns.keeps fun b o e => Heap.get?_push_of_some _ e) rfl (I3.bare.push rfl) rfl rfl rfl rfl rfl hA hh
      refine G.pins_of fun p hp => ?_
      have hp : p = (h'.objs.size, _) := List.mem_singleton.mp hp
      subst hp
      have le : s3.heap.objs.size ≤ h'.objs.size := Nat.le_of_lt ltC
      refine ⟨Heap.get?_push_size _ rfl, I3.hok.fresh le, Nat.ne_of_gt ltC, fun z => ?_, fun v z => by cases z⟩
      rcases List.mem_cons.mp (I3.stkSub _ z) with z | z
      · exact Nat.ne_of_gt (Nat.lt_of_lt_of_le I3.lt le) z
      · exact I3.nofs le z
    · show (s3.gens.push _)[s3.gens.size]? = _
      simp
  cases hf : codeAmong gpos ps.toList with
  | none =>
    refine wpAny_genexprCodeX hcode (cd.code hPs ht) (cd.tab hPs) hf fun c' h' tk hx hge hlt hco' _ htab' hnew => ?_
    obtain ⟨P2, hge2, hco2, htab2⟩ := hnew
    have cd2 : PySem.W.CodeHd h' c' P2 := PySem.W.CodeHd.of hco2 htab2
    have ne : c' ≠ P2 := let ⟨_, _, _, _, _, _, _, _, _, _, _, _, _, _, _, _, _, _, n⟩ := cd2; n
    have nc : H2 c' = none := I2.hok.fresh hge
    have np : H2 P2 = none := I2.hok.fresh hge2
    obtain ⟨ob, hob⟩ : ∃ ob, h'.get? c' = some ob := let ⟨o, _, _, _, _, _, _, _, _, e, _⟩ := cd2; ⟨o, e⟩
    have cP : c' ≠ P := fun z => by rw [z, hP] at nc; cases nc
    have pP : P2 ≠ P := fun z => by rw [z, hP] at np; cases np
    refine cont _ { s2 with heap := h', toks := tk } _ (inv_tab2 (g' := s2.gens) (d' := s2.drawn) I2 hP (fun b u hb e => hx b u hb e) htab'.2 hge hge2 ne cd2 hob htab2.2 I2.bare) (Grw.grow tbP hP nc np ne) (fun b hb hl => ?_) ⟨c', P2, rfl, ⟨ob, ?_⟩, ?_⟩ (fun b o hb e => hx b o hb e) (Nat.le_trans hge (Nat.le_of_lt hlt))
    · have b1 : b ≠ P := fun z => by rw [z, hP] at hb; cases hb
      have b2 : b ≠ P2 := fun z => by rw [z] at hl; exact Nat.lt_irrefl _ (Nat.lt_of_lt_of_le hl hge2)
      have b3 : b ≠ c' := fun z => by rw [z] at hl; exact Nat.lt_irrefl _ (Nat.lt_of_lt_of_le hl hge)
      rw [upd_ne b1, upd_ne b2, upd_ne b3]
      exact hb
    · rw [upd_ne cP, upd_ne ne, upd_same]
    · exact Tb.empty (by rw [upd_ne pP, upd_same])
  | some cv =>
    refine wpAny_genexprCode_hit hcode (cd.code hPs ht) hf ?_
    obtain ⟨c', Q, e1, e2, e3⟩ := tbP.code hP hf
    exact cont cv s2 H2 I2 (Grw.refl H2) (fun b hb _ => hb) ⟨c', Q, e1, e2, e3⟩ (fun b o _ e => e) (Nat.le_refl _)
end GX
/-! all, any of a generator expression whose parts are any of the hand layer's. -/
namespace GX
open PySem PySem.Spec PyProof.Rows L2 TBx
section
variable {X : Cx} {pins : List (Addr × Obj)} {σ : L2.St} {H2 : Hp} {scope : Scope} {own : List (Str × Nat)} {elt tg iter : Expr} {ifs : List Expr} {gpos : Pos} {J : It} {it : Addr} {fp : List Addr} {tn : Nat → Heap → Prop} {a : Addr} {og : Obj} {g : Nat} {code : Value} {s3 s5 : Shared}
abbrev gEnv (X : Cx) (scope : Scope) (C : Addr) (code : Value) : PySem.Env := genEnv scope (cloFrom X.env.cells scope.names []) C code builtinsNs X.env
/-- its context when it is asked from under two built-in functions -/
abbrev cxA (X : Cx) (elt tg iter : Expr) (ifs : List Expr) (scope : Scope) (gpos : Pos) (it : Addr) (s : Shared) (H : Hp) (C : Addr) (code : Value) (fp : List Addr) : Cx :=
  cxG X (X.A.in1.in1.over (gLoop elt tg iter ifs scope gpos (.ref it) (gEnv X scope C code)) []) s H (gEnv X scope C code) fp
theorem fresh_gx {gT : TG} {tt : TT} {te : TE} {Go : Value → Prop} {Gv : V → Prop} {Qe : List V → Hp → Prop} {Ym : List V → V → Hp → Prop} {W : Nat → Nat → List V → Hp → Prop} {m0 : Nat} (hc : X.calm = true) (hh : X.A.handled = none) (co : scope.isCoroutine = false) (M : Made X pins σ H2 scope own elt tg iter ifs gpos J it fp tn a og g code s3 s5)
    (pg : PG (cxA X elt tg iter ifs scope gpos it s3 H2 s3.heap.objs.size code fp) tg gT) (pt : PTs (cxA X elt tg iter ifs scope gpos it s3 H2 s3.heap.objs.size code fp) ifs tt) (pe : PE (cxA X elt tg iter ifs scope gpos it s3 H2 s3.heap.objs.size code fp) elt te) (hGo : ∀ y v, RelV y v → Go v → Gv y) (hw : wipe (wipe σ (own.map (·.2))) (own.map (·.2)) = wipe σ (own.map (·.2)))
    (w0 : W 0 m0 [] H2) (turn : ∀ i m ys H, W i m ys H → (J.stop i H ∧ Qe ys H) ∨ (J.go i H ∧ ∃ Nx : List V → Hp → Prop, (∀ ys H', Nx ys H' → ∃ m', m' < m ∧ W (i + 1) m' ys H') ∧ ∀ x H', J.yld i H x H' → gT x (wipe σ (own.map (·.2))) H' fun σ2 H2 => wipe σ2 (own.map (·.2)) = wipe σ (own.map (·.2)) ∧ tt σ2 H2 fun b H3 =>
      if b = true then te σ2 H3 fun y H4 => Ym ys y H4 ∧ (Gv y → Nx (ys ++ [y]) H4) else Nx ys H3)) :
    GSt X.prog X.w X.A.in1.in1 a g none Go (WhG (cxA X elt tg iter ifs scope gpos it s3 H2 s3.heap.objs.size code fp) (a, og) (wipe σ (own.map (·.2))) none Qe) (EmG (cxA X elt tg iter ifs scope gpos it s3 H2 s3.heap.objs.size code fp) (a, og) g none Ym) (m0 + 1) s5 := by
  have GI := M.ginv (X.A.in1.in1.over (gLoop elt tg iter ifs scope gpos (.ref it) (gEnv X scope s3.heap.objs.size code)) []) (over_frames M.inv.ok.frames) hh
  refine ⟨M.is, GI.nolimit, _, M.gen, fun s' sl => ⟨rfl, ?_⟩⟩
  have hJ : JG (cxA X elt tg iter ifs scope gpos it s3 H2 s3.heap.objs.size code fp) (a, og) g (wipe σ (own.map (·.2))) fp tn none W s' m0 s' := by
    refine ⟨Nat.lt_of_lt_of_le ?_ sl.gz, 0, [], [(a, og)], H2, rfl, slept GI sl, M.turn.keep _ _ _ M.st fun b _ o e => sl.keep b o (fun q => nomatch q) e, fun b hb => (M.fps b hb).1.1, w0⟩
    rcases Nat.lt_or_ge g s5.gens.size with q | q
    · exact q
    · have z := M.gen
      rw [Array.getElem?_eq_none q] at z
      cases z
  have loop := seg_gx (prog := X.prog) (w := X.w) (A := X.A.in1.in1) (elt := elt) (tgt := tg) (iter := iter) (ifs := ifs) (scope := scope) (pos := gpos) (it := .ref it) (cenv := gEnv X scope s3.heap.objs.size code) (S := none) (Go := Go)
    (J := JG (cxA X elt tg iter ifs scope gpos it s3 H2 s3.heap.objs.size code fp) (a, og) g (wipe σ (own.map (·.2))) fp tn none W) (Wh := WhG (cxA X elt tg iter ifs scope gpos it s3 H2 s3.heap.objs.size code fp) (a, og) (wipe σ (own.map (·.2))) none Qe) (Em := EmG (cxA X elt tg iter ifs scope gpos it s3 H2 s3.heap.objs.size code fp) (a, og) g none Ym) co
    (fun s0 n s hJ => turn_gx (S := none) (XG := cxA X elt tg iter ifs scope gpos it s3 H2 s3.heap.objs.size code fp) (ag := (a, og)) (g := g) (fp := fp) (iter := iter) (vs := own.map (·.2)) hc rfl rfl rfl M.ne ⟨(fun _ z => nomatch z), (fun _ z => nomatch z), (fun _ z => nomatch z)⟩ M.turn pg pt pe hGo hw turn s0 n s hJ) m0 (m0 + 1) s' s' hJ (Nat.lt_succ_self _)
  have st1 := M.turn.keep _ _ _ M.st fun b _ o e => sl.keep b o (fun q => nomatch q) e
  show Seg _ X.A.in1.in1 _ _ _ s' _ ((compStart (.GeneratorExp elt [⟨tg, iter, ifs, 0⟩] scope gpos) 0 (.ref it) .none (gEnv X scope s3.heap.objs.size code)).onRaise (leaving (gEnv X scope s3.heap.objs.size code))) [] s'
  unfold compStart
  rw [Sem.onRaise_eq_wrap]
  show Seg _ X.A.in1.in1 _ _ _ s' _ ((ask >>= _).wrap _ _ _ _) [] s'
  refine seg_bind_wrap (wpAny_askSetting ?_)
  split
  · exact seg_again rfl loop
  · first
      | exact seg_bind_wrap (wpAny_rule (seg_bind_wrap (wpAny_standAt (seg_bind_wrap (M.turn.self _ 0 s' _ _ st1 (seg_again rfl loop))))))
      | (refine seg_bind_wrap (wpAny_rule ?_); show Seg _ X.A.in1.in1 _ _ _ s' _ ((standAt iter.pos >>= _).wrap _ _ _ _) [] s'; exact seg_bind_wrap (wpAny_standAt (seg_bind_wrap (M.turn.self _ 0 s' _ _ st1 (seg_again rfl loop)))))
/-- back in the def's context -/
theorem back_gx {σ' : L2.St} {H' : Hp} {s1 s2 : Shared} {v : Value} {ag : Addr × Obj} {A1 : Around} {cenv : PySem.Env} (M : Made X pins σ H2 scope own elt tg iter ifs gpos J it fp tn a og g code s3 s5) (I : Inv (cxG X A1 s3 H2 cenv fp) [ag] σ' H' s1) (sl : Slp none v s1 s2) : Inv X pins σ H' s2 :=
  slept (M.inv.call' (ch := fp) I.os I.base I.hok I.bare fun b hb => ⟨(M.fps b hb).1.2.2.2.1, (M.fps b hb).1.2.1, (M.fps b hb).1.2.2.2.2.1, (M.fps b hb).1.2.2.2.2.2⟩) sl
theorem rel_bl {y : V} {b : Bool} (r : RelV y (.bool b)) : y = .bl b := by
  cases y with
  | bl c => exact congrArg V.bl (Value.bool.inj (show Value.bool b = Value.bool c from r)).symm
  | _ => first
    | (obtain ⟨t, r⟩ := r; cases r)
    | (cases (show _ = _ from r))
end
theorem wipe_get (σ : L2.St) (i : Nat) : ∀ vs : List Nat, (wipe σ vs)[i]? = if i ∈ vs ∧ i < σ.length then some none else σ[i]?
  | [] => by simp [wipe]
  | v :: vs => by
    unfold wipe
    by_cases e : v = i
    · subst e
      by_cases hl : v < σ.length
      · rw [List.getElem?_set_self (by rw [wipe_length]; exact hl), if_pos ⟨List.mem_cons_self, hl⟩]
      · rw [if_neg fun z => hl z.2, List.getElem?_eq_none (by rw [List.length_set, wipe_length]; omega), List.getElem?_eq_none (by omega)]
    · rw [List.getElem?_set_ne e, wipe_get σ i vs]
      simp only [List.mem_cons, Ne.symm e, false_or]
theorem wipe_idem (σ : L2.St) (vs : List Nat) : wipe (wipe σ vs) vs = wipe σ vs := by
  refine List.ext_getElem? fun i => ?_
  rw [wipe_get, wipe_length]
  by_cases h : i ∈ vs ∧ i < σ.length
  · rw [if_pos h, wipe_get, if_pos h]
  · rw [if_neg h]
/-- all(elt for t in e if ..); the def's table at P may have grown behind it -/
def tAllG (P : Addr) (wi : TI) (gT : TG) (tt : TT) (te : TE) (vs : List Nat) : TE := fun σ H Q => wi σ H fun J H1 => Tb H1 P ∧ ∀ H2, Grw H1 H2 → ∃ W : Nat → Nat → Hp → Prop, (∃ m, W 0 m H2) ∧ ∀ i m H, W i m H →
  (J.stop i H ∧ Q (.bl true) H) ∨ (J.go i H ∧ ∃ Nx : Hp → Prop, (∀ H', Nx H' → ∃ m', m' < m ∧ W (i + 1) m' H') ∧ ∀ x H', J.yld i H x H' → gT x (wipe σ vs) H' fun σ2 H2 => wipe σ2 vs = wipe σ vs ∧ tt σ2 H2 fun b H3 =>
    if b = true then te σ2 H3 fun y H4 => (∃ k, y = .bl k ∧ (k = false → Q (.bl false) H4)) ∧ (y = .bl true → Nx H4) else Nx H3)
theorem pe_allG {X : Cx} {c P : Addr} {elt tg iter : Expr} {ifs : List Expr} {scope : Scope} {own : List (Str × Nat)} {p pos gpos : Pos} {wi : TI} {gT : TG} {tt : TT} {te : TE} {k : Nat}
    (hc : X.calm = true) (nod : X.N.Nodup) (hr : Room (k + 2) X.A) (hg : Gl X "all") (hm : X.mg "all" = none) (hb : bootBuiltins "all" = some (.builtin "all")) (TB : GxR.TabB X.base X.mg c P) (hcode : X.env.code = .ref c) (co : scope.isCoroutine = false) (ok : BlkOk X.N X.env.scope scope own) (ncell : ∀ y ∈ scope.names, y.2 ≠ .cell) (dot : scope.names.lookup (".0" : Str) = some NameKind.local)
    (hi : PI X tg iter wi) (pg : ∀ it s H C code fp, PG (cxA X elt tg iter ifs scope gpos it s H C code fp) tg gT) (pt : ∀ it s H C code fp, PTs (cxA X elt tg iter ifs scope gpos it s H C code fp) ifs tt) (pe : ∀ it s H C code fp, Room k (cxA X elt tg iter ifs scope gpos it s H C code fp).A → PE (cxA X elt tg iter ifs scope gpos it s H C code fp) elt te)
    (hs : ∀ v, genFold iter X.env v = pure v := by intro _; rfl)
    (he : starEach [.GeneratorExp elt [⟨tg, iter, ifs, 0⟩] scope gpos] X.env = (false, eval (.GeneratorExp elt [⟨tg, iter, ifs, 0⟩] scope gpos) X.env) :: starEach [] X.env := by rfl) :
    PE X (.Call (.Name "all" p) [.GeneratorExp elt [⟨tg, iter, ifs, 0⟩] scope gpos] [] pos) (tAllG P wi gT tt te (own.map (·.2))) := by
  refine ⟨fun pins s σ H Q I h => ?_⟩
  refine wpAny_Call_Name_kw (ld_blt I hg hm hb ?_)
  refine PyProof.Rows.callWith_builtin1 ?_ he (by rfl)
  rw [he]
  show wpAny _ _ (spliced ((false, eval (.GeneratorExp elt [⟨tg, iter, ifs, 0⟩] scope gpos) X.env) :: backTo pos (starEach [] X.env))) _ _ s
  refine Calls.spliced_cons (gen_core nod (by have := hr.dp; omega) TB hcode co ok ncell dot hi hs I h (fun _ _ _ I _ => TB.code.keeps fun b u e => I.bk b u e) fun J H1 H2 it fp tn a og g code s3 s5 hR hT M => ?_)
  obtain ⟨W, ⟨m0, w0⟩, turn⟩ := hR H2 hT
  refine Calls.spliced_nil ?_
  have rel : ∀ y v, RelV y v → v = Value.bool true → y = .bl true := fun y v r e => rel_bl (by rw [e] at r; exact r)
  have GF := fresh_gx (gpos := gpos) (iter := iter) (Go := fun v => v = .bool true) (Gv := fun y => y = .bl true) (Qe := fun _ H => Q (.bl true) H) (Ym := fun _ y H => ∃ k, y = .bl k ∧ (k = false → Q (.bl false) H)) hc hr.hd co M (pg it s3 H2 s3.heap.objs.size code fp) (pt it s3 H2 s3.heap.objs.size code fp) (pe it s3 H2 s3.heap.objs.size code fp (over_room hr)) rel (wipe_idem σ _) (W := fun i m _ H => W i m H) w0 (fun i m ys H w => (turn i m H w).imp id fun ⟨go, Nx, h1, h2⟩ => ⟨go, fun _ => Nx, fun _ => h1, h2⟩)
  refine call_function_tree F.kind_all F.plain_all F.entry_all (F.args_all1 _) ?_
  unfold Builtin.«all»
  refine wpAny_bind (m := oneArg "all" _) (wpAny_pure (wpAny_bind (wpAny_pyIter_gen M.is ?_)))
  refine wpAny_pure ⟨plainId_quiet F.plain_all_loop _, all_gx (g := g) hr.hd (by have := hr.dp; show X.A.depth < _; omega) (fun s0 s1 v _ _ hE => ?_) (fun s0 v s1 hE => ?_) (fun s0 s1 s2 hW sl => ?_) (fun s0 s1 s2 hE sl => ?_) _ s5 GF⟩
  · obtain ⟨gz, y, ys, pl, σ', H', hp, r, IG, _⟩ := hE
    obtain rfl : pl = [(a, og)] := hp
    obtain ⟨nm, qn, c1, c2, c3⟩ := M.isO
    exact ⟨⟨og, nm, qn, (IG.pin (a, og) (List.mem_append_right _ List.mem_cons_self)).1, c1, c2, c3⟩, IG.nolimit, gz⟩
  · obtain ⟨_, y, ys, pl, σ', H', hp, r, IG, k, rfl, _⟩ := hE
    exact ⟨k, r⟩
  · obtain ⟨ys, pl, H', hp, IG, q⟩ := hW
    obtain rfl : pl = [(a, og)] := hp
    exact ⟨.bl true, H', back_gx M IG sl, rfl, q⟩
  · obtain ⟨_, y, ys, pl, σ', H', hp, r, IG, k, rfl, q⟩ := hE
    obtain rfl : pl = [(a, og)] := hp
    have e : k = false := by
      have z := rel_bl r
      exact V.bl.inj z
    exact ⟨.bl false, H', back_gx M IG sl, rfl, q e⟩
/-- any(elt for t in e if ..); the def's table at P may have grown behind it -/
def tAnyG (P : Addr) (wi : TI) (gT : TG) (tt : TT) (te : TE) (vs : List Nat) : TE := fun σ H Q => wi σ H fun J H1 => Tb H1 P ∧ ∀ H2, Grw H1 H2 → ∃ W : Nat → Nat → Hp → Prop, (∃ m, W 0 m H2) ∧ ∀ i m H, W i m H →
  (J.stop i H ∧ Q (.bl false) H) ∨ (J.go i H ∧ ∃ Nx : Hp → Prop, (∀ H', Nx H' → ∃ m', m' < m ∧ W (i + 1) m' H') ∧ ∀ x H', J.yld i H x H' → gT x (wipe σ vs) H' fun σ2 H2 => wipe σ2 vs = wipe σ vs ∧ tt σ2 H2 fun b H3 =>
    if b = true then te σ2 H3 fun y H4 => (∃ k, y = .bl k ∧ (k = true → Q (.bl true) H4)) ∧ (y = .bl false → Nx H4) else Nx H3)
theorem pe_anyG {X : Cx} {c P : Addr} {elt tg iter : Expr} {ifs : List Expr} {scope : Scope} {own : List (Str × Nat)} {p pos gpos : Pos} {wi : TI} {gT : TG} {tt : TT} {te : TE} {k : Nat}
    (hc : X.calm = true) (nod : X.N.Nodup) (hr : Room (k + 2) X.A) (hg : Gl X "any") (hm : X.mg "any" = none) (hb : bootBuiltins "any" = some (.builtin "any")) (TB : GxR.TabB X.base X.mg c P) (hcode : X.env.code = .ref c) (co : scope.isCoroutine = false) (ok : BlkOk X.N X.env.scope scope own) (ncell : ∀ y ∈ scope.names, y.2 ≠ .cell) (dot : scope.names.lookup (".0" : Str) = some NameKind.local)
    (hi : PI X tg iter wi) (pg : ∀ it s H C code fp, PG (cxA X elt tg iter ifs scope gpos it s H C code fp) tg gT) (pt : ∀ it s H C code fp, PTs (cxA X elt tg iter ifs scope gpos it s H C code fp) ifs tt) (pe : ∀ it s H C code fp, Room k (cxA X elt tg iter ifs scope gpos it s H C code fp).A → PE (cxA X elt tg iter ifs scope gpos it s H C code fp) elt te)
    (hs : ∀ v, genFold iter X.env v = pure v := by intro _; rfl)
    (he : starEach [.GeneratorExp elt [⟨tg, iter, ifs, 0⟩] scope gpos] X.env = (false, eval (.GeneratorExp elt [⟨tg, iter, ifs, 0⟩] scope gpos) X.env) :: starEach [] X.env := by rfl) :
    PE X (.Call (.Name "any" p) [.GeneratorExp elt [⟨tg, iter, ifs, 0⟩] scope gpos] [] pos) (tAnyG P wi gT tt te (own.map (·.2))) := by
  refine ⟨fun pins s σ H Q I h => ?_⟩
  refine wpAny_Call_Name_kw (ld_blt I hg hm hb ?_)
  refine PyProof.Rows.callWith_builtin1 ?_ he (by rfl)
  rw [he]
  show wpAny _ _ (spliced ((false, eval (.GeneratorExp elt [⟨tg, iter, ifs, 0⟩] scope gpos) X.env) :: backTo pos (starEach [] X.env))) _ _ s
  refine Calls.spliced_cons (gen_core nod (by have := hr.dp; omega) TB hcode co ok ncell dot hi hs I h (fun _ _ _ I _ => TB.code.keeps fun b u e => I.bk b u e) fun J H1 H2 it fp tn a og g code s3 s5 hR hT M => ?_)
  obtain ⟨W, ⟨m0, w0⟩, turn⟩ := hR H2 hT
  refine Calls.spliced_nil ?_
  have rel : ∀ y v, RelV y v → v = Value.bool false → y = .bl false := fun y v r e => rel_bl (by rw [e] at r; exact r)
  have GF := fresh_gx (gpos := gpos) (iter := iter) (Go := fun v => v = .bool false) (Gv := fun y => y = .bl false) (Qe := fun _ H => Q (.bl false) H) (Ym := fun _ y H => ∃ k, y = .bl k ∧ (k = true → Q (.bl true) H)) hc hr.hd co M (pg it s3 H2 s3.heap.objs.size code fp) (pt it s3 H2 s3.heap.objs.size code fp) (pe it s3 H2 s3.heap.objs.size code fp (over_room hr)) rel (wipe_idem σ _) (W := fun i m _ H => W i m H) w0 (fun i m ys H w => (turn i m H w).imp id fun ⟨go, Nx, h1, h2⟩ => ⟨go, fun _ => Nx, fun _ => h1, h2⟩)
  refine call_function_tree F.kind_any F.plain_any F.entry_any (F.args_any1 _) ?_
  unfold Builtin.«any»
  refine wpAny_bind (m := oneArg "any" _) (wpAny_pure (wpAny_bind (wpAny_pyIter_gen M.is ?_)))
  refine wpAny_pure ⟨plainId_quiet F.plain_any_loop _, any_gx (g := g) hr.hd (by have := hr.dp; show X.A.depth < _; omega) (fun s0 s1 v _ _ hE => ?_) (fun s0 v s1 hE => ?_) (fun s0 s1 s2 hW sl => ?_) (fun s0 s1 s2 hE sl => ?_) _ s5 GF⟩
  · obtain ⟨gz, y, ys, pl, σ', H', hp, r, IG, _⟩ := hE
    obtain rfl : pl = [(a, og)] := hp
    obtain ⟨nm, qn, c1, c2, c3⟩ := M.isO
    exact ⟨⟨og, nm, qn, (IG.pin (a, og) (List.mem_append_right _ List.mem_cons_self)).1, c1, c2, c3⟩, IG.nolimit, gz⟩
  · obtain ⟨_, y, ys, pl, σ', H', hp, r, IG, k, rfl, _⟩ := hE
    exact ⟨k, r⟩
  · obtain ⟨ys, pl, H', hp, IG, q⟩ := hW
    obtain rfl : pl = [(a, og)] := hp
    exact ⟨.bl false, H', back_gx M IG sl, rfl, q⟩
  · obtain ⟨_, y, ys, pl, σ', H', hp, r, IG, k, rfl, q⟩ := hE
    obtain rfl : pl = [(a, og)] := hp
    have e : k = true := by
      have z := rel_bl r
      exact V.bl.inj z
    exact ⟨.bl true, H', back_gx M IG sl, rfl, q e⟩
end GX
/-! A generator's values put into a list. -/
namespace GX
open PySem PySem.Spec PyProof.Rows L2
section
variable {prog : Program} {w : World} {A : Around} {a : Addr} {g : Nat} {Wh : Shared → Shared → Prop} {Em : Shared → Value → Shared → Prop} {R : Result → Shared → Prop}
theorem pushed {S : Addr} {v : Value} {s : Shared} {acc : Array Value} {c : Nat} (h : s.heap.get? S = some (lstO acc c)) (hl : s.heap.NoLimit) (hSc : S ≠ cStatics) : Slp (some S) v s { s with heap := s.heap.update S (Obj.mapSeq (·.push v)) } ∧ (s.heap.update S (Obj.mapSeq (·.push v))).NoLimit := by
  refine ⟨⟨rfl, id, Nat.le_refl _, fun b o n e => (Heap.get?_update_other _ _ (fun z : S = b => n (by rw [z]))).trans e, fun b z acc2 c2 e => ?_⟩, ?_⟩
  · obtain rfl : S = b := Option.some.inj z
    rw [h] at e
    cases e
    exact ⟨_, Heap.get?_update_self _ h rfl⟩
  · obtain ⟨mc, hn, hnn⟩ := hl
    exact ⟨mc, hn.at' fun o e => (Heap.get?_update_other _ _ hSc).trans e, hnn⟩
theorem ext_gx (hh : A.handled = none) (hroom : A.depth < recursionLimit) (hgen : ∀ s0 s1 v, s0.heap.IsGen a g → g < s0.gens.size → Em s0 v s1 → s1.heap.IsGen a g ∧ s1.heap.NoLimit ∧ g < s1.gens.size) (S : Addr) (hSa : S ≠ a) (hSc : S ≠ cStatics) (res : Value)
    (hS : ∀ s0 v s1, Em s0 v s1 → ∃ acc c, s1.heap.get? S = some (lstO acc c) ∧ acc.size < sizeLine) (hR : ∀ s0 s1 s2, Wh s0 s1 → Slp none .none s1 s2 → R (.ok (.ret res)) s2) :
    ∀ (f : Nat) (s : Shared), GSt prog w A.in1.in1 a g (some S) (fun _ => True) Wh Em f s → codeAny (model prog w) A (.builtin "list.extend.loop" ⟨[.ref S, .ref a, res], []⟩) R s := by
  intro f
  induction f with
  | zero =>
    intro s h
    refine codeAny_builtin F.entry_extend_loop ?_
    rw [Around.under_plainId F.plain_extend_loop _]
    show wpAny _ A.in1 (pyNext (.ref a) >>= _) _ _ s
    refine wpAny_bind (next_gx hh hroom h hgen (fun v s0 s1 s2 _ he sl hh2 hl2 hg => ?_) fun s0 s1 s2 _ hw sl => wpAny_pure (hR s0 s1 s2 hw sl))
    obtain ⟨acc, c, hSo, hsz⟩ := hS s0 v s1 he
    have hS2 : s2.heap.get? S = some (lstO acc c) := by rw [hh2]; exact hSo
    obtain ⟨p1, p2⟩ := pushed (v := v) hS2 hl2 hSc
    exact absurd (hg trivial _ p1 rfl (fun o e => (Heap.get?_update_other _ _ hSa).trans e) p2).1 (Nat.lt_irrefl 0)
  | succ f ih =>
    intro s h
    refine codeAny_builtin F.entry_extend_loop ?_
    rw [Around.under_plainId F.plain_extend_loop _]
    show wpAny _ A.in1 (pyNext (.ref a) >>= _) _ _ s
    refine wpAny_bind (next_gx hh hroom h hgen (fun v s0 s1 s2 _ he sl hh2 hl2 hg => ?_) fun s0 s1 s2 _ hw sl => wpAny_pure (hR s0 s1 s2 hw sl))
    obtain ⟨acc, c, hSo, hsz⟩ := hS s0 v s1 he
    have hS2 : s2.heap.get? S = some (lstO acc c) := by rw [hh2]; exact hSo
    show wpAny _ A.in1 (updateSeq S (·.push v) >>= _) _ _ _
    refine wpAny_bind ?_
    obtain ⟨p1, p2⟩ := pushed (v := v) hS2 hl2 hSc
    refine wpAny_updateSeq hS2 rfl (wpAny_pure ⟨plainId_quiet F.plain_extend_loop _, ih { s2 with heap := s2.heap.update S (Obj.mapSeq (·.push v)) } (hg trivial _ p1 rfl (fun o e => (Heap.get?_update_other _ _ hSa).trans e) p2).2⟩) (by omega) (by show (acc.push v).size ≤ sizeLine + 1; rw [Array.size_push]; omega)
end
end GX
/-! collect(g), g a generator asleep. -/
namespace GX
open PySem PySem.Spec PyProof.Rows L2
section
variable {prog : Program} {w : World} {A : Around} {E : Value → Shared → Prop} {s : Shared} {a : Addr} {g : Nat} {Wh : Shared → Shared → Prop} {Em : Shared → Value → Shared → Prop} {Q : List Value → Shared → Prop}
/-- a new empty list stands at S behind s -/
structure Laid (s s3 : Shared) : Prop where
  slp : Slp none .none s s3
  gens : s3.gens = s.gens
  at_ : ∃ c, s3.heap.get? s.heap.objs.size = some (lstO #[] c)
  sz : s.heap.objs.size < s3.heap.objs.size
theorem collect_gx (hh : A.handled = none) (hroom : A.depth < recursionLimit) (hgen : ∀ s0 s1 v, s0.heap.IsGen a g → g < s0.gens.size → Em s0 v s1 → s1.heap.IsGen a g ∧ s1.heap.NoLimit ∧ g < s1.gens.size) (hg : s.heap.IsGen a g) (hl : s.heap.NoLimit)
    (hS : ∀ s0 v s1, Em s0 v s1 → ∃ acc c, s1.heap.get? s.heap.objs.size = some (lstO acc c) ∧ acc.size < sizeLine) (f : Nat) (hf : ∀ s3, Laid s s3 → GSt prog w A.in1.in1 a g (some s.heap.objs.size) (fun _ => True) Wh Em f s3)
    (hW : ∀ s0 s1, Wh s0 s1 → ∃ acc c, s1.heap.get? s.heap.objs.size = some (lstO acc c)) (hQ : ∀ s0 s1 s2 acc c, Wh s0 s1 → Slp none .none s1 s2 → s1.heap.get? s.heap.objs.size = some (lstO acc c) → Q acc.toList s2) :
    wpAny (model prog w) A (collect (.ref a)) Q E s := by
  have hne : s.heap.objs.size ≠ a := fun e => by
    obtain ⟨o, nm, qn, ho, _⟩ := hg
    exact absurd (Heap.lt_size ho) (by rw [← e]; exact Nat.lt_irrefl _)
  have hcs : s.heap.objs.size ≠ cStatics := fun e => by
    obtain ⟨_, hn, _⟩ := hl
    exact absurd hn.lt (by rw [e]; exact Nat.lt_irrefl _)
  unfold collect
  refine wpAny_bind (wpAny_runValue (codeAny_builtin F.entry_proto_collect ?_))
  rw [Around.under_plainId F.plain_proto_collect _]
  show wpAny _ A.in1 (newList [] >>= fun l => again (.builtin "list.__iadd__" ⟨[l, .ref a], []⟩)) _ _ s
  refine wpAny_bind (wpAny_newObj_type ?_)
  refine wpAny_pure ⟨plainId_quiet F.plain_list_iadd _, codeAny_builtin F.entry_list_iadd ?_⟩
  rw [Around.under_plainId F.plain_list_iadd _]
  have g1 : (s.heap.push { cls := .type "list", data := .seq ([] : List Value).toArray }).IsGen a g := hg.push _
  show wpAny _ A.in1 (Builtin.List.listExtendWith (.ref s.heap.objs.size) (.ref a) (.ref s.heap.objs.size)) _ _ _
  unfold Builtin.List.listExtendWith
  refine wpAny_bind (wpAny_typeOf g1.typeIs ?_)
  have h1 : Builtin.List.listSameRef (.ref s.heap.objs.size) (.ref a) = false := by simp [Builtin.List.listSameRef, hne]
  have h2 : (Value.type "generator" == Value.type "list") = false := by decide
  have h3 : (Value.type "generator" == Value.type "tuple") = false := by decide
  simp only [h1, h2, h3, Bool.or_false, Bool.false_eq_true, if_false]
  refine wpAny_bind (wpAny_pyIter_gen g1 (wpAny_bind (wpAny_holding ?_)))
  unfold Builtin.List.listLengthHint
  refine wpAny_bind (wpAny_specialOf g1.typeIs F.gen_no_len ?_)
  show wpAny _ A.in1 (specialOf (Value.ref a) (Str.ofString "__length_hint__") >>= _) _ _ _
  refine wpAny_bind (wpAny_specialOf g1.typeIs F.gen_no_hint (wpAny_pure ?_))
  show wpAny _ A.in1 (rule "list.extend.makes-room" >>= fun _ => Builtin.List.listTouch (.ref s.heap.objs.size) >>= fun _ =>
    again (.builtin "list.extend.loop" ⟨[.ref s.heap.objs.size, .ref a, .ref s.heap.objs.size], []⟩)) _ _ _
  refine wpAny_bind (wpAny_rule (wpAny_bind ?_))
  have l1 : (s.heap.push { cls := .type "list", data := .seq ([] : List Value).toArray }).get? s.heap.objs.size = some { cls := .type "list", data := .seq ([] : List Value).toArray } := Heap.get?_push_size _ rfl
  show wpAny _ A.in1 (updateSeq s.heap.objs.size (·.push .none) >>= fun _ => updateSeq s.heap.objs.size (·.pop)) _ _ _
  refine wpAny_bind (wpAny_updateSeq l1 rfl ?_)
  have l2 := Heap.get?_update_self (Obj.mapSeq (·.push Value.none)) l1 rfl
  refine wpAny_updateSeq l2 rfl ?_
  have l3 := Heap.get?_update_self (Obj.mapSeq (·.pop)) l2 rfl
  have oth : ∀ b o, s.heap.get? b = some o → (((s.heap.push { cls := .type "list", data := .seq ([] : List Value).toArray }).update s.heap.objs.size (Obj.mapSeq (·.push Value.none))).update s.heap.objs.size (Obj.mapSeq (·.pop))).get? b = some o := fun b o e => by
    have nb : s.heap.objs.size ≠ b := Nat.ne_of_gt (Heap.lt_size e)
    exact (Heap.get?_update_other _ _ nb).trans ((Heap.get?_update_other _ _ nb).trans (Heap.get?_push_of_some _ e))
  have laid : Laid s { s with heap := ((s.heap.push { cls := .type "list", data := .seq ([] : List Value).toArray }).update s.heap.objs.size (Obj.mapSeq (·.push Value.none))).update s.heap.objs.size (Obj.mapSeq (·.pop)) } :=
    ⟨⟨rfl, id, Nat.le_refl _, fun b o _ e => oth b o e, fun _ z => nomatch z⟩, rfl, ⟨_, l3⟩, Heap.lt_size l3⟩
  refine wpAny_pure ⟨plainId_quiet F.plain_extend_loop _, ext_gx hh hroom hgen _ hne hcs _ hS (fun s0 s1 s2 hw sl => ?_) f _ (hf _ laid)⟩
  obtain ⟨acc, c, e1⟩ := hW s0 s1 hw
  have e2 := sl.keep _ _ (fun z => nomatch z) e1
  show wpAny _ A (load s.heap.objs.size >>= _) _ _ s2
  exact wpAny_bind (wpAny_load e2 (wpAny_pure (hQ s0 s1 s2 acc c hw sl e1)))
end
end GX
/-! tuple(g), g a generator asleep. -/
namespace GX
open PySem PySem.Spec PyProof.Rows L2
open AutoSeq1 (wpAny_loadPart')
section
variable {prog : Program} {w : World} {A : Around} {E : Value → Shared → Prop} {s : Shared} {a : Addr} {g : Nat} {Wh : Shared → Shared → Prop} {Em : Shared → Value → Shared → Prop}
theorem tuple_new_gx {Q₁ : Value → Shared → Prop} (hh : A.handled = none) (hroom : A.depth < recursionLimit) (hgen : ∀ s0 s1 v, s0.heap.IsGen a g → g < s0.gens.size → Em s0 v s1 → s1.heap.IsGen a g ∧ s1.heap.NoLimit ∧ g < s1.gens.size) (hg : s.heap.IsGen a g) (hl : s.heap.NoLimit)
    (hS : ∀ s0 v s1, Em s0 v s1 → ∃ acc c, s1.heap.get? s.heap.objs.size = some (lstO acc c) ∧ acc.size < sizeLine) (f : Nat) (hf : ∀ s3, Laid s s3 → GSt prog w A.in1.in1.in1 a g (some s.heap.objs.size) (fun _ => True) Wh Em f s3)
    (hW : ∀ s0 s1, Wh s0 s1 → ∃ acc c, s1.heap.get? s.heap.objs.size = some (lstO acc c) ∧ acc.size ≤ sizeLine)
    (h : ∀ s0 s1 s2 acc c, Wh s0 s1 → Slp none .none s1 s2 → s1.heap.get? s.heap.objs.size = some (lstO acc c) → Q₁ (.ref s2.heap.objs.size) { s2 with heap := s2.heap.push { cls := .type "tuple", data := .seq acc } }) :
    codeAny (model prog w) A (.call (.builtin "tuple.__new__") ⟨[.type "tuple", .ref a], []⟩) (wants Q₁ E) s := by
  refine codeAny_of_tree ?_
  show wpAny _ A.in1 (do checkBuiltinCall "tuple.__new__" ⟨[.type "tuple", .ref a], []⟩; again (.builtin "tuple.__new__" ⟨[.type "tuple", .ref a], []⟩)) _ _ s
  refine wpAny_bind (wpAny_of_eq (F.newCall_tuple_1 _) (wpAny_pure ⟨plainId_quiet F.plain_tuple_new _, codeAny_builtin F.entry_tuple_new ?_⟩))
  rw [Around.under_plainId F.plain_tuple_new _]
  have hsub := sub_tuple_self
  have hinit := init_tuple_lookup
  have hmh := madeHere_tuple
  have hTI : s.TypeIs (.ref a) "generator" := hg.typeIs
  wp_walk using wpAny_typeOf hTI, collect_gx (A := A.in1) hh hroom hgen hg hl hS f hf (fun s0 s1 q => by obtain ⟨acc, c, e, _⟩ := hW s0 s1 q; exact ⟨acc, c, e⟩)
  intro s0 s1 s2 acc c hw sl e1
  obtain ⟨acc', c', e2, hz⟩ := hW s0 s1 hw
  rw [e1] at e2
  cases e2
  show wpAny _ _ (Builtin.Tuple.tupleExact acc.toList.toArray >>= fun v => ret v) _ _ _
  unfold Builtin.Tuple.tupleExact
  refine wpAny_bind (wpAny_newObj_type ?_ (by show acc.toList.toArray.size ≤ sizeLine; simp only [Array.toArray_toList]; exact hz))
  refine wpAny_pure ?_
  rw [show acc.toList.toArray = acc by simp]
  exact h s0 s1 s2 acc c hw sl e1
theorem call_tuple_gx {Q : Value → Shared → Prop} (hh : A.handled = none) (hroom : A.depth < recursionLimit) (hgen : ∀ s0 s1 v, s0.heap.IsGen a g → g < s0.gens.size → Em s0 v s1 → s1.heap.IsGen a g ∧ s1.heap.NoLimit ∧ g < s1.gens.size) (hg : s.heap.IsGen a g) (hl : s.heap.NoLimit)
    (hS : ∀ s0 v s1, Em s0 v s1 → ∃ acc c, s1.heap.get? s.heap.objs.size = some (lstO acc c) ∧ acc.size < sizeLine) (f : Nat) (hf : ∀ s3, Laid s s3 → GSt prog w A.in4 a g (some s.heap.objs.size) (fun _ => True) Wh Em f s3)
    (hW : ∀ s0 s1, Wh s0 s1 → ∃ acc c, s1.heap.get? s.heap.objs.size = some (lstO acc c) ∧ acc.size ≤ sizeLine)
    (hQ : ∀ s0 s1 s2 acc c, Wh s0 s1 → Slp none .none s1 s2 → s1.heap.get? s.heap.objs.size = some (lstO acc c) → Q (.ref s2.heap.objs.size) { s2 with heap := s2.heap.push { cls := .type "tuple", data := .seq acc } }) :
    wpAny (model prog w) A (call (.type "tuple") [.ref a]) Q E s := by
  refine callType_codes (Q₁ := fun obj s₁ => s₁.TypeIs obj "tuple" ∧ Q obj s₁) F.called_tuple (F.typeCall_tuple_1 _) F.entry_object_init
    (tuple_new_gx (A := A.in1) hh hroom hgen hg hl hS f hf hW fun s0 s1 s2 acc c hw sl e => ⟨⟨_, Heap.get?_push_size _ rfl, rfl⟩, hQ s0 s1 s2 acc c hw sl e⟩) fun obj s₁ h₁ => ?_
  exact ⟨h₁.1, F.args_object_init_2 obj _, object_init_meets F.called_tuple.init.lookup F.called_tuple.made (by decide) prog w A.in1 _ s₁ ⟨h₁.1, rfl, h₁.2⟩⟩
end
end GX
/-! A generator expression whose consumer fills a list. -/
namespace GX
open PySem PySem.Spec PyProof.Rows L2
section
variable {X : Cx} {pins : List (Addr × Obj)} {σ : L2.St} {H2 : Hp} {scope : Scope} {own : List (Str × Nat)} {elt tg iter : Expr} {ifs : List Expr} {gpos : Pos} {J : It} {it : Addr} {fp : List Addr} {tn : Nat → Heap → Prop} {a : Addr} {og : Obj} {g : Nat} {code : Value} {s3 s5 s6 : Shared} {A0 : Around}
/-- its context when it is asked from around A0 -/
abbrev cxB (X : Cx) (A0 : Around) (elt tg iter : Expr) (ifs : List Expr) (scope : Scope) (gpos : Pos) (it : Addr) (s : Shared) (H : Hp) (C : Addr) (code : Value) (fp : List Addr) : Cx :=
  cxG X (A0.over (gLoop elt tg iter ifs scope gpos (.ref it) (gEnv X scope C code)) []) s H (gEnv X scope C code) fp
theorem fresh_gxS {gT : TG} {tt : TT} {te : TE} {Go : Value → Prop} {Gv : V → Prop} {Qe : List V → Hp → Prop} {Ym : List V → V → Hp → Prop} {W : Nat → Nat → List V → Hp → Prop} {m0 : Nat} (hc : X.calm = true) (hA0 : A0.frames = X.A.frames) (hh : A0.handled = none) (co : scope.isCoroutine = false) (M : Made X pins σ H2 scope own elt tg iter ifs gpos J it fp tn a og g code s3 s5) (L : Laid s5 s6)
    (pg : PG (cxB X A0 elt tg iter ifs scope gpos it s3 H2 s3.heap.objs.size code fp) tg gT) (pt : PTs (cxB X A0 elt tg iter ifs scope gpos it s3 H2 s3.heap.objs.size code fp) ifs tt) (pe : PE (cxB X A0 elt tg iter ifs scope gpos it s3 H2 s3.heap.objs.size code fp) elt te) (hGo : ∀ y v, RelV y v → Go v → Gv y)
    (w0 : W 0 m0 [] H2) (turn : ∀ i m ys H, W i m ys H → (J.stop i H ∧ Qe ys H) ∨ (J.go i H ∧ ∃ Nx : List V → Hp → Prop, (∀ ys H', Nx ys H' → ∃ m', m' < m ∧ W (i + 1) m' ys H') ∧ ∀ x H', J.yld i H x H' → gT x (wipe σ (own.map (·.2))) H' fun σ2 H2 => wipe σ2 (own.map (·.2)) = wipe σ (own.map (·.2)) ∧ tt σ2 H2 fun b H3 =>
      if b = true then te σ2 H3 fun y H4 => Ym ys y H4 ∧ (Gv y → Nx (ys ++ [y]) H4) else Nx ys H3)) :
    GSt X.prog X.w A0 a g (some s5.heap.objs.size) Go (WhG (cxB X A0 elt tg iter ifs scope gpos it s3 H2 s3.heap.objs.size code fp) (a, og) (wipe σ (own.map (·.2))) (some s5.heap.objs.size) Qe) (EmG (cxB X A0 elt tg iter ifs scope gpos it s3 H2 s3.heap.objs.size code fp) (a, og) g (some s5.heap.objs.size) Ym) (m0 + 1) s6 := by
  have GI := M.ginv (A0.over (gLoop elt tg iter ifs scope gpos (.ref it) (gEnv X scope s3.heap.objs.size code)) []) (over_frames (hA0.trans M.inv.ok.frames)) hh
  have lta : a < s5.heap.objs.size := let ⟨_, _, _, ho, _⟩ := M.is; Heap.lt_size ho
  have ltL : s3.heap.objs.size < s5.heap.objs.size := GI.lt
  have AP : Apt (cxB X A0 elt tg iter ifs scope gpos it s3 H2 s3.heap.objs.size code fp) (a, og) fp (some s5.heap.objs.size) := by
    refine ⟨fun b e => ?_, fun b e => ?_, fun b e q => ?_⟩ <;> obtain rfl := Option.some.inj e
    · refine ⟨Nat.le_of_lt ltL, Nat.ne_of_gt ltL, fun x c e z => ?_⟩
      obtain ⟨v, q⟩ := GI.cell x c e
      exact Nat.ne_of_lt q.lt z
    · exact Nat.ne_of_gt lta
    · exact absurd (Nat.lt_trans (M.fps _ q).2 ltL) (Nat.lt_irrefl _)
  have hg6 := M.gen
  rw [← L.gens] at hg6
  refine ⟨M.is.keeps fun b o e => L.slp.keep b o (fun q => nomatch q) e, (slept GI L.slp).nolimit, _, hg6, fun s' sl => ⟨rfl, ?_⟩⟩
  have I6 := slept (slept GI L.slp) sl
  obtain ⟨c0, hc0⟩ := L.at_
  have hS' := sl.keep _ _ (fun q => nomatch q) hc0
  have st1 : tn 0 s'.heap := M.turn.keep _ _ _ (M.turn.keep _ _ _ M.st fun b _ o e => L.slp.keep b o (fun q => nomatch q) e) fun b _ o e => sl.keep b o (fun q => nomatch q) e
  have hJ : JG (cxB X A0 elt tg iter ifs scope gpos it s3 H2 s3.heap.objs.size code fp) (a, og) g (wipe σ (own.map (·.2))) fp tn (some s5.heap.objs.size) W s' m0 s' := by
    refine ⟨Nat.lt_of_lt_of_le ?_ (Nat.le_trans L.slp.gz sl.gz), 0, [], [(s5.heap.objs.size, lstO #[] c0), (a, og)], H2, ⟨#[], c0, .nil, rfl⟩, I6.pins_of fun p hp => ?_, st1, fun b hb => (M.fps b hb).1.1, w0⟩
    · rcases Nat.lt_or_ge g s5.gens.size with q | q
      · exact q
      · have z := M.gen
        rw [Array.getElem?_eq_none q] at z
        cases z
    · rcases List.mem_cons.mp hp with rfl | hp
      · exact ⟨hS', GI.hok.fresh (Nat.le_refl _), Nat.ne_of_gt ltL, GI.nofs (Nat.le_refl _), fun v z => by cases z⟩
      · exact I6.pin p (List.mem_append_right _ hp)
  have loop := seg_gx (prog := X.prog) (w := X.w) (A := A0) (elt := elt) (tgt := tg) (iter := iter) (ifs := ifs) (scope := scope) (pos := gpos) (it := .ref it) (cenv := gEnv X scope s3.heap.objs.size code) (S := some s5.heap.objs.size) (Go := Go)
    (J := JG (cxB X A0 elt tg iter ifs scope gpos it s3 H2 s3.heap.objs.size code fp) (a, og) g (wipe σ (own.map (·.2))) fp tn (some s5.heap.objs.size) W) (Wh := WhG (cxB X A0 elt tg iter ifs scope gpos it s3 H2 s3.heap.objs.size code fp) (a, og) (wipe σ (own.map (·.2))) (some s5.heap.objs.size) Qe) (Em := EmG (cxB X A0 elt tg iter ifs scope gpos it s3 H2 s3.heap.objs.size code fp) (a, og) g (some s5.heap.objs.size) Ym) co
    (fun s0 n s hJ => turn_gx (XG := cxB X A0 elt tg iter ifs scope gpos it s3 H2 s3.heap.objs.size code fp) (ag := (a, og)) (g := g) (fp := fp) (iter := iter) (vs := own.map (·.2)) hc rfl rfl rfl M.ne AP M.turn pg pt pe hGo (wipe_idem σ _) turn s0 n s hJ) m0 (m0 + 1) s' s' hJ (Nat.lt_succ_self _)
  show Seg _ A0 _ _ _ s' _ ((compStart (.GeneratorExp elt [⟨tg, iter, ifs, 0⟩] scope gpos) 0 (.ref it) .none (gEnv X scope s3.heap.objs.size code)).onRaise (leaving (gEnv X scope s3.heap.objs.size code))) [] s'
  unfold compStart
  rw [Sem.onRaise_eq_wrap]
  show Seg _ A0 _ _ _ s' _ ((ask >>= _).wrap _ _ _ _) [] s'
  refine seg_bind_wrap (wpAny_askSetting ?_)
  split
  · exact seg_again rfl loop
  · first
      | exact seg_bind_wrap (wpAny_rule (seg_bind_wrap (wpAny_standAt (seg_bind_wrap (M.turn.self _ 0 s' _ _ st1 (seg_again rfl loop))))))
      | (refine seg_bind_wrap (wpAny_rule ?_); show Seg _ A0 _ _ _ s' _ ((standAt iter.pos >>= _).wrap _ _ _ _) [] s'; exact seg_bind_wrap (wpAny_standAt (seg_bind_wrap (M.turn.self _ 0 s' _ _ st1 (seg_again rfl loop)))))
end
end GX
/-! tuple of a generator expression, hand layer. -/
namespace GX
open PySem PySem.Spec PyProof.Rows L2 TBx
theorem over_room4 {k : Nat} {A : Around} {elt tgt iter : Expr} {ifs : List Expr} {scope : Scope} {pos : Pos} {it : Value} {cenv : PySem.Env} (r : Room (k + 4) A) : Room k (A.in4.over (gLoop elt tgt iter ifs scope pos it cenv) []) := by
  refine ⟨r.hd, ?_, ?_⟩
  · have := r.dp
    show A.depth + 0 + 1 + 3 * k + 5 < _
    omega
  · have := r.un
    show A.units + 1 + 1 + 1 + 1 + 0 + 3 + 16 * k + 200 < _
    omega
theorem back_gxP {X : Cx} {pins : List (Addr × Obj)} {σ : L2.St} {H2 : Hp} {scope : Scope} {own : List (Str × Nat)} {elt tg iter : Expr} {ifs : List Expr} {gpos : Pos} {J : It} {it : Addr} {fp : List Addr} {tn : Nat → Heap → Prop} {a : Addr} {og : Obj} {g : Nat} {code : Value} {s3 s5 : Shared} {pl : List (Addr × Obj)} {σ' : L2.St} {H' : Hp} {s1 s2 : Shared} {v : Value} {A1 : Around} {cenv : PySem.Env} (M : Made X pins σ H2 scope own elt tg iter ifs gpos J it fp tn a og g code s3 s5) (I : Inv (cxG X A1 s3 H2 cenv fp) pl σ' H' s1) (sl : Slp none v s1 s2) : Inv X pins σ H' s2 :=
  slept (M.inv.call' (ch := fp) I.os I.base I.hok I.bare fun b hb => ⟨(M.fps b hb).1.2.2.2.1, (M.fps b hb).1.2.1, (M.fps b hb).1.2.2.2.2.1, (M.fps b hb).1.2.2.2.2.2⟩) sl
/-- tuple(elt for t in e if ..); the def's table at P may have grown behind it -/
def tTupG (P : Addr) (wi : TI) (gT : TG) (tt : TT) (te : TE) (vs : List Nat) : TE := fun σ H Q => wi σ H fun J H1 => Tb H1 P ∧ ∀ H2, Grw H1 H2 → ∃ W : Nat → Nat → List V → Hp → Prop, (∃ m, W 0 m [] H2) ∧ ∀ i m ys H, W i m ys H →
  (J.stop i H ∧ ys.length ≤ sizeLine ∧ ∀ p, H p = none → Q (.ref p) (upd H p (.tup ys))) ∨ (J.go i H ∧ ∃ Nx : List V → Hp → Prop, (∀ ys H', Nx ys H' → ∃ m', m' < m ∧ W (i + 1) m' ys H') ∧ ∀ x H', J.yld i H x H' → gT x (wipe σ vs) H' fun σ2 H2 => wipe σ2 vs = wipe σ vs ∧ tt σ2 H2 fun b H3 =>
    if b = true then te σ2 H3 fun y H4 => ys.length < sizeLine ∧ (True → Nx (ys ++ [y]) H4) else Nx ys H3)
theorem pe_tupleG {X : Cx} {c P : Addr} {elt tg iter : Expr} {ifs : List Expr} {scope : Scope} {own : List (Str × Nat)} {p pos gpos : Pos} {wi : TI} {gT : TG} {tt : TT} {te : TE} {k : Nat}
    (hc : X.calm = true) (nod : X.N.Nodup) (hr : Room (k + 4) X.A) (hg : Gl X "tuple") (hm : X.mg "tuple" = none) (hb : bootBuiltins "tuple" = some (.type "tuple")) (TB : GxR.TabB X.base X.mg c P) (hcode : X.env.code = .ref c) (co : scope.isCoroutine = false) (ok : BlkOk X.N X.env.scope scope own) (ncell : ∀ y ∈ scope.names, y.2 ≠ .cell) (dot : scope.names.lookup (".0" : Str) = some NameKind.local)
    (hi : PI X tg iter wi) (pg : ∀ it s H C code fp, PG (cxB X X.A.in4 elt tg iter ifs scope gpos it s H C code fp) tg gT) (pt : ∀ it s H C code fp, PTs (cxB X X.A.in4 elt tg iter ifs scope gpos it s H C code fp) ifs tt) (pe : ∀ it s H C code fp, Room k (cxB X X.A.in4 elt tg iter ifs scope gpos it s H C code fp).A → PE (cxB X X.A.in4 elt tg iter ifs scope gpos it s H C code fp) elt te)
    (hs : ∀ v, genFold iter X.env v = pure v := by intro _; rfl)
    (he : starEach [.GeneratorExp elt [⟨tg, iter, ifs, 0⟩] scope gpos] X.env = (false, eval (.GeneratorExp elt [⟨tg, iter, ifs, 0⟩] scope gpos) X.env) :: starEach [] X.env := by rfl) (hpl : (backTo pos (starEach [] X.env)).any (·.1) = false := by rfl) :
    PE X (.Call (.Name "tuple" p) [.GeneratorExp elt [⟨tg, iter, ifs, 0⟩] scope gpos] [] pos) (tTupG P wi gT tt te (own.map (·.2))) := by
  refine ⟨fun pins s σ H Q I h => ?_⟩
  refine wpAny_Call_Name_kw (ld_blt I hg hm hb ?_)
  refine PyProof.Rows.callWith_type1 ?_ he hpl
  rw [he]
  show wpAny _ _ (spliced ((false, eval (.GeneratorExp elt [⟨tg, iter, ifs, 0⟩] scope gpos) X.env) :: backTo pos (starEach [] X.env))) _ _ s
  refine Calls.spliced_cons (gen_core nod (by have := hr.dp; omega) TB hcode co ok ncell dot hi hs I h (fun _ _ _ I _ => TB.code.keeps fun b u e => I.bk b u e) fun J H1 H2 it fp tn a og g code s3 s5 hR hT M => ?_)
  obtain ⟨W, ⟨m0, w0⟩, turn⟩ := hR H2 hT
  refine Calls.spliced_nil ?_
  have GF := fun s6 (L : Laid s5 s6) => fresh_gxS (gpos := gpos) (iter := iter) (A0 := X.A.in4) (Go := fun _ => True) (Gv := fun _ => True) (Qe := fun ys H => ys.length ≤ sizeLine ∧ ∀ p, H p = none → Q (.ref p) (upd H p (.tup ys))) (Ym := fun ys y H => ys.length < sizeLine) hc rfl hr.hd co M L (pg it s3 H2 s3.heap.objs.size code fp) (pt it s3 H2 s3.heap.objs.size code fp) (pe it s3 H2 s3.heap.objs.size code fp (over_room4 hr)) (fun _ _ _ _ => trivial) (W := W) w0 turn
  have GI := M.ginv (X.A.in4.over (gLoop elt tg iter ifs scope gpos (.ref it) (gEnv X scope s3.heap.objs.size code)) []) (over_frames (show X.A.in4.frames = _ from M.inv.ok.frames)) hr.hd
  refine call_tuple_gx (g := g) hr.hd (by have := hr.dp; omega) (fun s0 s1 v _ _ hE => ?_) M.is GI.nolimit (fun s0 v s1 hE => ?_) _ GF (fun s0 s1 hW => ?_) (fun s0 s1 s2 acc c hW sl e => ?_)
  · obtain ⟨gz, y, ys, pl, σ', H', ⟨acc, c, hv, rfl⟩, r, IG, _⟩ := hE
    obtain ⟨nm, qn, c1, c2, c3⟩ := M.isO
    exact ⟨⟨og, nm, qn, (IG.pin (a, og) (List.mem_append_right _ (List.mem_cons_of_mem _ List.mem_cons_self))).1, c1, c2, c3⟩, IG.nolimit, gz⟩
  · obtain ⟨_, y, ys, pl, σ', H', ⟨acc, c, hv, rfl⟩, r, IG, q⟩ := hE
    exact ⟨acc, c, (IG.pin (_, lstO acc c) (List.mem_append_right _ List.mem_cons_self)).1, by have := hv.length; simp only [Array.length_toList] at this; omega⟩
  · obtain ⟨ys, pl, H', ⟨acc, c, hv, rfl⟩, IG, q⟩ := hW
    exact ⟨acc, c, (IG.pin (_, lstO acc c) (List.mem_append_right _ List.mem_cons_self)).1, by have := hv.length; have := q.1; simp only [Array.length_toList] at *; omega⟩
  · obtain ⟨ys, pl, H', ⟨acc', c', hv, rfl⟩, IG, q⟩ := hW
    have e1 := (IG.pin (_, lstO acc' c') (List.mem_append_right _ List.mem_cons_self)).1
    have e2 : lstO acc c = lstO acc' c' := Option.some.inj (e.symm.trans e1)
    have e3 : acc = acc' := by
      have z : (lstO acc c).data = (lstO acc' c').data := by rw [e2]
      injection z
    subst e3
    have I2 := back_gxP M IG sl
    have hf : H' s2.heap.objs.size = none := I2.hok.fresh (Nat.le_refl _)
    refine ⟨.ref s2.heap.objs.size, upd H' s2.heap.objs.size (.tup ys), I2.laid (t' := s2.toks) (fun b u e => Heap.get?_push_of_some _ e) (Nat.le_refl _) ?_, rfl, q.2 _ hf⟩
    exact ⟨q.1, acc.toList, hv, ⟨_, Heap.get?_push_size _ rfl, rfl, 0, by first | rfl | simp [Array.toArray_toList] | exact ⟨_, rfl⟩⟩⟩
end GX
/-! all, any of generator expressions, on data. -/
namespace Dd
open PySem L2
variable {c : Cc} {Z H : Hp} {σ : L2.St}
/-- w = true: all; w = false: any -/
def qLoop (w : Bool) (t : Tg) (test : DT) (elt : DE) (vs : List Nat) : List D → Bool → Dd.Env → Res Bool
  | [], eff, ρ => .ok true w eff ρ
  | d :: ds, eff, ρ => match t d ρ with
    | none => .bad
    | some ρ1 => match test ρ1 with
      | .ok _ true e1 ρ2 => (match elt ρ2 with
        | .ok _ (.bl k) e2 ρ3 => if k = w then qLoop w t test elt vs ds (eff || e1 || e2) (wipeE ρ3 vs) else .ok true k (eff || e1 || e2) (wipeE ρ3 vs)
        | _ => .bad)
      | .ok _ false e1 ρ2 => qLoop w t test elt vs ds (eff || e1) (wipeE ρ2 vs)
      | _ => .bad
def dQ (w : Bool) (it : DI) (t : Tg) (test : DT) (elt : DE) (vs : List Nat) : DE := fun ρ => match it ρ with
  | .ok _ ds e ρ1 => (match qLoop w t test elt vs ds false (wipeE ρ1 vs) with
    | .ok _ b eff ρ2 => .ok true (.bl b) (e || eff) (if eff = true then ρ2 else ρ1)
    | _ => .bad)
  | .ex c xs ρ1 => .ex c xs ρ1
  | .bad => .bad
theorem New.grw {Z H H2 : Hp} (zh : Ex Z H) (nt : NoT Z) (g : TBx.Grw H H2) : New Z H Z H2 :=
  ⟨Ex.refl _, ⟨g.fr, g.tg, g.dm⟩, fun a o h => g.fr a o (zh a o h) fun ps z => nt a ps (by rw [h, z]), fun _ _ => rfl, fun q xs h => .inl (g.nt q xs h), fun _ _ h => h⟩
def tQG (w : Bool) (P : Addr) (wi : TI) (gT : TG) (tt : TT) (te : TE) (vs : List Nat) : TE := fun σ H Q => wi σ H fun J H1 => TBx.Tb H1 P ∧ ∀ H2, TBx.Grw H1 H2 → ∃ W : Nat → Nat → Hp → Prop, (∃ m, W 0 m H2) ∧ ∀ i m H, W i m H →
  (J.stop i H ∧ Q (.bl w) H) ∨ (J.go i H ∧ ∃ Nx : Hp → Prop, (∀ H', Nx H' → ∃ m', m' < m ∧ W (i + 1) m' H') ∧ ∀ x H', J.yld i H x H' → gT x (wipe σ vs) H' fun σ2 H2 => wipe σ2 vs = wipe σ vs ∧ tt σ2 H2 fun b H3 =>
    if b = true then te σ2 H3 fun y H4 => (∃ k, y = .bl k ∧ (k = (!w) → Q (.bl (!w)) H4)) ∧ (y = .bl w → Nx H4) else Nx H3)
theorem q_imp {w0 : Bool} {P : Addr} {it : DI} {t : Tg} {test : DT} {elt : DE} {vs : List Nat} {g : TG} {Q : VK} (hP : P ∈ c.G.tb) (hg : TgOk c.G c.lk g t) (hin : TgIn g t vs) (hl : ∀ v ∈ vs, lkOk c.lk v = true) (w : tE c (dQ w0 it t test elt vs) σ H Q) :
    tQG w0 P (tI c it) g (tT c.in test) (tE c.in elt) vs σ H Q := by
  obtain ⟨Z, ρ, F, S, w⟩ := w
  generalize hr : dQ w0 it t test elt vs ρ = r at w
  unfold dQ at hr
  show tI c it σ H _
  split at hr
  · rename_i f ds eff ρ1 ha
    refine ⟨Z, ρ, F, S, ?_⟩
    rw [ha]
    intro Z1 H1 F1 Gk J P1 fk dk io
    refine ⟨(P1.sta.tb.1 P hP).1, fun H1' tbd => ?_⟩
    split at hr
    · rename_i f2 b2 eff2 ρ2 hlc
      subst hr
      have n0 := New.grw P1.sta.zh P1.sta.tb.2.2 tbd
      obtain ⟨Fw, Sw, subw⟩ := P1.sta.wipe hl
      -- the end, in the def's own slots
      have fin : ∀ {Z2 H2 : Hp} {ρi : Dd.Env} {F2 : List Addr} {effi : Bool}, State c.G c.lk Z2 H2 (wipe σ vs) ρi F2 → Step Z1 H1 F1 Z2 H2 F2 → (effi = false → ρi = wipeE ρ1 vs ∧ New Z1 H1 Z2 H2) → (∀ (i : Nat) (d : D), ρi[i]? = some (some d) → i ∉ vs) → eff2 = effi → ρ2 = ρi → Q (.bl b2) H2 := by
        intro Z2 H2 ρi F2 effi S2 st2 qa hw h1 h2
        subst h1 h2
        cases eff2 with
        | true =>
          simp only [if_true] at w
          have S4 : State c.G c.lk Z2 H2 σ ρ2 F2 := ⟨S2.zh, S2.rs.unwipe (wipe_length σ vs) fun j d e => (wipe_ne (hw j d e)).symm, S2.nd, S2.fz, P1.sta.lk, S2.tb⟩
          exact w Z2 H2 F2 _ [] ⟨P1.st.trans st2, S4, fun q => by rw [Bool.or_true] at q; cases q⟩ ⟨rfl, rfl⟩ fun _ => Fresh.nil
        | false =>
          obtain ⟨q1, q2⟩ := qa rfl
          simp only [Bool.false_eq_true, if_false] at w
          exact w Z2 H2 F1 _ [] (P1.trans (PostE.new P1.sta q2)) ⟨rfl, rfl⟩ fun _ => Fresh.nil
      let W : Nat → Nat → Hp → Prop := fun i m H2 => m = ds.length - i ∧ i ≤ ds.length ∧ ∃ Z2 ρi F2 effi, State c.G c.lk Z2 H2 (wipe σ vs) ρi F2 ∧ Step Z1 H1 F1 Z2 H2 F2 ∧ (effi = false → ρi = wipeE ρ1 vs ∧ New Z1 H1 Z2 H2) ∧ qLoop w0 t test elt vs (ds.drop i) effi ρi = .ok f2 b2 eff2 ρ2 ∧ (∀ (i : Nat) (d : D), ρi[i]? = some (some d) → i ∉ vs)
      refine ⟨W, ⟨ds.length, rfl, Nat.zero_le _, Z1, wipeE ρ1 vs, Fw, false, Sw.new n0, (n0.step (F := F1)).sub fun a ha => .inl (subw.subset ha), fun _ => ⟨rfl, n0⟩, hlc, fun i d e => wipeE_some e⟩, ?_⟩
      rintro i m H2 ⟨hm, hi, Z2, ρi, F2, effi, S2, st2, qa, hloop, hw⟩
      have kept : ∀ a ∈ Gk, ∀ o, H1 a = some o → (∀ ps, o ≠ .tbl ps) → H2 a = some o := fun a ha o e => st2.fr a o e (fk.nf a ha)
      by_cases hlt : i < ds.length
      · obtain ⟨go, yl⟩ := io.go Z2 H2 st2.zz S2.zh kept i _ (List.getElem?_eq_getElem hlt)
        rw [List.drop_eq_getElem_cons hlt] at hloop
        refine .inr ⟨go, fun H' => W (i + 1) (ds.length - (i + 1)) H', fun H' n => ⟨_, by omega, n⟩, fun x H3 hy => ?_⟩
        obtain ⟨Z3, n3, r3⟩ := yl x H3 hy S2.tb.2.1
        cases ht : t ds[i] ρi with
        | none => simp only [qLoop, ht, reduceCtorEq] at hloop
        | some ρ3 =>
          simp only [qLoop, ht] at hloop
          refine hin.tg x σ H3 _ ?_
          refine hg Z3 H3 _ ρi ρ3 F2 _ x _ (S2.new n3) r3 ht fun σ3 F3 S3 h3 => ?_
          intro hwσ
          have st3 : Step Z1 H1 F1 Z3 H3 F3 := (st2.trans n3.step).sub fun a h => .inl (h3 a h)
          cases htt : test ρ3 with
          | bad => simp only [htt, reduceCtorEq] at hloop
          | ex x xs ρ4 => simp only [htt, reduceCtorEq] at hloop
          | ok ft b e1 ρ4 =>
            refine tT.ok (c := c.in) S3 htt fun Z4 H4 F4 P4 => ?_
            have st4 : Step Z1 H1 F1 Z4 H4 F4 := st3.trans P4.st
            have quiet4 : effi = false → e1 = false → wipeE ρ4 vs = wipeE ρ1 vs ∧ New Z1 H1 Z4 H4 ∧ ρ4 = ρ3 := fun h1 h2 => by
              obtain ⟨q1, q2⟩ := qa h1
              obtain ⟨p1, p2, p3⟩ := P4.qui h2
              exact ⟨by rw [p1, hin.te _ _ _ ht, q1, wipeE_idem], (q2.trans n3).trans p3, p1⟩
            cases b with
            | false =>
              rw [if_neg Bool.false_ne_true]
              simp only [htt] at hloop
              obtain ⟨F5, S5, sub5⟩ := P4.sta.wipe (vs := vs) hl
              rw [hwσ] at S5
              exact ⟨rfl, hlt, Z4, wipeE ρ4 vs, F5, (effi || e1), S5, st4.sub fun a h => .inl (sub5.subset h), fun h => by
                rw [Bool.or_eq_false_iff] at h
                obtain ⟨q1, q2, _⟩ := quiet4 h.1 h.2
                exact ⟨q1, q2⟩, hloop, fun i d e => wipeE_some e⟩
            | true =>
              rw [if_pos rfl]
              simp only [htt] at hloop
              cases he : elt ρ4 with
              | bad => simp only [he, reduceCtorEq] at hloop
              | ex x xs ρ5 => simp only [he, reduceCtorEq] at hloop
              | ok fe x e2 ρ5 =>
                simp only [he] at hloop
                cases x with
                | bl k =>
                  refine tE.ok (c := c.in) P4.sta he fun Z5 H5 F5 y G5 P5 R5 f5h => ?_
                  obtain ⟨rfl, _⟩ := R5
                  have st5 : Step Z1 H1 F1 Z5 H5 F5 := st4.trans P5.st
                  obtain ⟨F6, S6, sub6⟩ := P5.sta.wipe (vs := vs) hl
                  rw [hwσ] at S6
                  have st6 : Step Z1 H1 F1 Z5 H5 F6 := st5.sub fun a h => .inl (sub6.subset h)
                  have quiet5 : (effi || e1 || e2) = false → wipeE ρ5 vs = wipeE ρ1 vs ∧ New Z1 H1 Z5 H5 := fun h => by
                    rw [Bool.or_eq_false_iff, Bool.or_eq_false_iff] at h
                    obtain ⟨q1, q2, _⟩ := quiet4 h.1.1 h.1.2
                    obtain ⟨p1, p2, p3⟩ := P5.qui h.2
                    exact ⟨by rw [p1, q1], q2.trans p3⟩
                  by_cases hk : k = w0
                  · simp only [if_pos hk] at hloop
                    subst hk
                    refine ⟨⟨k, rfl, fun z => by cases k <;> cases z⟩, fun _ => ?_⟩
                    exact ⟨rfl, hlt, Z5, wipeE ρ5 vs, F6, (effi || e1 || e2), S6, st6, quiet5, hloop, fun i d e => wipeE_some e⟩
                  · simp only [if_neg hk] at hloop
                    obtain ⟨rfl, rfl, rfl, rfl⟩ := Res.ok.inj hloop
                    refine ⟨⟨k, rfl, fun z => ?_⟩, fun z => absurd (V.bl.inj z) hk⟩
                    subst z
                    exact fin S6 st6 quiet5 (fun i d e => wipeE_some e) rfl rfl
                | _ => simp only [reduceCtorEq] at hloop
      · have ei : i = ds.length := by omega
        subst ei
        refine .inl ⟨io.stop Z2 H2 st2.zz S2.zh kept, ?_⟩
        rw [List.drop_length] at hloop
        simp only [qLoop, Res.ok.injEq] at hloop
        obtain ⟨rfl, rfl, rfl, rfl⟩ := hloop
        exact fin S2 st2 qa hw rfl rfl
    · subst hr; exact w.elim
  · rename_i ha
    subst hr
    exact ⟨Z, ρ, F, S, by rw [ha]; exact w⟩
  · subst hr; exact w.elim
theorem e_allG {X : Cx} {cd P : Addr} {elx tg iter : Expr} {ifs : List Expr} {scope : Scope} {own : List (Str × Nat)} {p pos gpos : Pos} {it : DI} {t : Tg} {test : DT} {elt : DE} {g : TG} {k : Nat}
    (hc : X.calm = true) (nod : X.N.Nodup) (hr : Room (k + 2) X.A) (hg : Gl X "all") (hm : X.mg "all" = none) (TB : GxR.TabB X.base X.mg cd P) (hP : P ∈ c.G.tb) (hcode : X.env.code = .ref cd) (ok : BlkOk X.N X.env.scope scope own) (ncell : ∀ y ∈ scope.names, y.2 ≠ .cell)
    (hi : PI X tg iter (tI c it)) (pg : ∀ it s H C code fp, PG (GX.cxA X elx tg iter ifs scope gpos it s H C code fp) tg g) (htg : TgOk c.G c.lk g t) (hin : TgIn g t (own.map (·.2))) (pt : ∀ it s H C code fp, PTs (GX.cxA X elx tg iter ifs scope gpos it s H C code fp) ifs (tT c.in test))
    (pe : ∀ it s H C code fp, Room k (GX.cxA X elx tg iter ifs scope gpos it s H C code fp).A → PE (GX.cxA X elx tg iter ifs scope gpos it s H C code fp) elx (tE c.in elt)) (hl : (own.map (·.2)).all (lkOk c.lk) = true := by rfl)
    (co : scope.isCoroutine = false := by rfl) (dot : scope.names.lookup (".0" : Str) = some NameKind.local := by rfl) (hs : ∀ v, genFold iter X.env v = pure v := by intro _; rfl)
    (he : starEach [.GeneratorExp elx [⟨tg, iter, ifs, 0⟩] scope gpos] X.env = (false, eval (.GeneratorExp elx [⟨tg, iter, ifs, 0⟩] scope gpos) X.env) :: starEach [] X.env := by rfl) :
    PE X (.Call (.Name "all" p) [.GeneratorExp elx [⟨tg, iter, ifs, 0⟩] scope gpos] [] pos) (tE c (dQ true it t test elt (own.map (·.2)))) :=
  (GX.pe_allG hc nod hr hg hm bb_all TB hcode co ok ncell dot hi pg pt pe hs he).imp fun σ H Q w => q_imp (w0 := true) hP htg hin (List.all_eq_true.mp hl) w
theorem e_anyG {X : Cx} {cd P : Addr} {elx tg iter : Expr} {ifs : List Expr} {scope : Scope} {own : List (Str × Nat)} {p pos gpos : Pos} {it : DI} {t : Tg} {test : DT} {elt : DE} {g : TG} {k : Nat}
    (hc : X.calm = true) (nod : X.N.Nodup) (hr : Room (k + 2) X.A) (hg : Gl X "any") (hm : X.mg "any" = none) (TB : GxR.TabB X.base X.mg cd P) (hP : P ∈ c.G.tb) (hcode : X.env.code = .ref cd) (ok : BlkOk X.N X.env.scope scope own) (ncell : ∀ y ∈ scope.names, y.2 ≠ .cell)
    (hi : PI X tg iter (tI c it)) (pg : ∀ it s H C code fp, PG (GX.cxA X elx tg iter ifs scope gpos it s H C code fp) tg g) (htg : TgOk c.G c.lk g t) (hin : TgIn g t (own.map (·.2))) (pt : ∀ it s H C code fp, PTs (GX.cxA X elx tg iter ifs scope gpos it s H C code fp) ifs (tT c.in test))
    (pe : ∀ it s H C code fp, Room k (GX.cxA X elx tg iter ifs scope gpos it s H C code fp).A → PE (GX.cxA X elx tg iter ifs scope gpos it s H C code fp) elx (tE c.in elt)) (hl : (own.map (·.2)).all (lkOk c.lk) = true := by rfl)
    (co : scope.isCoroutine = false := by rfl) (dot : scope.names.lookup (".0" : Str) = some NameKind.local := by rfl) (hs : ∀ v, genFold iter X.env v = pure v := by intro _; rfl)
    (he : starEach [.GeneratorExp elx [⟨tg, iter, ifs, 0⟩] scope gpos] X.env = (false, eval (.GeneratorExp elx [⟨tg, iter, ifs, 0⟩] scope gpos) X.env) :: starEach [] X.env := by rfl) :
    PE X (.Call (.Name "any" p) [.GeneratorExp elx [⟨tg, iter, ifs, 0⟩] scope gpos] [] pos) (tE c (dQ false it t test elt (own.map (·.2)))) :=
  (GX.pe_anyG hc nod hr hg hm bb_any TB hcode co ok ncell dot hi pg pt pe hs he).imp fun σ H Q w => q_imp (w0 := false) hP htg hin (List.all_eq_true.mp hl) w
end Dd
/-! isinstance(x, (A, B)) on data. -/
namespace Dd
open PySem L2
def fIsiT (ns : List Ty) (x : D) : Option (Bool × D) := (tyD x).map fun t => (true, .bl (ns.any (isi t)))
def tTys : List Ty → TA
  | [] => tNil
  | n :: ns => tCons (tC (.ty n.nm)) (tTys ns)
theorem tTys_ok {σ : L2.St} {H : Hp} : ∀ (ns : List Ty) (Q : List V → Hp → Prop), Q (ns.map fun n => V.ty n.nm) H → tTys ns σ H Q
  | [], _, q => q
  | n :: ns, Q, q => tTys_ok ns (fun xs H2 => Q (.ty n.nm :: xs) H2) q
theorem kitAny_ty {K : PySem.W.Frag} (t : Ty) : ∀ ns : List Ty, PySem.W.kitAny K (.type t.nm) (ns.map fun n => Value.type n.nm) = some (ns.any (isi t))
  | [] => rfl
  | n :: ns => by
    have k : PySem.W.kitOne K (.type t.nm) (.type n.nm) = some (isi t n) := kit_ty (isi_kit t n)
    simp only [List.map_cons, PySem.W.kitAny, k, List.any_cons]
    cases isi t n with
    | true => rfl
    | false => simpa using kitAny_ty t ns
theorem paired_ty : ∀ ns : List Ty, Paired ClsV (ns.map fun n => V.ty n.nm) (ns.map fun n => Value.type n.nm)
  | [] => .nil
  | n :: ns => .cons (.ty _) (paired_ty ns)
theorem o_isiT {G : Gx} (ns : List Ty) : Op1 G (fun x H Q => ∀ p, H p = none → rIsiT G.K [x, .ref p] (upd H p (.tup (ns.map fun n => V.ty n.nm))) Q) (fIsiT ns) := fun Z H x v F1 fr z zh r1 hf Q k p hp => by
  unfold fIsiT at hf
  cases hb : tyD x with
  | none => rw [hb] at hf; cases hf
  | some t =>
    rw [hb] at hf
    simp only [Option.map_some, Option.some.injEq, Prod.mk.injEq] at hf
    obtain ⟨rfl, rfl⟩ := hf
    have n := New.fro (o := .tup (ns.map fun n => V.ty n.nm)) zh hp
    have r2 : Rep G (upd Z p (.tup (ns.map fun n => V.ty n.nm))) (upd H p (.tup (ns.map fun n => V.ty n.nm))) x v F1 := r1.mono n.zz fun a ha o e _ => upd_new hp e
    exact ⟨v, p, _, .type t.nm, _, ns.any (isi t), rfl, upd_same, paired_ty ns, tyD_rep n.zh r2 hb, kitAny_ty t ns, k _ _ (.bl _) [] n ⟨rfl, rfl⟩ fun _ => ⟨List.nodup_nil, by simp⟩⟩
theorem e_isiT {c : Cc} {X : Cx} {e : Expr} {ma : DE} (ns : List Ty) (h : PE X e (tCB (rIsiT c.G.K) (tCons (tE c ma) (tCons (tTup (tTys ns)) tNil)))) (hn : ns.length ≤ 8 := by decide) : PE X e (tE c (bind1 (fIsiT ns) ma)) := h.imp fun σ H Q w => by
  have w2 := bind1_imp (o_isiT ns) w
  obtain ⟨Z, ρ, F, S, w2⟩ := w2
  refine ⟨Z, ρ, F, S, ?_⟩
  cases hm : ma ρ with
  | bad => rw [hm] at w2; exact w2
  | ex x xs ρ1 => rw [hm] at w2; exact w2
  | ok f d e1 ρ1 =>
    rw [hm] at w2
    intro Z1 H1 F1 v Gf P r fr
    have q := w2 Z1 H1 F1 v Gf P r fr
    refine tTys_ok ns _ ⟨by rw [List.length_map]; exact Nat.le_trans hn (by decide), fun p np => q p np⟩
@[simp] theorem v_tTN (ns : List Ty) : fIsiT ns .non = some (true, .bl (ns.any (isi .non))) := rfl
@[simp] theorem v_tTB (ns : List Ty) (b : Bool) : fIsiT ns (.bl b) = some (true, .bl (ns.any (isi .bool))) := rfl
@[simp] theorem v_tTI (ns : List Ty) (b : Int) : fIsiT ns (.int b) = some (true, .bl (ns.any (isi .int))) := rfl
@[simp] theorem v_tTS (ns : List Ty) (b : Str) : fIsiT ns (.str b) = some (true, .bl (ns.any (isi .str))) := rfl
@[simp] theorem v_tTT (ns : List Ty) (o : Bool) (ds : List D) : fIsiT ns (.box o .tup ds) = some (true, .bl (ns.any (isi .tup))) := rfl
@[simp] theorem v_tTL (ns : List Ty) (o : Bool) (ds : List D) : fIsiT ns (.box o .lst ds) = some (true, .bl (ns.any (isi .lst))) := rfl
end Dd
/-! tuple of a generator expression, on data. -/
namespace Dd
open PySem L2
variable {c : Cc} {Z H : Hp} {σ : L2.St}
def dTg (it : DI) (t : Tg) (test : DT) (elt : DE) (vs : List Nat) : DE := fun ρ => match it ρ with
  | .ok _ ds e ρ1 => (match lcLoop t test elt vs ds [] false (wipeE ρ1 vs) with
    | .ok _ acc eff ρ2 => if acc.length ≤ 1000000 then .ok true (.box false .tup acc) (e || eff) (if eff = true then ρ2 else ρ1) else .bad
    | _ => .bad)
  | .ex c xs ρ1 => .ex c xs ρ1
  | .bad => .bad
theorem tg_imp {P : Addr} {it : DI} {t : Tg} {test : DT} {elt : DE} {vs : List Nat} {g : TG} {Q : VK} (hP : P ∈ c.G.tb) (hg : TgOk c.G c.lk g t) (hin : TgIn g t vs) (hl : ∀ v ∈ vs, lkOk c.lk v = true) (w : tE c (dTg it t test elt vs) σ H Q) :
    GX.tTupG P (tI c it) g (tT c.in test) (tE c.in elt) vs σ H Q := by
  obtain ⟨Z, ρ, F, S, w⟩ := w
  generalize hr : dTg it t test elt vs ρ = r at w
  unfold dTg at hr
  show tI c it σ H _
  split at hr
  · rename_i f ds eff ρ1 ha
    refine ⟨Z, ρ, F, S, ?_⟩
    rw [ha]
    intro Z1 H1 F1 Gk J P1 fk dk io
    refine ⟨(P1.sta.tb.1 P hP).1, fun H1' tbd => ?_⟩
    split at hr
    · rename_i f2 acc eff2 ρ2 hlc
      rcases Decidable.em (acc.length ≤ 1000000) with hacc | hacc
      rotate_left
      · rw [if_neg hacc] at hr
        subst hr
        exact w.elim
      rw [if_pos hacc] at hr
      subst hr
      have n0 := New.grw P1.sta.zh P1.sta.tb.2.2 tbd
      obtain ⟨Fw, Sw, subw⟩ := P1.sta.wipe hl
      let W : Nat → Nat → List V → Hp → Prop := fun i m accv H2 => m = ds.length - i ∧ i ≤ ds.length ∧ ∃ Z2 ρi F2 acci Ga effi, State c.G c.lk Z2 H2 (wipe σ vs) ρi F2 ∧ Step Z1 H1 F1 Z2 H2 F2 ∧
        RepL c.G Z2 H2 acci accv Ga ∧ Fresh H1 F1 Z2 F2 Ga ∧ (effi = false → ρi = wipeE ρ1 vs ∧ New Z1 H1 Z2 H2 ∧ ∀ a ∈ Ga, a ∉ F1) ∧ lcLoop t test elt vs (ds.drop i) acci effi ρi = .ok f2 acc eff2 ρ2 ∧ (∀ (i : Nat) (d : D), ρi[i]? = some (some d) → i ∉ vs)
      refine ⟨W, ⟨ds.length, rfl, Nat.zero_le _, Z1, wipeE ρ1 vs, Fw, [], [], false, Sw.new n0, (n0.step (F := F1)).sub fun a ha => .inl (subw.subset ha), ⟨rfl, rfl⟩, Fresh.nil, fun _ => ⟨rfl, n0, by simp⟩, hlc, fun i d e => wipeE_some e⟩, ?_⟩
      rintro i m accv H2 ⟨hm, hi, Z2, ρi, F2, acci, Ga, effi, S2, st2, ra, fa, qa, hloop, hw⟩
      have kept : ∀ a ∈ Gk, ∀ o, H1 a = some o → (∀ ps, o ≠ .tbl ps) → H2 a = some o := fun a ha o e => st2.fr a o e (fk.nf a ha)
      by_cases hlt : i < ds.length
      · obtain ⟨go, yl⟩ := io.go Z2 H2 st2.zz S2.zh kept i _ (List.getElem?_eq_getElem hlt)
        rw [List.drop_eq_getElem_cons hlt] at hloop
        refine .inr ⟨go, fun ys H' => W (i + 1) (ds.length - (i + 1)) ys H', fun ys H' n => ⟨_, by omega, n⟩, fun x H3 hy => ?_⟩
        obtain ⟨Z3, n3, r3⟩ := yl x H3 hy S2.tb.2.1
        cases ht : t ds[i] ρi with
        | none => simp only [lcLoop, ht, reduceCtorEq] at hloop
        | some ρ3 =>
          simp only [lcLoop, ht] at hloop
          refine hin.tg x σ H3 _ ?_
          refine hg Z3 H3 _ ρi ρ3 F2 _ x _ (S2.new n3) r3 ht fun σ3 F3 S3 h3 => ?_
          intro hwσ
          have ra3 : RepL c.G Z3 H3 acci accv Ga := ra.mono n3.zz fun a _ o e => n3.hh.fr a o e
          have domA : ∀ a ∈ Ga, H2 a ≠ none := fun a h => let ⟨_, e, _⟩ := ra.dom a h; ne_none e
          have fa3 : Fresh H1 F1 Z3 F3 Ga := ⟨fa.nd, fa.nh, fun a h => (n3.nn a (domA a h)).trans (fa.nz a h), fun a h q => fa.nf a h (h3 a q)⟩
          have st3 : Step Z1 H1 F1 Z3 H3 F3 := (st2.trans n3.step).sub fun a h => .inl (h3 a h)
          have dom3 : ∀ a ∈ Ga, H3 a ≠ none := fun a h => n3.dm (domA a h)
          cases htt : test ρ3 with
          | bad => simp only [htt, reduceCtorEq] at hloop
          | ex x xs ρ4 => simp only [htt, reduceCtorEq] at hloop
          | ok ft b e1 ρ4 =>
            refine tT.ok (c := c.in) S3 htt fun Z4 H4 F4 P4 => ?_
            have ra4 : RepL c.G Z4 H4 acci accv Ga := ra3.mono P4.st.zz fun a h o e => P4.st.fr a o e (fa3.nf a h)
            have fa4 : Fresh H1 F1 Z4 F4 Ga := fa3.later dom3 P4
            have dom4 : ∀ a ∈ Ga, H4 a ≠ none := fun a h => P4.st.dm a (dom3 a h)
            have st4 : Step Z1 H1 F1 Z4 H4 F4 := st3.trans P4.st
            have quiet4 : effi = false → e1 = false → wipeE ρ4 vs = wipeE ρ1 vs ∧ New Z1 H1 Z4 H4 ∧ F4 = F3 ∧ ∀ a ∈ Ga, a ∉ F1 := fun h1 h2 => by
              obtain ⟨q1, q2, q3⟩ := qa h1
              obtain ⟨p1, p2, p3⟩ := P4.qui h2
              exact ⟨by rw [p1, hin.te _ _ _ ht, q1, wipeE_idem], (q2.trans n3).trans p3, p2, q3⟩
            cases b with
            | false =>
              rw [if_neg Bool.false_ne_true]
              simp only [htt] at hloop
              obtain ⟨F5, S5, sub5⟩ := P4.sta.wipe (vs := vs) hl
              rw [hwσ] at S5
              exact ⟨rfl, hlt, Z4, wipeE ρ4 vs, F5, acci, Ga, (effi || e1), S5, st4.sub fun a h => .inl (sub5.subset h), ra4, ⟨fa4.nd, fa4.nh, fa4.nz, fun a h q => fa4.nf a h (sub5.subset q)⟩, fun h => by
                rw [Bool.or_eq_false_iff] at h
                obtain ⟨q1, q2, _, q3⟩ := quiet4 h.1 h.2
                exact ⟨q1, q2, q3⟩, hloop, fun i d e => wipeE_some e⟩
            | true =>
              rw [if_pos rfl]
              simp only [htt] at hloop
              cases he : elt ρ4 with
              | bad => simp only [he, reduceCtorEq] at hloop
              | ex x xs ρ5 => simp only [he, reduceCtorEq] at hloop
              | ok fe x e2 ρ5 =>
                simp only [he] at hloop
                by_cases hk : (fe || frz x) = true
                · rw [if_pos hk] at hloop
                  by_cases hlen : acci.length < 1000000
                  · rw [if_pos hlen] at hloop
                    refine tE.ok (c := c.in) P4.sta he fun Z5 H5 F5 y G5 P5 R5 f5h => ?_
                    have fr5 := fresh_or hk R5 f5h
                    have ra5 : RepL c.G Z5 H5 acci accv Ga := ra4.mono P5.st.zz fun a h o e => P5.st.fr a o e (fa4.nf a h)
                    have fa5 : Fresh H1 F1 Z5 F5 Ga := fa4.later dom4 P5
                    have st5 : Step Z1 H1 F1 Z5 H5 F5 := st4.trans P5.st
                    have disj : ∀ a ∈ Ga, a ∉ G5 := fun a h q => (fr5.nh a q).elim (fa4.nf a h) (dom4 a h)
                    refine ⟨by rw [← ra5.length]; exact big_lt hlen, fun _ => ?_⟩
                    obtain ⟨F6, S6, sub6⟩ := P5.sta.wipe (vs := vs) hl
                    rw [hwσ] at S6
                    have fr6 : Fresh H1 F1 Z5 F5 G5 := fr5.step st4
                    have fAll := fa5.append fr6 disj
                    have rAll : RepL c.G Z5 H5 (acci ++ [x]) (accv ++ [y]) (Ga ++ G5) := by
                      have r1 := (ra5.append (es := [x]) (ws := [y]) (F' := G5 ++ []) ⟨y, [], G5, [], rfl, rfl, R5, rfl, rfl⟩)
                      rw [List.append_nil] at r1
                      exact r1
                    refine ⟨rfl, hlt, Z5, wipeE ρ5 vs, F6, acci ++ [x], Ga ++ G5, (effi || e1 || e2), S6, st5.sub fun a h => .inl (sub6.subset h), rAll, ⟨fAll.nd, fAll.nh, fAll.nz, fun a h q => fAll.nf a h (sub6.subset q)⟩, fun h => ?_, hloop, fun i d e => wipeE_some e⟩
                    rw [Bool.or_eq_false_iff, Bool.or_eq_false_iff] at h
                    obtain ⟨q1, q2, q3, q4⟩ := quiet4 h.1.1 h.1.2
                    obtain ⟨p1, p2, p3⟩ := P5.qui h.2
                    refine ⟨by rw [p1, q1], q2.trans p3, fun a h q => ?_⟩
                    rcases List.mem_append.mp h with h | h
                    · exact q4 a h q
                    · rcases fr5.nh a h with h2 | h2
                      · exact fr5.nf a h (by rw [p2]; exact h2)
                      · exact (st4.dm a (P1.sta.dom q)) h2
                  · rw [if_neg hlen] at hloop
                    cases hloop
                · rw [if_neg hk] at hloop
                  cases hloop
      · have ei : i = ds.length := by omega
        subst ei
        rw [List.drop_length] at hloop
        simp only [lcLoop, Res.ok.injEq] at hloop
        obtain ⟨rfl, rfl, rfl, rfl⟩ := hloop
        refine .inl ⟨io.stop Z2 H2 st2.zz S2.zh kept, by rw [← ra.length]; exact big_le hacc, fun p hp => ?_⟩
        have n := New.fro (o := .tup accv) S2.zh hp
        have rr := rep_newT S2.zh hp ra
        have nz : ∀ a ∈ Ga, (upd Z2 p (.tup accv)) a = none := fun a h => by
          have dm : H2 a ≠ none := let ⟨_, e, _⟩ := ra.dom a h; ne_none e
          rw [n.nn a dm]
          exact fa.nz a h
        cases effi with
        | true =>
          simp only [if_true] at w
          have S4 : State c.G c.lk Z2 H2 σ ρi F2 := ⟨S2.zh, S2.rs.unwipe (wipe_length σ vs) fun j d e => (wipe_ne (hw j d e)).symm, S2.nd, S2.fz, P1.sta.lk, S2.tb⟩
          have n' := PostE.new S4 n
          refine w _ _ F2 _ _ ⟨P1.st.trans (st2.trans n'.st), n'.sta, fun q => by rw [Bool.or_true] at q; cases q⟩ rr fun _ => Fresh.earlier P1 ⟨fa.nd, fa.nh, nz, fa.nf⟩
        | false =>
          obtain ⟨q1, q2, q3⟩ := qa rfl
          simp only [Bool.false_eq_true, if_false] at w
          refine w _ _ F1 _ _ (P1.trans (PostE.new P1.sta (q2.trans n))) rr fun _ => Fresh.earlier P1 ⟨fa.nd, fa.nh, nz, q3⟩
    · subst hr; exact w.elim
  · rename_i ha
    subst hr
    exact ⟨Z, ρ, F, S, by rw [ha]; exact w⟩
  · subst hr; exact w.elim
theorem e_tupG {X : Cx} {cd P : Addr} {elx tg iter : Expr} {ifs : List Expr} {scope : Scope} {own : List (Str × Nat)} {p pos gpos : Pos} {it : DI} {t : Tg} {test : DT} {elt : DE} {g : TG} {k : Nat}
    (hc : X.calm = true) (nod : X.N.Nodup) (hr : Room (k + 4) X.A) (hg : Gl X "tuple") (hm : X.mg "tuple" = none) (TB : GxR.TabB X.base X.mg cd P) (hP : P ∈ c.G.tb) (hcode : X.env.code = .ref cd) (ok : BlkOk X.N X.env.scope scope own) (ncell : ∀ y ∈ scope.names, y.2 ≠ .cell)
    (hi : PI X tg iter (tI c it)) (pg : ∀ it s H C code fp, PG (GX.cxB X X.A.in4 elx tg iter ifs scope gpos it s H C code fp) tg g) (htg : TgOk c.G c.lk g t) (hin : TgIn g t (own.map (·.2))) (pt : ∀ it s H C code fp, PTs (GX.cxB X X.A.in4 elx tg iter ifs scope gpos it s H C code fp) ifs (tT c.in test))
    (pe : ∀ it s H C code fp, Room k (GX.cxB X X.A.in4 elx tg iter ifs scope gpos it s H C code fp).A → PE (GX.cxB X X.A.in4 elx tg iter ifs scope gpos it s H C code fp) elx (tE c.in elt)) (hl : (own.map (·.2)).all (lkOk c.lk) = true := by rfl)
    (co : scope.isCoroutine = false := by rfl) (dot : scope.names.lookup (".0" : Str) = some NameKind.local := by rfl) (hs : ∀ v, genFold iter X.env v = pure v := by intro _; rfl)
    (he : starEach [.GeneratorExp elx [⟨tg, iter, ifs, 0⟩] scope gpos] X.env = (false, eval (.GeneratorExp elx [⟨tg, iter, ifs, 0⟩] scope gpos) X.env) :: starEach [] X.env := by rfl) (hpl : (backTo pos (starEach [] X.env)).any (·.1) = false := by rfl) :
    PE X (.Call (.Name "tuple" p) [.GeneratorExp elx [⟨tg, iter, ifs, 0⟩] scope gpos] [] pos) (tE c (dTg it t test elt (own.map (·.2)))) :=
  (GX.pe_tupleG hc nod hr hg hm bb_tuple TB hcode co ok ncell dot hi pg pt pe hs he hpl).imp fun σ H Q w => tg_imp hP htg hin (List.all_eq_true.mp hl) w
@[simp] theorem v_dTg (it : DI) (t : Tg) (test : DT) (elt : DE) (vs : List Nat) (ρ : Dd.Env) : dTg it t test elt vs ρ = match it ρ with
  | .ok _ ds e ρ1 => (match lcLoop t test elt vs ds [] false (wipeE ρ1 vs) with
    | .ok _ acc eff ρ2 => if acc.length ≤ 1000000 then .ok true (.box false .tup acc) (e || eff) (if eff = true then ρ2 else ρ1) else .bad
    | _ => .bad)
  | .ex c xs ρ1 => .ex c xs ρ1
  | .bad => .bad := rfl
end Dd
/-! enumerate and zip of lists and tuples, in the hand layer. -/
namespace Dd
open PySem L2 PyProof.Rows
/-- a list or a tuple -/
def SqK (t : Bool) (K : PySem.W.Frag) (H : Hp) (a : Addr) (xs : List V) : Prop := match t with | true => SqT K H a xs | false => SqL K H a xs
def HSq (t : Bool) (h : Heap) (a : Addr) (vs : Array Value) : Prop := match t with | true => h.IsTuple a vs | false => h.IsList a vs
def HSqI (t : Bool) (h : Heap) (it a : Addr) (i : Nat) : Prop := match t with | true => h.IsTupleIter it a i | false => h.IsListIter it a i
def sqO (t : Bool) (a : Addr) : Obj := match t with | true => { cls := .type "tuple_iterator", data := .fields #[.ref a, .int 0 0] } | false => { cls := .type "list_iterator", data := .fields #[.ref a, .int 0 0] }
theorem SqK.ex {t : Bool} {K : PySem.W.Frag} {H H' : Hp} {a : Addr} {xs : List V} (e : Ex H H') (h : SqK t K H a xs) : SqK t K H' a xs := by
  cases t with
  | true => exact ex_t e h
  | false => exact ex_l e h
section
variable {X : Cx} {pins : List (Addr × Obj)} {σ : L2.St} {H : Hp} {s : Shared}
theorem sqk {t : Bool} {a : Addr} {xs : List V} (I : Inv X pins σ H s) (h : SqK t X.K H a xs) : ∃ its : List Value, Vals xs its ∧ HSq t s.heap a its.toArray := by
  cases t with
  | true => obtain ⟨its, r, p, _⟩ := I.tuple h; exact ⟨its, r, p⟩
  | false => obtain ⟨its, r, p, _⟩ := I.list h; exact ⟨its, r, p.isList⟩
theorem sqk_inj {t : Bool} {a : Addr} {xs ys : List V} (I : Inv X pins σ H s) (h : SqK t X.K H a xs) (k : SqK t X.K H a ys) : xs = ys := by
  cases t with
  | true => exact I.tuple_inj h k
  | false => exact I.list_inj h k
end
theorem HSq.lt {t : Bool} {h : Heap} {a : Addr} {vs : Array Value} (p : HSq t h a vs) : a < h.objs.size := by
  cases t with
  | true => obtain ⟨o, e, _⟩ := p; exact Heap.lt_size e
  | false => obtain ⟨o, e, _⟩ := p; exact Heap.lt_size e
theorem HSqI.obj {t : Bool} {h : Heap} {it a : Addr} {i : Nat} (p : HSqI t h it a i) : ∃ o, h.get? it = some o ∧ ∀ v, o.data ≠ .cell v := by
  cases t with
  | true => obtain ⟨o, e, _, d⟩ := p; exact ⟨o, e, fun v q => by rw [d] at q; cases q⟩
  | false => obtain ⟨o, e, _, d⟩ := p; exact ⟨o, e, fun v q => by rw [d] at q; cases q⟩
theorem HSqI.to {t : Bool} {h h' : Heap} {it a : Addr} {i : Nat} (p : HSqI t h it a i) (k : ∀ o, h.get? it = some o → h'.get? it = some o) : HSqI t h' it a i := by
  cases t with
  | true => exact Heap.IsTupleIter.at p k
  | false => exact Heap.IsListIter.at p k
theorem hsqI_new {t : Bool} {h : Heap} {it a : Addr} (e : h.get? it = some (sqO t a)) : HSqI t h it a 0 := by
  cases t with
  | true => exact ⟨_, e, rfl, rfl⟩
  | false => exact ⟨_, e, rfl, rfl⟩
theorem drawsK {P : Program} {w : World} {A : Around} (t : Bool) (hh : A.handled = none) (it a : Addr) (hne : a ≠ it) (vs : Array Value) :
    Draws P w A it [it, a] vs.size (fun i v => vs[i]? = some v) (fun i h => HSqI t h it a i ∧ HSq t h a vs) := by
  cases t with
  | true => exact Draws.tuple hh it a hne vs
  | false => exact Draws.list hh it a hne vs
theorem beginsK (t : Bool) (a : Addr) (vs : Array Value) : Begins (.ref a) (sqO t a) (fun h => HSq t h a vs) := by
  cases t with
  | true => exact begins_tuple a vs
  | false => exact begins_list a vs
/-! ### enumerate(x) begins -/
theorem meets_enum1 {v : Value} {o : Obj} {J : Heap → Prop} (B : Begins v o J) : Meets (Builtin.«enumerate.__new__» ⟨[.type "enumerate", v], []⟩) (fun _ R s => J s.heap ∧
      R (.ok (.ret (.ref (s.heap.push o).objs.size))) { s with heap := (s.heap.push o).push { cls := .type "enumerate", data := .fields #[.none, .bool false, .ref s.heap.objs.size, rawInt 0, .none, .none] } }) :=
  .of_wp fun prog w A R s h => by
    obtain ⟨hp, g, d, tk, os⟩ := s
    obtain ⟨h1, hR⟩ := h
    have sub := sub_enumerate
    have it1 : ∀ {A' : Around} {E Q : Value → Shared → Prop}, Q (.ref hp.objs.size) ⟨hp.push o, g, d, tk, os⟩ → wpAny (model prog w) A' (pyIter v) Q E ⟨hp, g, d, tk, os⟩ := fun q => B.iter prog w _ _ ⟨hp, g, d, tk, os⟩ _ h1 q
    wp_walk using it1
    refine wpAny_stack_any fun st => wpAny_pure ?_
    split
    · rename_i c _ _ _ _ _
      cases (c == Value.type "enumerate") <;> (wp_walk using it1; exact ⟨_, rfl, hR⟩)
    · wp_walk using it1
      exact ⟨_, rfl, hR⟩
theorem call_enum1 {prog : Program} {w : World} {A : Around} {E : Value → Shared → Prop} {s : Shared} {v : Value} {o : Obj} {J : Heap → Prop} {Q : Value → Shared → Prop} (B : Begins v o J) (h1 : J s.heap)
    (h : ∀ h', IsEnum h' (s.heap.objs.size + 1) s.heap.objs.size 0 .none → h'.get? s.heap.objs.size = some o → (∀ b o, s.heap.get? b = some o → h'.get? b = some o) → Q (.ref (s.heap.objs.size + 1)) { s with heap := h' }) :
    wpAny (model prog w) A (call (.type "enumerate") [v]) Q E s := by
  have z : (s.heap.push o).objs.size = s.heap.objs.size + 1 := Heap.size_push ..
  have g : IsEnum ((s.heap.push o).push { cls := .type "enumerate", data := .fields #[.none, .bool false, .ref s.heap.objs.size, rawInt 0, .none, .none] }) (s.heap.objs.size + 1) s.heap.objs.size 0 .none := by
    rw [← z]
    exact Heap.get?_push_size _ rfl
  refine callType_new F.called_enumerate (by decide) (F.typeCall_enumerate_1 _) (F.newCall_enumerate_1 _) (fun x => F.args_object_init_2 x _) F.entry_enumerate_new (meets_enum1 B) ⟨h1, ?_⟩
  show _ ∧ _
  rw [z]
  exact ⟨⟨_, g, rfl⟩, h _ g (Heap.get?_push_of_some _ (Heap.get?_push_size _ B.free)) fun b u x => Heap.get?_push_of_some _ (Heap.get?_push_of_some _ x)⟩
/-- the sequence at a, each item in a new pair with its number -/
def ItEn (t : Bool) (K : PySem.W.Frag) (a : Addr) : It :=
  ⟨fun i H => ∃ (xs : List V) (x : V), SqK t K H a xs ∧ xs[i]? = some x, fun i H v H' => ∃ T x, v = .ref T ∧ H T = none ∧ H' = upd H T (.tup [.int (i : Nat), x]) ∧ ∀ xs, SqK t K H a xs → xs[i]? = some x, fun i H => ∃ xs : List V, SqK t K H a xs ∧ xs.length = i⟩
theorem turn_en {P : Program} {w : World} {K : PySem.W.Frag} {elts : List Expr} {kk : Nat} {tpos : Pos} (t : Bool) (a e it : Addr) (hne : e ≠ it) (hai : a ≠ it) (hea : e ≠ a) :
    Turn P w K (.Tuple elts kk tpos) (ItEn t K a) [e, it] e (fun i h => (∃ old, IsEnum h e it ((i : Nat) : Int) old) ∧ HSqI t h it a i) where
  mem := by simp
  obj := fun i h st b hb => by
    have e' : b = e ∨ b = it := by simpa using hb
    rcases e' with rfl | rfl
    · obtain ⟨old, he⟩ := st.1
      exact ⟨_, he, fun v q => nomatch q⟩
    · exact st.2.obj
  keep := fun i h h' st k => let ⟨⟨old, he⟩, hi⟩ := st; ⟨⟨old, k e (by simp) _ he⟩, hi.to fun o q => k it (by simp) o q⟩
  item := by
    intro X hP hw hK hc i pins s σ H E I hf st hg
    subst hP hw hK
    obtain ⟨⟨old, he⟩, hit⟩ := st
    obtain ⟨xs, x, hq, hx⟩ := hg
    obtain ⟨its, rv, p⟩ := sqk I hq
    obtain ⟨u, hu, ru⟩ := rv.get hx
    have hel : e < s.heap.objs.size := Heap.lt_size he
    have hil : it < s.heap.objs.size := by obtain ⟨o, q, _⟩ := hit.obj; exact Heap.lt_size q
    have hd0 : X.A.in1.handled = none := I.ok.hd hc
    have hlt : i < its.toArray.size := by
      rcases Nat.lt_or_ge i its.length with q | q
      · simpa using q
      · rw [List.getElem?_eq_none q] at hu; cases hu
    refine wpAny_pyNext_enum_itemC (drawsK t hd0 it a hai its.toArray) he ⟨hit, p⟩ hlt hne (by simp [hne, hea]) fun y h' tk hy ho st' hT hsz hk => ?_
    have ey : y = u := by
      have q : its[i]? = some y := by simpa using hy
      rw [q] at hu; exact Option.some.inj hu
    subst ey
    refine ⟨_, rfl, wpAny_letOwnedTupleGo_enum (s := { s with heap := h', toks := tk + 1 }) ho fun h2 he2 sb => ?_⟩
    have hT2 : h2.get? s.heap.objs.size = some { cls := .type "tuple", data := .seq #[.int i tk, y] } := (sb.2 _ (Nat.ne_of_gt hel)).trans hT
    have new : ObjOk X.prog X.w (upd H s.heap.objs.size (.tup [.int (i : Nat), x])) h2 s.heap.objs.size (.tup [.int (i : Nat), x]) :=
      ⟨by show 2 ≤ sizeLine; decide, [.int i tk, y], .cons ⟨_, rfl⟩ (.cons ru .nil), ⟨_, hT2, rfl, _, rfl⟩⟩
    have I1 : Inv X pins σ (upd H s.heap.objs.size (.tup [.int (i : Nat), x])) { s with heap := h2, toks := tk + 1 } :=
      I.turnedNew (ch := [e, it]) (fun b ob hb q => (sb.2 b (fun z => hb (by simp [z]))).trans (hk b ob (fun z => hb (by simp [z])) (fun z => hb (by simp [z])) q)) hf (Nat.le_refl _) new
    refine ⟨.ref s.heap.objs.size, _, I1, rfl, ⟨_, x, rfl, I.hok.fresh (Nat.le_refl _), rfl, fun ys hy => by rw [sqk_inj I hy hq]; exact hx⟩, ⟨⟨y, ?_⟩, st'.1.to fun o q => (sb.2 it (Ne.symm hne)).trans q⟩, fun b hb => ?_⟩
    · rw [show ((i + 1 : Nat) : Int) = (i : Int) + 1 by omega]; exact he2
    · have lb : b < s.heap.objs.size := by
        have e' : b = e ∨ b = it := by simpa using hb
        rcases e' with rfl | rfl
        · exact hel
        · exact hil
      rw [upd_ne (Nat.ne_of_lt lb)]
      exact (hf b hb).1
  done := by
    intro X hP hw hK hc i pins s σ H E I hf st hg
    subst hP hw hK
    obtain ⟨⟨old, he⟩, hit⟩ := st
    obtain ⟨xs, hq, hx⟩ := hg
    obtain ⟨its, rv, p⟩ := sqk I hq
    obtain ⟨f0, f1, f2, f3, f4, f5⟩ := hf it (by simp)
    have hd0 : X.A.in1.handled = none := I.ok.hd hc
    have hn : i = its.toArray.size := by rw [← hx, rv.length]; simp
    have st2 : HSqI t s.heap it a its.toArray.size ∧ HSq t s.heap a its.toArray := ⟨by rw [← hn]; exact hit, p⟩
    exact wpAny_pyNext_enum_endD (drawsK t hd0 it a hai its.toArray) he st2 fun h' eb => ⟨rfl, I.turned (t' := s.toks) (fun b o hb q => eb b o hb q) f0 f1 f3 f4 f5⟩
  self := fun A i s Q E st h => let ⟨⟨_, he⟩, _⟩ := st; wpAny_pyIter_enum he h
def iEn (K : PySem.W.Frag) (ta : TA) : TI := fun σ H R => ta σ H fun vs H1 => ∃ t a xs, vs = [.ref a] ∧ SqK t K H1 a xs ∧ R (ItEn t K a) H1
theorem pi_en {X : Cx} {e : Expr} {ta : TA} {p pos tpos : Pos} {elts : List Expr} {kk : Nat} (hg : Gl X "enumerate") (hm : X.mg "enumerate" = none) (ha : PA X [e] ta) (hs : starEach [e] X.env = [(false, eval e X.env)] := by rfl) :
    PI X (.Tuple elts kk tpos) (.Call (.Name "enumerate" p) [e] [] pos) (iEn X.K ta) := by
  refine ⟨fun pins s σ H R I h => ?_⟩
  refine Call_ (ld_blt I hg hm boot_enumerate (PyProof.Rows.callWith_type1 (thn (ha.run pos pins s σ H _ I h) fun us s1 ⟨vs, H1, I1, r1, q1⟩ => ?_) hs rfl))
  obtain ⟨t, a, xs, ex, hq, q⟩ := q1
  subst ex
  cases r1 with
  | cons r rr =>
    cases rr
    cases r
    obtain ⟨its, rv, p'⟩ := sqk I1 hq
    refine call_enum1 (beginsK t a its.toArray) p' fun h' he hit hk => wpAny_pyIter_enum he ?_
    have I2 : Inv X pins σ H1 { s1 with heap := h' } := I1.kept (t' := s1.toks) hk
    have la := p'.lt
    have n1 : s1.heap.objs.size + 1 ≠ s1.heap.objs.size := Nat.succ_ne_self _
    have n2 : a ≠ s1.heap.objs.size := Nat.ne_of_lt la
    have n3 : s1.heap.objs.size + 1 ≠ a := Nat.ne_of_gt (Nat.lt_succ_of_lt la)
    refine ⟨s1.heap.objs.size + 1, [s1.heap.objs.size + 1, s1.heap.objs.size], _, _, H1, rfl, I2, turn_en t a (s1.heap.objs.size + 1) s1.heap.objs.size n1 n2 n3, ⟨⟨.none, he⟩, hsqI_new hit⟩, fun b hb => ?_, q⟩
    have hle : s1.heap.objs.size ≤ b := by
      have e' : b = s1.heap.objs.size + 1 ∨ b = s1.heap.objs.size := by simpa using hb
      rcases e' with z | z <;> rw [z]
      · exact Nat.le_add_right _ _
      · exact Nat.le_refl _
    exact I1.fpOk hle (I1.hok.fresh hle)
/-! ### zip(x, y) -/
def ItZp (t u : Bool) (K : PySem.W.Frag) (a b : Addr) : It :=
  ⟨fun i H => ∃ (xs ys : List V) (x y : V), SqK t K H a xs ∧ SqK u K H b ys ∧ xs[i]? = some x ∧ ys[i]? = some y,
    fun i H v H' => ∃ T x y, v = .ref T ∧ H T = none ∧ H' = upd H T (.tup [x, y]) ∧ (∀ xs, SqK t K H a xs → xs[i]? = some x) ∧ ∀ ys, SqK u K H b ys → ys[i]? = some y,
    fun i H => ∃ xs ys : List V, SqK t K H a xs ∧ SqK u K H b ys ∧ min xs.length ys.length = i⟩
theorem turn_zp {P : Program} {w : World} {K : PySem.W.Frag} {elts : List Expr} {kk : Nat} {tpos : Pos} (t u : Bool) {a b z TI TO i1 i2 : Addr} (D : ZipSep2 z TI TO i1 i2 [i1, a] [i2, b]) :
    Turn P w K (.Tuple elts kk tpos) (ItZp t u K a b) [z, TI, TO, i1, i2] z (fun i h => IsZip h z TI TO .none ∧ IsTupOf2 h TI (.ref i1) (.ref i2) ∧ (∃ x y, IsTupOf2 h TO x y) ∧ HSqI t h i1 a i ∧ HSqI u h i2 b i) where
  mem := by simp
  obj := fun i h st c hc => by
    obtain ⟨hz, hTI, ⟨x, y, hTO⟩, q1, q2⟩ := st
    have e' : c = z ∨ c = TI ∨ c = TO ∨ c = i1 ∨ c = i2 := by simpa using hc
    rcases e' with rfl | rfl | rfl | rfl | rfl
    · exact ⟨_, hz, fun v q => nomatch q⟩
    · exact ⟨_, hTI, fun v q => nomatch q⟩
    · exact ⟨_, hTO, fun v q => nomatch q⟩
    · exact q1.obj
    · exact q2.obj
  keep := fun i h h' st k => by
    obtain ⟨hz, hTI, ⟨x, y, hTO⟩, q1, q2⟩ := st
    exact ⟨k z (by simp) _ hz, k TI (by simp) _ hTI, ⟨x, y, k TO (by simp) _ hTO⟩, q1.to fun o q => k i1 (by simp) o q, q2.to fun o q => k i2 (by simp) o q⟩
  item := by
    intro X hP hw hK hc i pins s σ H E I hf st hg
    subst hP hw hK
    obtain ⟨hz, hTI, ⟨x0, y0, hTO⟩, q1, q2⟩ := st
    obtain ⟨xs, ys, x, y, hqx, hqy, hx, hy⟩ := hg
    obtain ⟨its, rv, p⟩ := sqk I hqx
    obtain ⟨its2, rv2, p2⟩ := sqk I hqy
    obtain ⟨u1, hu1, ru1⟩ := rv.get hx
    obtain ⟨u2, hu2, ru2⟩ := rv2.get hy
    have hd0 : X.A.in1.handled = none := I.ok.hd hc
    have lt1 : i < its.toArray.size := by
      rcases Nat.lt_or_ge i its.length with q | q
      · simpa using q
      · rw [List.getElem?_eq_none q] at hu1; cases hu1
    have lt2 : i < its2.toArray.size := by
      rcases Nat.lt_or_ge i its2.length with q | q
      · simpa using q
      · rw [List.getElem?_eq_none q] at hu2; cases hu2
    have n1 : a ≠ i1 := fun q => by
      subst q
      exact absurd (show IsTup s.heap a its.toArray ∨ s.heap.IsList a its.toArray by cases t <;> first | exact .inl p | exact .inr p) (by
        rintro (⟨o, e, c, n, d⟩ | ⟨o, e, c, n, d⟩) <;> (obtain ⟨o2, e2, d2⟩ : ∃ o, s.heap.get? a = some o ∧ ∃ fs, o.data = .fields fs := by (cases t <;> (obtain ⟨o, e, _, d⟩ := q1; exact ⟨o, e, _, d⟩))) <;> (rw [e] at e2; cases e2; obtain ⟨fs, d2⟩ := d2; rw [d] at d2; cases d2))
    have n2 : b ≠ i2 := fun q => by
      subst q
      exact absurd (show IsTup s.heap b its2.toArray ∨ s.heap.IsList b its2.toArray by cases u <;> first | exact .inl p2 | exact .inr p2) (by
        rintro (⟨o, e, c, n, d⟩ | ⟨o, e, c, n, d⟩) <;> (obtain ⟨o2, e2, d2⟩ : ∃ o, s.heap.get? b = some o ∧ ∃ fs, o.data = .fields fs := by (cases u <;> (obtain ⟨o, e, _, d⟩ := q2; exact ⟨o, e, _, d⟩))) <;> (rw [e] at e2; cases e2; obtain ⟨fs, d2⟩ := d2; rw [d] at d2; cases d2))
    refine wpAny_pyNext_zipD2_item D (drawsK t hd0 i1 a n1 its.toArray) (drawsK u hd0 i2 b n2 its2.toArray) hz hTI hTO ⟨q1, p⟩ ⟨q2, p2⟩ lt1 lt2 fun x1 x2 h' tk e1 e2 z' TO' s1' s2' hT hsz hk => ?_
    have ex1 : x1 = u1 := by
      have q : its[i]? = some x1 := by simpa using e1
      rw [q] at hu1; exact Option.some.inj hu1
    have ex2 : x2 = u2 := by
      have q : its2[i]? = some x2 := by simpa using e2
      rw [q] at hu2; exact Option.some.inj hu2
    subst ex1 ex2
    have hzl : z < s.heap.objs.size := Heap.lt_size hz
    refine ⟨_, rfl, wpAny_letOwnedTupleGo_zip (s := { s with heap := h', toks := tk }) z' fun h2 z2 sb => ?_⟩
    have hT2 : h2.get? s.heap.objs.size = some { cls := .type "tuple", data := .seq #[x1, x2] } := (sb.2 _ (Nat.ne_of_gt hzl)).trans hT
    have new : ObjOk X.prog X.w (upd H s.heap.objs.size (.tup [x, y])) h2 s.heap.objs.size (.tup [x, y]) :=
      ⟨by show 2 ≤ sizeLine; decide, [x1, x2], .cons ru1 (.cons ru2 .nil), ⟨_, hT2, rfl, _, rfl⟩⟩
    have I1 : Inv X pins σ (upd H s.heap.objs.size (.tup [x, y])) { s with heap := h2, toks := tk } :=
      I.turnedNew (ch := [z, TI, TO, i1, i2]) (fun c o hb q => (sb.2 c (fun q' => hb (by simp [q']))).trans (hk c o (fun q' => hb (by simp [q'])) (fun q' => hb (by simp [q'])) (fun q' => hb (by simp [q'])) (fun q' => hb (by simp [q'])) q)) hf (Nat.le_refl _) new
    refine ⟨.ref s.heap.objs.size, _, I1, rfl, ⟨_, x, y, rfl, I.hok.fresh (Nat.le_refl _), rfl, fun l hl => by rw [sqk_inj I hl hqx]; exact hx, fun l hl => by rw [sqk_inj I hl hqy]; exact hy⟩, ⟨z2, ?_, ⟨x1, x2, ?_⟩, ?_, ?_⟩, fun c hcm => ?_⟩
    · exact (sb.2 _ D.TIz).trans (hk _ _ D.TIz D.TITO D.TIi1 D.TIi2 hTI)
    · exact (sb.2 _ D.TOz).trans TO'
    · exact s1'.1.to fun o q => (sb.2 _ (Ne.symm D.zi1)).trans q
    · exact s2'.1.to fun o q => (sb.2 _ (Ne.symm D.zi2)).trans q
    · have hlt : c < s.heap.objs.size := by
        have e' : c = z ∨ c = TI ∨ c = TO ∨ c = i1 ∨ c = i2 := by simpa using hcm
        rcases e' with rfl | rfl | rfl | rfl | rfl
        · exact hzl
        · exact Heap.lt_size hTI
        · exact Heap.lt_size hTO
        · obtain ⟨_, e1, _⟩ := q1.obj; exact Heap.lt_size e1
        · obtain ⟨_, e1, _⟩ := q2.obj; exact Heap.lt_size e1
      rw [upd_ne (Nat.ne_of_lt hlt)]
      exact (hf c hcm).1
  done := by
    intro X hP hw hK hc i pins s σ H E I hf st hg
    subst hP hw hK
    obtain ⟨hz, hTI, ⟨x0, y0, hTO⟩, q1, q2⟩ := st
    obtain ⟨xs, ys, hqx, hqy, hend⟩ := hg
    obtain ⟨its, rv, p⟩ := sqk I hqx
    obtain ⟨its2, rv2, p2⟩ := sqk I hqy
    have l1 := rv.length
    have l2 := rv2.length
    have hd0 : X.A.in1.handled = none := I.ok.hd hc
    have n1 : a ≠ i1 := fun q => by
      subst q
      exact absurd (show IsTup s.heap a its.toArray ∨ s.heap.IsList a its.toArray by cases t <;> first | exact .inl p | exact .inr p) (by
        rintro (⟨o, e, c, n, d⟩ | ⟨o, e, c, n, d⟩) <;> (obtain ⟨o2, e2, d2⟩ : ∃ o, s.heap.get? a = some o ∧ ∃ fs, o.data = .fields fs := by (cases t <;> (obtain ⟨o, e, _, d⟩ := q1; exact ⟨o, e, _, d⟩))) <;> (rw [e] at e2; cases e2; obtain ⟨fs, d2⟩ := d2; rw [d] at d2; cases d2))
    have n2 : b ≠ i2 := fun q => by
      subst q
      exact absurd (show IsTup s.heap b its2.toArray ∨ s.heap.IsList b its2.toArray by cases u <;> first | exact .inl p2 | exact .inr p2) (by
        rintro (⟨o, e, c, n, d⟩ | ⟨o, e, c, n, d⟩) <;> (obtain ⟨o2, e2, d2⟩ : ∃ o, s.heap.get? b = some o ∧ ∃ fs, o.data = .fields fs := by (cases u <;> (obtain ⟨o, e, _, d⟩ := q2; exact ⟨o, e, _, d⟩))) <;> (rw [e] at e2; cases e2; obtain ⟨fs, d2⟩ := d2; rw [d] at d2; cases d2))
    have k1 : i ≤ its.toArray.size := by simp; omega
    have k2 : i ≤ its2.toArray.size := by simp; omega
    have k3 : i = its.toArray.size ∨ i = its2.toArray.size := by simp; omega
    exact wpAny_pyNext_zipD2_end D (drawsK t hd0 i1 a n1 its.toArray) (drawsK u hd0 i2 b n2 its2.toArray) hz hTI hTO ⟨q1, p⟩ ⟨q2, p2⟩ k1 k2 k3 fun h' tk hk => ⟨rfl, I.turnedL (t' := tk) (ch := [z, TI, TO, i1, i2]) (fun c o hb q =>
      hk c o (fun q' => hb (by simp [q'])) (fun q' => hb (by simp [q'])) (fun q' => hb (by simp [q'])) (fun q' => hb (by simp [q'])) q) hf⟩
  self := fun A i s Q E st h => wpAny_pyIter_zip st.1 h
def iZp (K : PySem.W.Frag) (ta : TA) : TI := fun σ H R => ta σ H fun vs H1 => ∃ t u a b xs ys, vs = [.ref a, .ref b] ∧ SqK t K H1 a xs ∧ SqK u K H1 b ys ∧ R (ItZp t u K a b) H1
theorem pi_zp {X : Cx} {e e2 : Expr} {ta : TA} {p pos tpos : Pos} {elts : List Expr} {kk : Nat} (hg : Gl X "zip") (hm : X.mg "zip" = none) (ha : PA X [e, e2] ta)
    (hs : starEach [e, e2] X.env = (false, eval e X.env) :: starEach [e2] X.env := by rfl) (hpl : (backTo pos (starEach [e2] X.env)).any (·.1) = false := by rfl) :
    PI X (.Tuple elts kk tpos) (.Call (.Name "zip" p) [e, e2] [] pos) (iZp X.K ta) := by
  refine ⟨fun pins s σ H R I h => ?_⟩
  refine Call_ (ld_blt I hg hm PyProof.Rows.boot_zip (PyProof.Rows.callWith_type1 (thn (ha.run pos pins s σ H _ I h) fun us s1 ⟨vs, H1, I1, r1, q1⟩ => ?_) hs hpl))
  obtain ⟨t, u, a, b, xs, ys, ex, hqx, hqy, q⟩ := q1
  subst ex
  cases r1 with
  | cons r rr =>
    cases rr with
    | cons r' rr =>
      cases rr
      cases r
      cases r'
      obtain ⟨its, rv, p1⟩ := sqk I1 hqx
      obtain ⟨its2, rv2, p2⟩ := sqk I1 hqy
      have la := p1.lt
      have lb := p2.lt
      refine zip_begins2 (beginsK t a its.toArray) (beginsK u b its2.toArray) p1 p2 fun h' hz hTI hTO h1 h2 hsz hk => wpAny_pyIter_zip hz ?_
      have I2 : Inv X pins σ H1 { s1 with heap := h' } := I1.kept (t' := s1.toks) hk
      refine ⟨s1.heap.objs.size + 4, [s1.heap.objs.size + 4, s1.heap.objs.size + 2, s1.heap.objs.size + 3, s1.heap.objs.size, s1.heap.objs.size + 1], _, _, H1, rfl, I2, turn_zp t u (zip_sep2 (fp1 := [a]) (fp2 := [b]) (fun c hc => by rw [List.mem_singleton.mp hc]; exact la) fun c hc => by rw [List.mem_singleton.mp hc]; exact lb), ⟨hz, hTI, ⟨_, _, hTO⟩, hsqI_new h1, hsqI_new h2⟩, fun c hcm => ?_, q⟩
      have hle : s1.heap.objs.size ≤ c := by
        have e' : c = s1.heap.objs.size + 4 ∨ c = s1.heap.objs.size + 2 ∨ c = s1.heap.objs.size + 3 ∨ c = s1.heap.objs.size ∨ c = s1.heap.objs.size + 1 := by simpa using hcm
        rcases e' with z | z | z | z | z <;> rw [z] <;> first | exact Nat.le_refl _ | exact Nat.le_add_right _ _
      exact I1.fpOk hle (I1.hok.fresh hle)
end Dd
/-! enumerate and zip, on data. -/
namespace Dd
open PySem L2
def seqD : D → Option (Bool × List D)
  | .box _ .lst ds => if frzL ds = true then some (false, ds) else none
  | .box _ .tup ds => if frzL ds = true then some (true, ds) else none
  | _ => none
def enumD (n : Nat) : List D → List D
  | [] => []
  | d :: ds => .box false .tup [.int (n : Int), d] :: enumD (n + 1) ds
def zipD : List D → List D → List D
  | d :: ds, e :: es => .box false .tup [d, e] :: zipD ds es
  | _, _ => []
theorem enumD_len : ∀ (ds : List D) (n : Nat), (enumD n ds).length = ds.length
  | [], _ => rfl
  | _ :: ds, n => by simp [enumD, enumD_len ds (n + 1)]
theorem enumD_get : ∀ (ds : List D) (n i : Nat) {d : D}, (enumD n ds)[i]? = some d → ∃ x, ds[i]? = some x ∧ d = .box false .tup [.int ((n + i : Nat) : Int), x]
  | [], _, _, _, h => by simp [enumD] at h
  | x :: ds, n, 0, d, h => ⟨x, rfl, by simpa [enumD] using h.symm⟩
  | x :: ds, n, i + 1, d, h => by
    obtain ⟨y, h1, h2⟩ := enumD_get ds (n + 1) i (d := d) (by simpa [enumD] using h)
    exact ⟨y, by simpa using h1, by rw [h2]; congr 4; omega⟩
theorem zipD_len : ∀ ds es : List D, (zipD ds es).length = min ds.length es.length
  | d :: ds, e :: es => by simp [zipD, zipD_len ds es, Nat.succ_min_succ]
  | [], es => by simp [zipD]
  | d :: ds, [] => by simp [zipD]
theorem zipD_get : ∀ (ds es : List D) (i : Nat) {d : D}, (zipD ds es)[i]? = some d → ∃ x y, ds[i]? = some x ∧ es[i]? = some y ∧ d = .box false .tup [x, y]
  | [], _, _, _, h => by simp [zipD] at h
  | _ :: _, [], _, _, h => by simp [zipD] at h
  | x :: ds, y :: es, 0, d, h => ⟨x, y, rfl, rfl, by simpa [zipD] using h.symm⟩
  | x :: ds, y :: es, i + 1, d, h => by
    obtain ⟨x1, y1, h1, h2, h3⟩ := zipD_get ds es i (d := d) (by simpa [zipD] using h)
    exact ⟨x1, y1, by simpa using h1, by simpa using h2, h3⟩
/-- the sequence stands at a, frozen or at an address of Gk -/
def Stands (G : Gx) (Z H : Hp) (t : Bool) (a : Addr) (vs : List V) (Gk : List Addr) : Prop := SqK t G.K Z a vs ∨ (t = false ∧ a ∈ Gk ∧ H a = some (.lst vs))
theorem Stands.sub {G : Gx} {Z H : Hp} {t : Bool} {a : Addr} {vs : List V} {Gk Gl : List Addr} (h : Stands G Z H t a vs Gk) (k : ∀ x ∈ Gk, x ∈ Gl) : Stands G Z H t a vs Gl := by
  rcases h with h | ⟨h1, h2, h3⟩
  · exact .inl h
  · exact .inr ⟨h1, k a h2, h3⟩
theorem Stands.at {G : Gx} {Z H Z2 H2 : Hp} {t : Bool} {a : Addr} {vs : List V} {Gk : List Addr} (h : Stands G Z H t a vs Gk) (e1 : Ex Z Z2) (e2 : Ex Z2 H2) (k : ∀ a ∈ Gk, ∀ o, H a = some o → (∀ ps, o ≠ .tbl ps) → H2 a = some o) : SqK t G.K H2 a vs := by
  rcases h with h | ⟨rfl, h2, h3⟩
  · exact (h.ex e1).ex e2
  · exact SqL.of (k a h2 _ h3 (fun _ z => nomatch z))
theorem rep_sqk {G : Gx} {Z H : Hp} {d : D} {v : V} {F : List Addr} {t : Bool} {ds : List D} (zh : Ex Z H) (R : Rep G Z H d v F) (h : seqD d = some (t, ds)) : ∃ a vs, v = .ref a ∧ RepL G Z H ds vs [] ∧ Stands G Z H t a vs F ∧ SqK t G.K H a vs := by
  cases d with
  | box own k es =>
    cases k with
    | lst =>
      by_cases hk : frzL es = true
      · simp only [seqD, hk, if_true, Option.some.injEq, Prod.mk.injEq] at h
        obtain ⟨rfl, rfl⟩ := h
        obtain ⟨a, vs, F', rfl, hs, hl, ho, hz, hF⟩ := rep_lst zh R
        have e0 := hl.frz_nil hk
        subst e0
        refine ⟨a, vs, rfl, hl, ?_, hs⟩
        cases own with
        | false => exact .inl (hz rfl).2.2
        | true => exact .inr ⟨rfl, by rw [hF rfl]; exact List.mem_singleton_self a, ho rfl⟩
      · simp only [seqD, if_neg hk] at h
        cases h
    | tup =>
      by_cases hk : frzL es = true
      · simp only [seqD, hk, if_true, Option.some.injEq, Prod.mk.injEq] at h
        obtain ⟨rfl, rfl⟩ := h
        obtain ⟨_, a, vs, rfl, ht, hl⟩ := rep_tup zh R
        have e0 := hl.frz_nil hk
        subst e0
        exact ⟨a, vs, rfl, hl, .inl ht, ex_t zh ht⟩
      · simp only [seqD, if_neg hk] at h
        cases h
    | _ => simp [seqD] at h
  | _ => simp [seqD] at h
theorem repL_ith {G : Gx} {Z H Z2 H2 : Hp} {ds : List D} {vs : List V} {i : Nat} {x : D} (r : RepL G Z H ds vs []) (e : Ex Z Z2) (h : ds[i]? = some x) : ∃ v, vs[i]? = some v ∧ Rep G Z2 H2 x v [] := by
  obtain ⟨v, A, F1, B, g1, g2, g3⟩ := r.get h
  obtain ⟨h1, rfl⟩ := List.append_eq_nil_iff.mp g2.symm
  obtain ⟨rfl, rfl⟩ := List.append_eq_nil_iff.mp h1
  exact ⟨v, g1, g3.mono e fun a ha => by cases ha⟩
theorem it_en {G : Gx} {Z H : Hp} {t : Bool} {a : Addr} {vs : List V} {ds : List D} {Gk : List Addr} (h : Stands G Z H t a vs Gk) (r : RepL G Z H ds vs []) : IterOk G (ItEn t G.K a) Z H (enumD 0 ds) Gk := by
  refine ⟨fun Z2 H2 e1 e2 k i d hd => ?_, fun Z2 H2 e1 e2 k => ⟨vs, h.at e1 e2 k, by rw [enumD_len, r.length]⟩⟩
  obtain ⟨x0, hx0, rfl⟩ := enumD_get ds 0 i hd
  obtain ⟨v, g1, g4⟩ := repL_ith (Z2 := Z2) (H2 := H2) r e1 hx0
  have hs := h.at e1 e2 k
  refine ⟨⟨vs, v, hs, g1⟩, fun x H3 hy _ => ?_⟩
  obtain ⟨T, y, rfl, hT, rfl, hx⟩ := hy
  have ev : v = y := Option.some.inj (g1.symm.trans (hx vs hs))
  subst ev
  refine ⟨_, New.fro e2 hT, rep_newT e2 hT ?_⟩
  exact ⟨_, _, [], [], rfl, rfl, ⟨by simp, rfl⟩, _, _, [], [], rfl, rfl, g4, rfl, rfl⟩
theorem it_zp {G : Gx} {Z H : Hp} {t u : Bool} {a b : Addr} {vs ws : List V} {ds es : List D} {Gk : List Addr} (h : Stands G Z H t a vs Gk) (h' : Stands G Z H u b ws Gk) (r : RepL G Z H ds vs []) (r' : RepL G Z H es ws []) : IterOk G (ItZp t u G.K a b) Z H (zipD ds es) Gk := by
  refine ⟨fun Z2 H2 e1 e2 k i d hd => ?_, fun Z2 H2 e1 e2 k => ⟨vs, ws, h.at e1 e2 k, h'.at e1 e2 k, by rw [zipD_len, r.length, r'.length]⟩⟩
  obtain ⟨x0, y0, hx0, hy0, rfl⟩ := zipD_get ds es i hd
  obtain ⟨v, g1, g4⟩ := repL_ith (Z2 := Z2) (H2 := H2) r e1 hx0
  obtain ⟨w, g5, g8⟩ := repL_ith (Z2 := Z2) (H2 := H2) r' e1 hy0
  have hs := h.at e1 e2 k
  have hs' := h'.at e1 e2 k
  refine ⟨⟨vs, ws, v, w, hs, hs', g1, g5⟩, fun x H3 hy _ => ?_⟩
  obtain ⟨T, x1, y1, rfl, hT, rfl, hx, hx'⟩ := hy
  have ev : v = x1 := Option.some.inj (g1.symm.trans (hx vs hs))
  have ew : w = y1 := Option.some.inj (g5.symm.trans (hx' ws hs'))
  subst ev ew
  refine ⟨_, New.fro e2 hT, rep_newT e2 hT ?_⟩
  exact ⟨_, _, [], [], rfl, rfl, g4, _, _, [], [], rfl, rfl, g8, rfl, rfl⟩
def dEnum (m : DA) : DI := fun ρ => match m ρ with
  | .ok _ [d] e ρ1 => (match seqD d with | some (_, ds) => .ok true (enumD 0 ds) e ρ1 | none => .bad)
  | .ok _ _ _ _ => .bad
  | .ex c xs ρ1 => .ex c xs ρ1
  | .bad => .bad
def dZip (m : DA) : DI := fun ρ => match m ρ with
  | .ok _ [d, d'] e ρ1 => (match seqD d, seqD d' with | some (_, ds), some (_, es) => .ok true (zipD ds es) e ρ1 | _, _ => .bad)
  | .ok _ _ _ _ => .bad
  | .ex c xs ρ1 => .ex c xs ρ1
  | .bad => .bad
section
variable {c : Cc} {X : Cx} {a b : Expr} {ma : DA} {p pos tpos : Pos} {elts : List Expr} {kk : Nat}
theorem i_enum (hg : Gl X "enumerate") (hm : X.mg "enumerate" = none) (ha : PA X [a] (tA c ma)) (hK : X.K = c.G.K := by rfl) (hs : starEach [a] X.env = [(false, eval a X.env)] := by rfl) : PI X (.Tuple elts kk tpos) (.Call (.Name "enumerate" p) [a] [] pos) (tI c (dEnum ma)) := (pi_en hg hm ha hs).imp fun σ H R w => by
  rw [hK]
  obtain ⟨Z, ρ, F, S, w⟩ := w
  generalize hr : dEnum ma ρ = r at w
  unfold dEnum at hr
  split at hr
  · rename_i f d eff ρ1 ha
    split at hr
    · rename_i t ds hq
      subst hr
      refine tA.ok S ha fun Z1 H1 F1 vs G1 P1 R1 f1h => ?_
      obtain ⟨v, vs', F2, F3, rfl, rfl, r1, r2⟩ := R1
      obtain ⟨rfl, rfl⟩ := r2
      obtain ⟨x, ws, rfl, hl, hst, hsq⟩ := rep_sqk P1.sta.zh r1 hq
      refine ⟨t, x, ws, rfl, hsq, w Z1 H1 F1 (F2 ++ []) _ P1 f1h (fun b hb => ?_) (it_en (hst.sub fun y hy => List.mem_append_left _ hy) hl)⟩
      obtain ⟨o, ho, _⟩ := r1.dom b (by simpa using hb)
      rw [ho]; exact Option.some_ne_none _
    · subst hr; exact w.elim
  · subst hr; exact w.elim
  · rename_i ha
    subst hr
    exact tA.ex S ha w
  · subst hr; exact w.elim
theorem i_zip (hg : Gl X "zip") (hm : X.mg "zip" = none) (ha : PA X [a, b] (tA c ma)) (hK : X.K = c.G.K := by rfl) (hs : starEach [a, b] X.env = (false, eval a X.env) :: starEach [b] X.env := by rfl) (hpl : (backTo pos (starEach [b] X.env)).any (·.1) = false := by rfl) : PI X (.Tuple elts kk tpos) (.Call (.Name "zip" p) [a, b] [] pos) (tI c (dZip ma)) := (pi_zp hg hm ha hs hpl).imp fun σ H R w => by
  rw [hK]
  obtain ⟨Z, ρ, F, S, w⟩ := w
  generalize hr : dZip ma ρ = r at w
  unfold dZip at hr
  split at hr
  · rename_i f d d' eff ρ1 ha
    split at hr
    · rename_i t ds u es hq hq'
      subst hr
      refine tA.ok S ha fun Z1 H1 F1 vs G1 P1 R1 f1h => ?_
      obtain ⟨v, vs', F2, F3, rfl, rfl, r1, v', vs2, F4, F5, rfl, rfl, r3, r2⟩ := R1
      obtain ⟨rfl, rfl⟩ := r2
      obtain ⟨x, ws, rfl, hl, hst, hsq⟩ := rep_sqk P1.sta.zh r1 hq
      obtain ⟨x', ws', rfl, hl', hst', hsq'⟩ := rep_sqk P1.sta.zh r3 hq'
      refine ⟨t, u, x, x', ws, ws', rfl, hsq, hsq', w Z1 H1 F1 _ _ P1 f1h (fun b hb => ?_) (it_zp (hst.sub fun y hy => List.mem_append_left _ hy) (hst'.sub fun y hy => List.mem_append_right _ (List.mem_append_left _ hy)) hl hl')⟩
      have hb : b ∈ F2 ∨ b ∈ F4 := by simpa using hb
      rcases hb with hb | hb
      · obtain ⟨o, ho, _⟩ := r1.dom b hb
        rw [ho]; exact Option.some_ne_none _
      · obtain ⟨o, ho, _⟩ := r3.dom b hb
        rw [ho]; exact Option.some_ne_none _
    · subst hr; exact w.elim
  · subst hr; exact w.elim
  · rename_i ha
    subst hr
    exact tA.ex S ha w
  · subst hr; exact w.elim
end
end Dd
/-! Hand layer: t.index of flat items, sorted(t) of ints, t[::-1]. -/
namespace Dd
open PySem L2 PyProof.Rows
section
variable {prog : Program} {w : World} {A : Around} {E : Value → Shared → Prop} {s : Shared}
theorem collectK {t : Bool} {l : Addr} {vs : List Value} {Q : List Value → Shared → Prop} (hl : HSq t s.heap l vs.toArray) (hz : vs.length ≤ sizeLine)
    (h : Q vs { s with heap := (s.heap.push (seqObj "list" #[] 0)).update s.heap.objs.size (Obj.mapSeq (· ++ vs.toArray)) }) : wpAny (model prog w) A (collect (.ref l)) Q E s := by
  cases t with
  | false => exact collect_list hl h hz
  | true =>
    obtain ⟨o, ho, hc, n, hd⟩ := id (show s.heap.IsTuple l vs.toArray from hl)
    unfold collect
    refine wpAny_bind (wpAny_runValue (codeAny_builtin entry_proto_collect' ?_))
    show wpAny _ _ (do again (.builtin "list.__iadd__" ⟨[← newList [], .ref l], []⟩)) _ _ s
    refine wpAny_bind (wpAny_newList (wpAny_pure ⟨Code.quiet_builtin _ (by decide +kernel), codeAny_builtin entry_list_iadd' ?_⟩))
    show wpAny _ _ (Builtin.List.listExtendWith (.ref s.heap.objs.size) (.ref l) (.ref s.heap.objs.size)) _ _ { s with heap := s.heap.push (seqObj "list" #[] 0) }
    unfold Builtin.List.listExtendWith
    have ho2 : (s.heap.push (seqObj "list" #[] 0)).get? l = some o := Heap.get?_push_of_some _ ho
    refine wpAny_bind (wpAny_typeOf (T := "tuple") ⟨o, ho2, hc⟩ ?_)
    have hty : (Value.type "tuple" == Value.type "tuple") = true := by rfl
    rw [if_pos (by rw [hty]; simp)]
    refine wpAny_bind (listItems_at ho2 hd ?_)
    refine wpAny_bind (listItems_at (xs := #[]) (n := 0) (Heap.get?_push_size _ rfl) rfl ?_)
    rw [if_neg (by simp)]
    refine wpAny_bind (listUpdate_at (xs := #[]) (n := 0) (Heap.get?_push_size _ rfl) rfl ?_ (Nat.zero_le _) (by show (#[] ++ vs.toArray).size ≤ sizeLine + 1; simp only [Array.size_append, List.size_toArray, List.length_nil]; omega))
    refine wpAny_pure ?_
    show wpAny (model prog w) A (do
      let o ← load s.heap.objs.size
      match o.data with
      | .seq xs _ => pure xs.toList
      | _ => unsupported "internal:collect") Q E { s with heap := (s.heap.push (seqObj "list" #[] 0)).update s.heap.objs.size (Obj.mapSeq (· ++ vs.toArray)) }
    refine wpAny_bind (wpAny_load (get?_update_seq (Heap.get?_push_size _ rfl) _) ?_)
    show wpAny _ _ (pure ((#[] : Array Value) ++ vs.toArray).toList) Q E _
    rw [show ((#[] : Array Value) ++ vs.toArray).toList = vs by simp]
    exact wpAny_pure h
/-- sorted(x), x a list or a tuple -/
theorem sortedK_ord {t : Bool} {l : Addr} {vs : List Value} {ltv : Value → Value → Bool} {Q : Value → Shared → Prop} (O : SrtO.Swo ltv) (hl : HSq t s.heap l vs.toArray) (hz : vs.length ≤ sizeLine)
    (hS : 2 ≤ vs.length → ∀ (h1 : Heap) (a : Addr), h1.get? a = some (seqObj "list" vs.toArray 0) → (∀ b o, s.heap.get? b = some o → b ≠ a ∧ h1.get? b = some o) → SrtO.SortableO prog w A.in1.in1 { s with heap := h1 } a vs ltv)
    (h : ∀ out : List Value, SrtO.Srtd ltv out → SrtO.Stb ltv out vs → Q (.ref (s.heap.objs.size + 1)) { s with heap := sortedAll s.heap vs out.toArray }) :
    wpAny (model prog w) A (call (.builtin "sorted") [.ref l]) Q E s := by
  refine Calls.call_function_entry kind_sorted plain_sorted entry_sorted (args_sorted1 _) ?_
  unfold Builtin.«sorted»
  refine wpAny_bind (m := checkCount "sorted" 1 1 _) (wpAny_pure ?_)
  refine wpAny_bind (collectK hl hz ?_)
  refine wpAny_bind (wpAny_newList ?_ hz)
  have hsz : ((s.heap.push (seqObj "list" #[] 0)).update s.heap.objs.size (Obj.mapSeq (· ++ vs.toArray))).objs.size = s.heap.objs.size + 1 := by
    rw [Heap.size_update, size_push']
  have hoL : (((s.heap.push (seqObj "list" #[] 0)).update s.heap.objs.size (Obj.mapSeq (· ++ vs.toArray))).push (seqObj "list" vs.toArray 0)).get? (s.heap.objs.size + 1) = some (seqObj "list" vs.toArray 0) := by
    rw [← hsz]; exact Heap.get?_push_size _ rfl
  have keep : ∀ b o, s.heap.get? b = some o → b ≠ s.heap.objs.size + 1 ∧ (((s.heap.push (seqObj "list" #[] 0)).update s.heap.objs.size (Obj.mapSeq (· ++ vs.toArray))).push (seqObj "list" vs.toArray 0)).get? b = some o := fun b o q => by
    have lt : b < s.heap.objs.size := Heap.lt_size q
    refine ⟨Nat.ne_of_lt (Nat.lt_succ_of_lt lt), Heap.get?_push_of_some _ ?_⟩
    rw [Heap.get?_update_ne _ _ _ _ (Nat.ne_of_lt lt)]
    exact Heap.get?_push_of_some _ q
  show wpAny _ _ _ _ _ { s with heap := ((s.heap.push (seqObj "list" #[] 0)).update s.heap.objs.size (Obj.mapSeq (· ++ vs.toArray))).push (seqObj "list" vs.toArray 0) }
  rw [hsz]
  refine wpAny_bind (wpAny_holding (wpAny_call_entry slot_list_sort ⟨_, hoL, rfl⟩ entry_list_sort (SrtO.list_sort_ord O hoL hz (fun h2 => hS h2 _ _ hoL keep) fun out hs hb => ⟨_, rfl, ?_⟩) (args_list_sort _)))
  exact wpAny_pure ⟨_, rfl, h out hs hb⟩
/-- t[::-1] -/
theorem getItem_tuple_rev {t sl : Addr} {items : Array Value} {u : Tok} {Q : Value → Shared → Prop} (ht : IsTup s.heap t items) (hs : s.heap.IsSliceOf sl .none .none (.int (-1) u)) (hz : items.size ≤ sizeLine)
    (h : Q (.ref s.heap.objs.size) { s with heap := s.heap.push { cls := .type "tuple", data := .seq items.toList.reverse.toArray } }) : wpAny (model prog w) A (getItem (.ref t) (.ref sl)) Q E s := by
  obtain ⟨os, hos, hcs, hds⟩ := id hs
  have hTs : s.TypeIs (.ref sl) "slice" := ⟨os, hos, hcs⟩
  unfold getItem
  try with_reducible refine wpAny_holding ?_
  first | refine wpAny_bind (wpAny_pure ?_) | skip
  refine wpAny_bind (wpAny_sequenceKey ht.typeIs (by decide) ?_)
  refine wpAny_bind (wpAny_callSpecial?_slot (name := Str.ofString "__getitem__") ht.typeIs slot_tuple_getitem (wpAny_call_entry slot_tuple_getitem ht.typeIs entry_tuple_getitem ?_ (args_tuple_getitem _ _)))
  show wpAny _ _ (Builtin.Tuple.tupleItemsOf (.ref t) >>= _) _ _ s
  refine wpAny_bind (tupleItemsOf_ ht ?_)
  refine wpAny_bind (wpAny_typeOf hTs ?_)
  rw [if_pos (by decide)]
  unfold Builtin.Slice.sliceApplied Builtin.Slice.sliceFields
  refine wpAny_bind (wpAny_bind (wpAny_bind (wpAny_field hos hds (x := .none) rfl (wpAny_bind (wpAny_field hos hds (x := .none) rfl (wpAny_bind (wpAny_field hos hds (x := .int (-1) u) rfl (wpAny_pure ?_))))))))
  refine wpAny_bind (HT.slicePart_ (.int _ _) ?_)
  show wpAny _ _ (if ((-1 : Int) == 0) = true then _ else _) _ _ s
  rw [if_neg (by decide)]
  refine wpAny_bind (HT.slicePart_ .none (wpAny_bind (HT.slicePart_ .none (wpAny_bind (wpAny_pure ?_)))))
  have ea : Builtin.Slice.sliceAdjust none none (-1) (items.size : Int) = ((items.size : Int) - 1, -1) := by
    unfold Builtin.Slice.sliceAdjust
    simp
  have ep : Builtin.Slice.slicePlaces ((items.size : Int) - 1) (-1) (-1) = items.size := by
    unfold Builtin.Slice.slicePlaces
    rw [if_neg (by decide)]
    by_cases h0 : items.size = 0
    · rw [h0]; simp
    · rw [if_pos (by omega)]
      simp only [Int.neg_neg, Int.ediv_one]
      omega
  show wpAny _ _ (match Builtin.Slice.sliceAdjust none none (-1) (items.size : Int) with | (lo, hi) => pure (lo, (-1 : Int), Builtin.Slice.slicePlaces lo hi (-1))) _ _ s
  rw [ea]
  show wpAny _ _ (pure ((items.size : Int) - 1, (-1 : Int), Builtin.Slice.slicePlaces ((items.size : Int) - 1) (-1) (-1))) _ _ s
  rw [ep]
  refine wpAny_pure ?_
  have hno : ¬ ((((items.size : Int) - 1) == 0 && (-1 : Int) == 1 && items.size == items.size) = true) := by simp
  show wpAny _ _ (if (((items.size : Int) - 1) == 0 && (-1 : Int) == 1 && items.size == items.size) = true then _ else _) _ _ s
  rw [if_neg hno]
  have epk : ((List.range items.size).filterMap fun (k : Nat) => items[((items.size : Int) - 1 + (k : Int) * (-1)).toNat]?).toArray = items.toList.reverse.toArray := by
    congr 1
    have e1 : ∀ m ≤ items.size, (List.range m).filterMap (fun (k : Nat) => items[((items.size : Int) - 1 + (k : Int) * (-1)).toNat]?) = items.toList.reverse.take m := fun m => by
      induction m with
      | zero => intro _; simp
      | succ m ih =>
        intro hm
        have hm' : m < items.toList.reverse.length := by simp; omega
        rw [List.range_succ, List.filterMap_append, ih (by omega), List.take_succ, List.getElem?_eq_getElem hm']
        congr 1
        simp only [List.filterMap_cons, List.filterMap_nil]
        rw [show ((items.size : Int) - 1 + (m : Int) * (-1)).toNat = items.size - 1 - m by omega, Array.getElem?_eq_getElem (by omega)]
        simp
    rw [e1 _ (Nat.le_refl _), List.take_of_length_le (by simp)]
  rw [epk]
  have hsz : sizeOk (.seq items.toList.reverse.toArray) := by
    show items.toList.reverse.toArray.size ≤ sizeLine
    simpa using hz
  first
    | exact wpAny_bind (m := Builtin.Tuple.tupleExact _) (wpAny_newObj_type (wpAny_pure ⟨_, rfl, wpAny_pure h⟩) hsz)
    | exact wpAny_bind (wpAny_bind (m := Builtin.Tuple.tupleExact _) (wpAny_newObj_type (wpAny_pure (wpAny_pure ⟨_, rfl, wpAny_pure h⟩)) hsz))
    | exact wpAny_bind (wpAny_bind (m := Builtin.Tuple.tupleExact _) (wpAny_newObj_type (wpAny_pure ⟨_, rfl, wpAny_pure h⟩) hsz))
end
def rSortK (K : PySem.W.Frag) : List V → Hp → VK → Prop := fun vs H Q => ∃ (t : Bool) (a : Addr) (ns : List Int), vs = [V.ref a] ∧ SqK t K H a (ns.map V.int) ∧
  ∀ (ns' : List Int) (p : Addr), ns'.Perm ns → ns'.Pairwise (· ≤ ·) → H p = none → Q (.ref p) (upd H p (.lst (ns'.map V.int)))
def rIdxT (K : PySem.W.Frag) : V → List V → Hp → VK → Prop := fun x xs H Q => ∃ (a : Addr) (ys : List V) (y : V) (j : Nat) (z : V), x = V.ref a ∧ xs = [y] ∧ SqT K H a ys ∧ flatV y = true ∧ ys.all flatV = true ∧ ys[j]? = some z ∧ eqV z y = true ∧
  (∀ (m : Nat) (z' : V), m < j → ys[m]? = some z' → eqV z' y = false) ∧ Q (.int (j : Nat)) H
def tRevT (K : PySem.W.Frag) (te : TE) : TE := fun σ H Q => te σ H fun x H1 => ∃ a xs, x = .ref a ∧ SqT K H1 a xs ∧ ∀ p, H1 p = none → Q (.ref p) (upd H1 p (.tup xs.reverse))
section
variable {X : Cx}
theorem sqk_len {t : Bool} {pins : List (Addr × Obj)} {σ : L2.St} {H : Hp} {s : Shared} {a : Addr} {xs : List V} (I : Inv X pins σ H s) (h : SqK t X.K H a xs) : ∃ its : List Value, Vals xs its ∧ HSq t s.heap a its.toArray ∧ xs.length ≤ sizeLine := by
  cases t with
  | true => obtain ⟨its, r, p, z⟩ := I.tuple h; exact ⟨its, r, p, z⟩
  | false => obtain ⟨its, r, p, z⟩ := I.list h; exact ⟨its, r, p.isList, z⟩
theorem cr_sortK : CallR X (.builtin "sorted") (rSortK X.K) := by
  intro pins s σ H vs us Q I r h
  obtain ⟨t, a, ns, rfl, hs, q⟩ := h
  obtain ⟨its, rv, hl, hz⟩ := sqk_len I hs
  rw [Vals.ref1 r]
  have hi := rv.ints
  refine sortedK_ord SrtO.swo_int hl (by rw [← rv.length]; exact hz) (fun h2 h1 a' _ _ => SrtO.ints_sortable hi h2) fun out h1 h2 => ?_
  obtain ⟨k1, k2, k3⟩ := SrtO.ints_out hi h1 h2
  obtain ⟨ep, he'⟩ := sortedAll_at s.heap its out.toArray
  have hlen : ((out.map SrtO.iv).map V.int).length ≤ sizeLine := by
    rw [List.length_map, k2.length_eq]
    rw [List.length_map] at hz
    exact hz
  exact ⟨.ref _, upd H (s.heap.objs.size + 1) (.lst ((out.map SrtO.iv).map V.int)), I.laid (t' := s.toks) (fun _ _ => sortedAll_old) (Nat.le_succ _) ⟨hlen, out, ep, vals_of_ints k1, he'⟩, rfl, q _ _ k2 k3 (I.hok.fresh (Nat.le_succ _))⟩
theorem mt_idxT : MtR X "tuple.index" (rIdxT X.K) := by
  intro pins s σ H x xs v us Q I rx rxs h
  obtain ⟨a, ys, y, j, z, rfl, rfl, hs, fy, fys, hz, hzj, hno, q⟩ := h
  cases rx
  cases rxs with
  | cons ry rt =>
    rename_i uy ut
    cases rt
    obtain ⟨its, rv, pl, hlen⟩ := I.tuple hs
    obtain ⟨⟨cls, dd, data, sl⟩, ho, hc, n, hd⟩ := pl
    simp only at hc hd
    subst hc hd
    obtain ⟨u, hu, ru⟩ := rv.get hz
    obtain ⟨hjl, hje⟩ := List.getElem?_eq_some_iff.mp hu
    have hvl := rv.length
    have hj : j < its.toArray.size := by simpa using hjl
    refine call_meets PySem.F.slot_tuple_index ⟨_, ho, rfl⟩ PySem.F.entry_tuple_index (PySem.F.args_tuple_index_2 _ _)
      (TI.tuple_indexAt a its.toArray n dd sl uy (eqU y) j hj ?_ ?_) ⟨ho, fun u' hu' => mem_eqAt ry fy rv fys u' (by simpa using hu'), ?_⟩
    · rw [show its.toArray[j] = u by simpa using hje, eqU_of ru (flat_at fys hz)]
      exact hzj
    · intro m hm hmj
      have hml : m < its.length := by simpa using hm
      have hmy : m < ys.length := by omega
      have hy2 : ys[m]? = some ys[m] := List.getElem?_eq_getElem hmy
      obtain ⟨u2, hu2, ru2⟩ := rv.get hy2
      obtain ⟨_, hme⟩ := List.getElem?_eq_some_iff.mp hu2
      rw [show its.toArray[m] = u2 by simpa using hme, eqU_of ru2 (flat_at fys hy2)]
      exact hno m _ hmj hy2
    · exact ⟨.int (j : Nat), H, I.tok _, ⟨_, rfl⟩, q⟩
theorem pe_revT {e : Expr} {te : TE} {k : Nat} {p1 p2 p3 pos : Pos} (he : PE X e te) : PE X (.Subscript e (.Slice none none (some (.UnaryOp .USub (.Constant (.int 1) k p1) p2)) p3) pos) (tRevT X.K te) := by
  refine ⟨fun pins s σ H Q I h => ?_⟩
  refine Subscript_ (thn (he.run pins s σ H _ I h) fun v s1 ⟨x, H1, I1, r1, q1⟩ => ?_)
  obtain ⟨a, xs, ex, hx, q⟩ := q1
  subst ex
  cases r1
  have hst : PO X (some (.UnaryOp .USub (.Constant (.int 1) k p1) p2)) (tPart (tUn (rU fun i => .int (-i)) (tC (.int 1)))) := po_some (pe_un un_neg pe_int)
  refine wpAny_Slice (thn (po_none.run pins s1 σ H1 (fun o H2 => o = none ∧ H2 = H1) I1 ⟨rfl, rfl⟩) fun vl s2 ⟨l, H2, I2, pl, el, e2⟩ => ?_)
  subst el e2
  refine thn (po_none.run pins s2 σ H2 (fun o H3 => o = none ∧ H3 = H2) I2 ⟨rfl, rfl⟩) fun vu s3 ⟨u, H3, I3, pu, eu, e3⟩ => ?_
  subst eu e3
  refine thn (hst.run pins s3 σ H3 (fun o H4 => o = some (-1) ∧ H4 = H3) I3 ⟨1, rfl, -1, rfl, rfl, rfl⟩) fun vs s4 ⟨o, H4, I4, ps, eo, e4⟩ => ?_
  subst eo e4
  have I5 : Inv X pins σ H4 { s4 with heap := s4.heap.push { cls := .type "slice", data := .fields #[vl, vu, vs] } } := I4.kept (t' := s4.toks) fun b ob q => Heap.get?_push_of_some _ q
  obtain ⟨its, r, ht, hz⟩ := I5.tuple hx
  have hlen := r.length
  show wpAny (model X.prog X.w) X.A (subscriptTail e (.Slice none none (some (.UnaryOp .USub (.Constant (.int 1) k p1) p2)) p3) (.ref a) (.ref s4.heap.objs.size)) (EP X pins σ Q) X.xe { s4 with heap := s4.heap.push { cls := .type "slice", data := .fields #[vl, vu, vs] } }
  refine tail_any (ops := [.ref a, .ref s4.heap.objs.size]) ht.typeIs slot_tuple_getitem.lookup ?_ (by with_unfolding_all rfl)
  cases pl
  cases pu
  cases ps
  refine getItem_tuple_rev ht (Heap.IsSliceOf.new _ _ _ _) (by rw [List.size_toArray]; omega) ?_
  refine ⟨.ref _, _, I5.laid (t' := s4.toks) (o := .tup xs.reverse) (fun b ob q => Heap.get?_push_of_some _ q) (Nat.le_refl _) ?_, rfl, q _ (I5.hok.fresh (Nat.le_refl _))⟩
  exact ⟨by rw [List.length_reverse]; exact hz, _, r.reverse, IsTup.new _ _⟩
end
end Dd
/-! sorted of ints, x[::-1], list(range(n)), range with a step, a, b = x, y: on data. -/
namespace Dd
open PySem L2 PyProof.Rows
def intsD : List D → Option (List Int)
  | [] => some []
  | .int i :: ds => (intsD ds).map fun ns => i :: ns
  | _ :: _ => none
def srt (ns : List Int) : List Int := ns.mergeSort (fun x y => decide (x ≤ y))
theorem intsD_eq : ∀ {ds : List D} {ns : List Int}, intsD ds = some ns → ds = ns.map D.int
  | [], ns, h => by simp only [intsD, Option.some.injEq] at h; rw [← h]; rfl
  | .int i :: ds, ns, h => by
    simp only [intsD, Option.map_eq_some_iff] at h
    obtain ⟨ms, h1, rfl⟩ := h
    rw [intsD_eq h1]; rfl
  | .non :: _, _, h => by simp [intsD] at h
  | .bl _ :: _, _, h => by simp [intsD] at h
  | .str _ :: _, _, h => by simp [intsD] at h
  | .box _ _ _ :: _, _, h => by simp [intsD] at h
@[simp] theorem intsD_map : ∀ ns : List Int, intsD (ns.map D.int) = some ns
  | [] => rfl
  | n :: ns => by simp [intsD, intsD_map ns]
theorem vals_intsD {G : Gx} {Z H : Hp} : ∀ {ns : List Int} {vs : List V} {F : List Addr}, RepL G Z H (ns.map D.int) vs F → vs = ns.map V.int
  | [], _, _, h => by rw [h.1]; rfl
  | n :: ns, vs, F, h => by
    obtain ⟨v, vs', F1, F2, e1, e2, h1, h2⟩ := h
    rw [e1, h1.1, vals_intsD h2]; rfl
theorem srt_eq {ns ms : List Int} (h : ms.Perm ns) (p : ms.Pairwise (· ≤ ·)) : ms = srt ns := by
  have hp : (srt ns).Pairwise (fun a b => decide (a ≤ b) = true) := List.pairwise_mergeSort (fun a b c h1 h2 => by simp at *; omega) (fun a b => by simp; omega) ns
  have hq : (srt ns).Pairwise (· ≤ ·) := hp.imp fun h => by simpa using h
  have hr : ms.Perm (srt ns) := h.trans (List.mergeSort_perm _ _).symm
  refine List.Perm.eq_of_pairwise ?_ p hq hr
  intro a b _ _ h1 h2
  omega
def fSorted (x : D) : Option (Bool × D) := match seqD x with
  | some (_, ds) => (intsD ds).map fun ns => (true, .box true .lst ((srt ns).map D.int))
  | none => none
def fRev : D → Option (Bool × D)
  | .box _ .lst ds => if frzL ds = true then some (true, .box true .lst ds.reverse) else none
  | .box _ .tup ds => if frzL ds = true then some (true, .box false .tup ds.reverse) else none
  | _ => none
theorem x_sorted {X : Cx} : CallR X (.builtin "sorted") (rSortK X.K) := cr_sortK
section
variable {G : Gx} {Z H : Hp}
theorem o_sorted : Op1 G (fun x H Q => rSortK G.K [x] H Q) fSorted := by
  intro Z H x v F1 fr z zh r1 hf Q k
  unfold fSorted at hf
  split at hf
  · rename_i t ds hs
    cases hn : intsD ds with
    | none => rw [hn] at hf; cases hf
    | some ns =>
      rw [hn] at hf
      simp only [Option.map_some, Option.some.injEq, Prod.mk.injEq] at hf
      obtain ⟨rfl, rfl⟩ := hf
      obtain ⟨a, vs, rfl, hl, hst, hsq⟩ := rep_sqk zh r1 hs
      have e1 := intsD_eq hn
      subst e1
      have e2 := vals_intsD hl
      subst e2
      refine ⟨t, a, ns, rfl, hsq, fun ms p h1 h2 hp => ?_⟩
      have e3 := srt_eq h1 h2
      subst e3
      exact k _ _ _ [p] (New.own zh hp) (rep_newL zh hp (repL_ints _)) fun _ => ⟨by simp, fun b hb => by rw [List.mem_singleton.mp hb]; exact ⟨hp, z_none zh hp⟩⟩
  · cases hf
end
section
variable {c : Cc} {X : Cx} {e a b : Expr} {m : DE} {ma : DA} {pos p : Pos}
theorem e_rev {k : Nat} {p1 p2 p3 : Pos} (h : PE X e (tE c m)) (hK : X.K = c.G.K := by rfl) : PE X (.Subscript e (.Slice none none (some (.UnaryOp .USub (.Constant (.int 1) k p1) p2)) p3) pos) (tE c (bind1 fRev m)) := by
  have hl := pe_revL (k := k) (p1 := p1) (p2 := p2) (p3 := p3) (pos := pos) h
  have ht := pe_revT (k := k) (p1 := p1) (p2 := p2) (p3 := p3) (pos := pos) h
  refine ⟨fun pins s σ H Q I w => ?_⟩
  obtain ⟨Z, ρ, F, S, w⟩ := w
  cases hm : m ρ with
  | bad => simp only [bind1, hm] at w
  | ex x xs ρ1 =>
    simp only [bind1, hm] at w
    exact hl.run pins s σ H Q I (tE.ex S hm w)
  | ok f1 x e1 ρ1 =>
    simp only [bind1, hm] at w
    cases x with
    | box own kd ds =>
      cases kd with
      | lst =>
        by_cases hz : frzL ds = true
        · simp only [fRev, hz, if_true] at w
          refine hl.run pins s σ H Q I (tE.ok S hm fun Z1 H1 F1 v G1 P1 R1 f1h => ?_)
          obtain ⟨a, vs, rfl, hl, hst, hsq⟩ := rep_sqk (t := false) (ds := ds) P1.sta.zh R1 (by simp [seqD, hz])
          refine ⟨a, vs, rfl, by rw [hK]; exact hsq, fun q hq => ?_⟩
          have zh := P1.sta.zh
          have n := New.own (o := .lst vs.reverse) zh hq
          have P := P1.trans (PostE.new P1.sta n)
          rw [Bool.or_false] at P
          exact w _ _ F1 _ [q] P (rep_newL zh hq (hl.reverse rfl)) fun _ => Fresh.earlier P1 (fresh_of ⟨by simp, fun b hb => by rw [List.mem_singleton.mp hb]; exact ⟨hq, z_none zh hq⟩⟩ fun a ha => P1.sta.dom ha)
        · simp only [fRev, if_neg hz] at w
      | tup =>
        by_cases hz : frzL ds = true
        · simp only [fRev, hz, if_true] at w
          refine ht.run pins s σ H Q I (tE.ok S hm fun Z1 H1 F1 v G1 P1 R1 f1h => ?_)
          obtain ⟨a, vs, rfl, hl, hst, hsq⟩ := rep_sqk (t := true) (ds := ds) P1.sta.zh R1 (by simp [seqD, hz])
          refine ⟨a, vs, rfl, by rw [hK]; exact hsq, fun q hq => ?_⟩
          have zh := P1.sta.zh
          have n := New.fro (o := .tup vs.reverse) zh hq
          have P := P1.trans (PostE.new P1.sta n)
          rw [Bool.or_false] at P
          exact w _ _ F1 _ [] P (rep_newT zh hq (hl.reverse rfl)) fun _ => Fresh.nil
        · simp only [fRev, if_neg hz] at w
      | _ => simp only [fRev] at w
    | _ => simp only [fRev] at w
def dListR1 (ma : DE) : DE := fun ρ => match ma ρ with
  | .ok _ (.int n) e ρ1 => if 0 ≤ n ∧ n.natAbs ≤ 16777216 then .ok true (.box true .lst (rangeD 0 n.toNat)) e ρ1 else .bad
  | .ok _ _ _ _ => .bad
  | .ex c xs ρ1 => .ex c xs ρ1
  | .bad => .bad
theorem rgV_repL {G : Gx} {Z H : Hp} (n : Int) : RepL G Z H (rangeD 0 n.toNat) (rgV 0 n) [] := by
  have e1 : rangeD 0 n.toNat = ((List.range n.toNat).map fun (i : Nat) => (0 + (i : Int))).map D.int := by simp [rangeD]
  have e2 : rgV 0 n = ((List.range n.toNat).map fun (i : Nat) => (0 + (i : Int))).map V.int := by simp [rgV]
  rw [e1, e2]
  exact repL_ints _
theorem e_listR1 {p2 pos2 : Pos} (hc : X.calm = true) (hgl : Gl X "list") (hml : X.mg "list" = none) (hg : Gl X "range") (hm : X.mg "range" = none) (h : PE X a (tE c m)) (na : starEach [a] X.env = (false, eval a X.env) :: starEach [] X.env := by rfl)
    (na2 : starEach [(.Call (.Name "range" p2) [a] [] pos2 : Expr)] X.env = (false, eval (.Call (.Name "range" p2) [a] [] pos2 : Expr) X.env) :: starEach [] X.env := by rfl) :
    PE X (.Call (.Name "list" p) [.Call (.Name "range" p2) [a] [] pos2] [] pos) (tE c (dListR1 m)) := (pe_listRg hc hgl hml (prg_1 hg hm h na) na2).imp fun σ H Q w => by
  obtain ⟨Z, ρ, F, S, w⟩ := w
  show tE c m σ H fun x H1 => ∃ n, x = .int n ∧ RgOk 0 n ∧ ∀ q, H1 q = none → Q (.ref q) (upd H1 q (.lst (rgV 0 n)))
  cases hm : m ρ with
  | bad => simp only [dListR1, hm] at w
  | ex x xs ρ1 =>
    simp only [dListR1, hm] at w
    exact tE.ex S hm w
  | ok f1 x e1 ρ1 =>
    cases x with
    | int n =>
      simp only [dListR1, hm] at w
      by_cases hn : 0 ≤ n ∧ n.natAbs ≤ 16777216
      · rw [if_pos hn] at w
        refine tE.ok S hm fun Z1 H1 F1 v G1 P1 R1 f1h => ⟨n, R1.1, RgOk.of_le (by omega) (by have := hn.2; omega) (by omega) hn.1, fun q hq => ?_⟩
        have zh := P1.sta.zh
        have nw := New.own (o := .lst (rgV 0 n)) zh hq
        have P := P1.trans (PostE.new P1.sta nw)
        rw [Bool.or_false] at P
        exact w _ _ F1 _ [q] P (rep_newL zh hq (rgV_repL n)) fun _ => Fresh.earlier P1 (fresh_of ⟨by simp, fun b hb => by rw [List.mem_singleton.mp hb]; exact ⟨hq, z_none zh hq⟩⟩ fun a ha => P1.sta.dom ha)
      · rw [if_neg hn] at w
        exact w.elim
    | _ => simp only [dListR1, hm] at w
/-! ### range(a, b, c) -/
def rangeC (lo c : Int) (n : Nat) : List D := (List.range n).map fun (i : Nat) => D.int (lo + (i : Int) * c)
def nStep (i j c : Int) : Nat := (Builtin.Range.rangeSize i j c).toNat
def dRange3 (a : DA) : DI := fun ρ => match a ρ with
  | .ok _ [.int i, .int j, .int c] e ρ1 => if 0 < c ∧ c.natAbs < 1000 ∧ i.natAbs ≤ 1000000 ∧ j.natAbs ≤ 1000000 then .ok true (rangeC i c ((j - i + c - 1) / c).toNat) e ρ1 else .bad
  | .ok _ _ _ _ => .bad
  | .ex c xs ρ1 => .ex c xs ρ1
  | .bad => .bad
theorem it_rangeC {G : Gx} {Z H : Hp} {lo c : Int} {n : Nat} {Gk : List Addr} : IterOk G (Itc lo c n) Z H (rangeC lo c n) Gk := by
  have hl : (rangeC lo c n).length = n := by simp [rangeC]
  refine ⟨fun Z2 H2 e1 e2 k i d hd => ?_, fun Z2 H2 e1 e2 k => by rw [hl]; exact Nat.le_refl n⟩
  have hi : i < n := by
    have := (List.getElem?_eq_some_iff.mp hd).1
    rwa [hl] at this
  have ed : d = .int (lo + (i : Int) * c) := by
    unfold rangeC at hd
    rw [List.getElem?_map, List.getElem?_range hi] at hd
    exact (Option.some.inj hd).symm
  subst ed
  refine ⟨hi, fun x H3 hy _ => ?_⟩
  obtain ⟨rfl, rfl⟩ := hy
  exact ⟨Z2, New.refl e2, rfl, rfl⟩
theorem rgC_ok {i j c : Int} (h : 0 < c ∧ c.natAbs < 1000 ∧ i.natAbs ≤ 1000000 ∧ j.natAbs ≤ 1000000) : RgC i j c ((j - i + c - 1) / c).toNat := by
  obtain ⟨h1, h2, h3, h4⟩ := h
  have e : Builtin.Range.rangeSize i j c = ((((j - i + c - 1) / c).toNat : Nat) : Int) := by
    unfold Builtin.Range.rangeSize
    rw [if_pos h1]
    by_cases hij : i < j
    · simp only [hij, if_true]
      have q : (j - i + c - 1) / c = (j - i - 1) / c + 1 := by
        rw [show j - i + c - 1 = (j - i - 1) + 1 * c by omega, Int.add_mul_ediv_right _ _ (by omega)]
      have q0 : 0 ≤ (j - i - 1) / c := Int.ediv_nonneg (by omega) (by omega)
      rw [q]; omega
    · simp only [hij, if_false]
      have q : (j - i + c - 1) / c ≤ 0 := by
        have : (j - i + c - 1) / c < 1 := Int.ediv_lt_of_lt_mul h1 (by omega)
        omega
      omega
  have sz : Builtin.Range.rangeSize i j c ≤ 2000001 := by
    rw [e]
    have q2 : (j - i + c - 1) / c < 2000002 := Int.ediv_lt_of_lt_mul h1 (by omega)
    omega
  refine ⟨by omega, by omega, ?_, e⟩
  unfold Builtin.Range.small Builtin.Range.rangeFitsLong
  have s0 : 0 ≤ Builtin.Range.rangeSize i j c := by rw [e]; omega
  generalize Builtin.Range.rangeSize i j c = z at *
  simp only [Bool.and_eq_true, decide_eq_true_eq]
  refine ⟨⟨⟨⟨⟨?_, ?_⟩, ?_, ?_⟩, ?_, ?_⟩, ?_, ?_⟩, ?_⟩ <;> try omega
  rw [Bool.or_eq_true, if_pos (by omega), Bool.and_eq_true, decide_eq_true_eq, decide_eq_true_eq]
  exact .inr ⟨by omega, by omega⟩
theorem i_range3 {tg d : Expr} (hg : Gl X "range") (hm : X.mg "range" = none) (ha : PA X [a, b, d] (tA c ma)) (hs : starEach [a, b, d] X.env = (false, eval a X.env) :: starEach [b, d] X.env := by rfl) (hpl : (backTo pos (starEach [b, d] X.env)).any (·.1) = false := by rfl) : PI X tg (.Call (.Name "range" p) [a, b, d] [] pos) (tI c (dRange3 ma)) := (pi_range3 hg hm ha hs hpl).imp fun σ H R w => by
  obtain ⟨Z, ρ, F, S, w⟩ := w
  generalize hr : dRange3 ma ρ = r at w
  unfold dRange3 at hr
  split at hr
  · rename_i f i j k eff ρ1 ha
    split at hr
    · rename_i hk
      subst hr
      refine tA.ok S ha fun Z1 H1 F1 vs G1 P1 R1 f1h => ?_
      obtain ⟨v, vs', F2, F3, rfl, _, r1, v2, vs2, F4, F5, rfl, _, r2, v3, vs3, F6, F7, rfl, _, r3, r4⟩ := R1
      exact ⟨i, j, k, _, by rw [r1.1, r2.1, r3.1, r4.1], rgC_ok hk, w Z1 H1 F1 [] _ P1 Fresh.nil (by simp) it_rangeC⟩
    · subst hr; exact w.elim
  · subst hr; exact w.elim
  · rename_i ha
    subst hr
    exact tA.ex S ha w
  · subst hr; exact w.elim
/-! ### x, y = a, b -/
def dPar (i j : Nat) (m : DA) : DS := fun ρ => match m ρ with
  | .ok _ [d, d'] _ ρ1 => if i < ρ1.length ∧ j < ρ1.length then .nx ((ρ1.set i (some d)).set j (some d')) else .bad
  | .ok _ _ _ _ => .bad
  | .ex c xs ρ1 => .ex c xs ρ1
  | .bad => .bad
theorem par_imp {i j : Nat} {D : Ends} {σ : L2.St} {H : Hp} (hl : lkOk c.lk i = true) (hl2 : lkOk c.lk j = true) (w : tS c (dPar i j ma) D σ H) : tPar i j (tA c ma) D σ H := by
  obtain ⟨Z, ρ, F, S, w⟩ := w
  show tA c ma σ H fun vs H1 => ∃ v w, vs = [v, w] ∧ D.nx ((σ.set i (some v)).set j (some w)) H1
  generalize hr : dPar i j ma ρ = r at w
  unfold dPar at hr
  split at hr
  · rename_i f d d' eff ρ1 ha
    split at hr
    · rename_i hk
      subst hr
      refine tA.ok S ha fun Z1 H1 F1 vs G1 P1 R1 fr => ?_
      obtain ⟨v, vs', F2, F3, rfl, rfl, r1, v2, vs2, F4, F5, rfl, rfl, r2, r3⟩ := R1
      obtain ⟨rfl, rfl⟩ := r3
      rw [List.append_nil] at fr
      obtain ⟨n1, n2, n3⟩ := List.nodup_append.mp fr.nd
      obtain ⟨Fa, S1, h1⟩ := P1.sta.set hk.1 r1 n1 (fun a ha => fr.nz a (List.mem_append_left _ ha)) (fun a ha => fr.nf a (List.mem_append_left _ ha)) (lkOk.ne hl)
      obtain ⟨Fb, S2, h2⟩ := S1.set (by rw [List.length_set]; exact hk.2) r2 n2 (fun a ha => fr.nz a (List.mem_append_right _ ha)) (fun a ha q => (h1 a q).elim (fr.nf a (List.mem_append_right _ ha)) fun q => n3 a q a ha rfl) (lkOk.ne hl2)
      refine ⟨v, v2, rfl, w Z1 H1 Fb _ (P1.st.sub' fr fun a ha => ?_) S2⟩
      rcases h2 a ha with q | q
      · exact (h1 a q).imp id (List.mem_append_left _)
      · exact .inr (List.mem_append_right _ q)
    · subst hr; exact w.elim
  · subst hr; exact w.elim
  · rename_i ha
    subst hr
    exact tA.ex S ha fun Z2 H2 F2 s2 S2 => w Z2 H2 F2 σ s2 S2
  · subst hr; exact w.elim
theorem s_par {i j : Nat} {x y : Str} {px py pt : Pos} {kt k2 pt2} (hc : X.calm = true) (hN : X.N.Nodup) (hi : X.N[i]? = some x) (hj : X.N[j]? = some y) (hij : i ≠ j)
    (hx : X.env.scope.names.lookup x = some .local) (hy : X.env.scope.names.lookup y = some .local) (ha : PA X [a, b] (tA c ma)) (hl : lkOk c.lk i = true := by rfl) (hl2 : lkOk c.lk j = true := by rfl)
    (hw : swappedStores [.Tuple [.Name x px, .Name y py] kt pt] (.Tuple [a, b] k2 pt2) X.env = pure (some [x, y]) := by rfl)
    (hs : swapsWithSole [.Tuple [.Name x px, .Name y py] kt pt] (.Tuple [a, b] k2 pt2) pos.line X.env = pure false := by rfl) :
    PS X (.Assign [.Tuple [.Name x px, .Name y py] kt pt] (.Tuple [a, b] k2 pt2) pos) (tS c (dPar i j ma)) := (ps_par hc hN hi hj hij hx hy ha hw hs).imp fun _ _ _ w => par_imp hl hl2 w
end
end Dd
/-! x[i][j] = v of nested owned lists; what is lent for a while. -/
namespace Dd
open PySem L2
section
variable {G : Gx} {lk : List (Nat × V)} {Z H : Hp} {σ : L2.St} {ρ : Env} {F : List Addr}
theorem RepL.splitm : ∀ {ds : List D} {vs : List V} {F : List Addr} {j : Nat} {d : D}, RepL G Z H ds vs F → ds[j]? = some d → ∃ v A F1 B, vs[j]? = some v ∧ F = A ++ F1 ++ B ∧ Rep G Z H d v F1 ∧
    ∀ Z' H' e u Ge, Ex Z Z' → (∀ b ∈ A ++ B, ∀ o, H b = some o → (∀ ps, o ≠ .tbl ps) → H' b = some o) → Rep G Z' H' e u Ge → RepL G Z' H' (ds.set j e) (vs.set j u) (A ++ Ge ++ B)
  | [], _, _, _, _, _, e => by simp at e
  | c :: ds, vs, F, 0, d, h, e => by
    obtain ⟨v, vs', F1, F2, e1, e2, h1, h2⟩ := h
    simp only [List.getElem?_cons_zero, Option.some.injEq] at e
    subst e
    exact ⟨v, [], F1, F2, by rw [e1]; rfl, by rw [e2]; rfl, h1, fun Z' H' e u Ge z k r => ⟨u, vs', Ge, F2, by rw [e1]; rfl, rfl, r, h2.mono z fun b hb => k b (by simpa using hb)⟩⟩
  | c :: ds, vs, F, j + 1, d, h, e => by
    obtain ⟨v, vs', F1, F2, e1, e2, h1, h2⟩ := h
    simp only [List.getElem?_cons_succ] at e
    obtain ⟨w, A, F3, B, g1, g2, g3, g4⟩ := RepL.splitm h2 e
    exact ⟨w, F1 ++ A, F3, B, by rw [e1]; exact g1, by rw [e2, g2]; simp, g3, fun Z' H' e u Ge z k r => ⟨v, vs'.set j u, F1, A ++ Ge ++ B, by rw [e1]; rfl, by simp, h1.mono z fun b hb => k b (by simp [hb]), g4 Z' H' e u Ge z (fun b hb => k b (by rcases List.mem_append.mp hb with q | q <;> simp [q])) r⟩⟩
/-- one object of slot i is written -/
theorem State.wr {i : Nat} {d d' : D} {v : V} {A F1 B F2 : List Addr} {x : Addr} {o u : HO} (S : State G lk Z H σ ρ F) (hi : ρ[i]? = some (some d)) (g1 : σ[i]? = some (some v)) (g2 : F = A ++ F1 ++ B) (g4 : RepS G Z H (ρ.set i none) σ (A ++ B))
    (hx : x ∈ F1) (hu : H x = some u) (nt : ∀ ps, u ≠ .tbl ps) (nxt : ∀ b w, u ≠ .frz b w) (rr : Rep G Z (L2.upd H x o) d' v F2) (nd : F2.Nodup) (p : ∀ b ∈ F2, Z b = none ∧ b ∉ A ++ B) (nto : ∀ xs, o ≠ .tup xs := by intro _ z; cases z) :
    ∃ F', State G lk Z (L2.upd H x o) σ (ρ.set i (some d')) F' ∧ Step Z H (F ++ F2) Z (L2.upd H x o) F' ∧ ∀ b ∈ F', b ∈ F2 ∨ b ∈ A ++ B := by
  have hlt : i < ρ.length := by
    rcases Nat.lt_or_ge i ρ.length with h | h
    · exact h
    · rw [List.getElem?_eq_none h] at hi; cases hi
  obtain ⟨n1, n2, n3⟩ := nodup_mid (by rw [← g2]; exact S.nd)
  have inF : x ∈ F := by rw [g2]; exact mem_mid.mpr (.inl hx)
  have zx : Z x = none := S.fz x inF
  have nx : x ∉ A ++ B := n3 x hx
  have keep : ∀ b w, b ≠ x → H b = some w → L2.upd H x o b = some w := fun b w q e => by rw [upd_ne q]; exact e
  have tgk : ∀ P, TBx.Tb H P → TBx.Tb (L2.upd H x o) P := fun P t => t.upd hu nt nxt
  have zh : Ex Z (L2.upd H x o) := fun b w e => keep b w (fun q => by rw [q, zx] at e; cases e) (S.zh b w e)
  have rest : RepS G Z (L2.upd H x o) (ρ.set i none) σ (A ++ B) := g4.mono (Ex.refl _) fun b hb w e _ => keep b w (fun q => nx (q ▸ hb)) e
  obtain ⟨A', B', p1, p2⟩ := RepS.put (i := i) rest (by rw [List.getElem?_set_self hlt]) rr
  rw [List.set_set] at p2
  have es : σ.set i (some v) = σ := by
    have hs : i < σ.length := by rw [← S.rs.length]; exact hlt
    rw [List.getElem?_eq_getElem hs] at g1
    rw [← Option.some.inj g1, List.set_getElem_self]
  rw [es] at p2
  have cases' : ∀ b ∈ A' ++ F2 ++ B', b ∈ F2 ∨ b ∈ A ++ B := fun b h => (mem_mid.mp h).imp id fun q => by rw [p1]; exact q
  refine ⟨A' ++ F2 ++ B', ⟨zh, p2, nodup_put (by rw [← p1]; exact n1) nd fun b hb q => (p b hb).2 (by rw [p1]; exact q), fun b hb => ?_, S.lk, ⟨fun P hP => ⟨tgk P (S.tb.1 P hP).1, (S.tb.1 P hP).2⟩, fun q xs h => S.tb.2.1 q xs (tp_upd nto h), S.tb.2.2⟩⟩,
    ⟨Ex.refl _, zh, fun b h => ?_, fun b w e hn _ => keep b w (fun q => hn (List.mem_append_left _ (q ▸ inF))) e, fun P t _ => tgk P t, fun b hb => ?_, fun b _ _ z => z, fun q xs h => .inl (tp_upd nto h), fun _ _ h => h⟩, cases'⟩
  · rcases cases' b hb with h | h
    · exact (p b h).1
    · exact S.fz b (by rw [g2]; exact mem_mid.mpr (.inr h))
  · by_cases q : b = x
    · rw [q, upd_same]; exact Option.some_ne_none _
    · rw [upd_ne q]; exact h
  · rcases cases' b hb with h | h
    · exact .inl (List.mem_append_right _ h)
    · exact .inl (List.mem_append_left _ (by rw [g2]; exact mem_mid.mpr (.inr h)))
end
/-- x[k1][k2] = v, k1 and k2 without effect -/
def dSet2 (i : Nat) (m1 m2 me : DE) : DS := fun ρ => match me ρ with
  | .ok f d e1 ρ1 => if (f || frz d) = true then (match m1 ρ1 with
    | .ok _ (.int k1) false _ => (match m2 ρ1 with
      | .ok _ (.int k2) false _ => (match ρ1[i]? with
        | some (some (.box true .lst ds)) => (match ixN ds.length k1 with
          | some j1 => (match ds[j1]? with
            | some (.box true .lst es) => (match ixN es.length k2 with
              | some j2 => .nx (ρ1.set i (some (.box true .lst (ds.set j1 (.box true .lst (es.set j2 d))))))
              | none => .bad)
            | _ => .bad)
          | none => .bad)
        | _ => .bad)
      | _ => .bad)
    | _ => .bad) else .bad
  | .ex c xs ρ1 => .ex c xs ρ1
  | .bad => .bad
section
variable {c : Cc} {X : Cx} {st : Stmt} {me m1 m2 : DE} {i : Nat}
theorem tE.quiet {m : DE} {Z H : Hp} {σ : L2.St} {ρ : Env} {F : List Addr} {Q : VK} {fr d ρ'} (S : State c.G c.lk Z H σ ρ F) (e : m ρ = .ok fr d false ρ') (k : ∀ Z' H' v Gf, New Z H Z' H' → State c.G c.lk Z' H' σ ρ F → Rep c.G Z' H' d v Gf → Q v H') : tE c m σ H Q :=
  tE.ok S e fun Z' H' F' v Gf P R _ => by
    obtain ⟨h1, h2, h3⟩ := P.qui rfl
    subst h1 h2
    exact k Z' H' v Gf h3 P.sta R
theorem set2_imp {D : Ends} {σ : L2.St} {H : Hp} (w : tS c (dSet2 i m1 m2 me) D σ H) : tAsg (tE c me) (gSub (tOp (rIx c.G.K) (tVar i) (tE c m1)) (tE c m2) rSetL) D σ H := by
  obtain ⟨Z, ρ, F, S, w⟩ := w
  show tE c me σ H fun x H1 => ∃ v, σ[i]? = some (some v) ∧ tE c m1 σ H1 fun y H2 => rIx c.G.K v y H2 fun o H3 => tE c m2 σ H3 fun k H4 => rSetL o k x H4 fun H5 => D.nx σ H5
  unfold dSet2 at w
  split at w
  · rename_i f d eff ρ1 ha
    split at w
    · rename_i hk
      refine tE.ok S ha fun Z1 H1 F1 u G1 P1 R1 f1h => ?_
      have fr := fresh_or hk R1 f1h
      split at w
      · rename_i f2 k1 ρ2 hb
        split at w
        · rename_i f3 k2 ρ3 hc
          split at w
          · rename_i ds hj
            split at w
            · rename_i j1 hx1
              split at w
              · rename_i es hd
                split at w
                · rename_i j2 hx2
                  obtain ⟨v0, _, _, _, g0, _⟩ := P1.sta.rs.get hj
                  refine ⟨v0, g0, tE.quiet P1.sta hb fun Z2 H2 kv G2 n2 S2 R2 => ?_⟩
                  obtain ⟨v, A, Fs, B, g1, g2, g3, g4⟩ := S2.rs.get hj
                  have ev : v0 = v := by rw [g0] at g1; exact Option.some.inj (Option.some.inj g1)
                  subst ev
                  obtain ⟨a, vs, Fi, rfl, hs, hl, ho, _, hF⟩ := rep_lst S2.zh g3
                  obtain ⟨w0, A2, F3, B2, p1, p2, p3, p4⟩ := hl.splitm hd
                  obtain ⟨a2, ws, F4, rfl, hs2, hl2, ho2, _, hF2⟩ := rep_lst S2.zh p3
                  have ho := ho rfl
                  have ho2 := ho2 rfl
                  have hF := hF rfl
                  have hF2 := hF2 rfl
                  subst hF hF2
                  have ix1 : atI vs k1 = some (.ref a2) := by
                    unfold atI
                    rw [← hl.length, hx1]
                    exact p1
                  refine .inl ⟨a, vs, k1, .ref a2, rfl, R2.1, hs, ix1, tE.quiet S2 hc fun Z3 H3 kw G3 n3 S3 R3 => ?_⟩
                  have h3 : ∀ b ∈ F1, ∀ o, H2 b = some o → (∀ ps, o ≠ .tbl ps) → H3 b = some o := fun b _ o e t => n3.hh.fr b o e t
                  obtain ⟨w2, A3, F5, B3, q1, q2, q3, q4⟩ := hl2.splitm (List.getElem?_eq_getElem (ixN_seq hx2).2.1)
                  have dm : ∀ b ∈ G1, H1 b ≠ none := fun b hb => let ⟨_, h, _⟩ := R1.dom b hb; ne_none h
                  have n23 := n2.trans n3
                  have z3 : ∀ b ∈ G1, Z3 b = none := fun b hb => (n23.nn b (dm b hb)).trans (fr.nz b hb)
                  obtain ⟨m1, m2, m3⟩ := nodup_mid (by rw [← g2]; exact S3.nd)
                  obtain ⟨m4, m5⟩ := List.nodup_cons.mp m2
                  rw [p2] at m4 m5
                  obtain ⟨m6, m7, m8⟩ := nodup_mid m5
                  obtain ⟨m9, m10⟩ := List.nodup_cons.mp m7
                  rw [q2] at m9 m10
                  obtain ⟨m11, m12, m13⟩ := nodup_mid m10
                  have inF : ∀ b, b ∈ a :: (A2 ++ (a2 :: F4) ++ B2) → b ∈ F1 := fun b hb => by rw [g2, p2]; exact mem_mid.mpr (.inl hb)
                  have nG : ∀ b ∈ G1, b ∉ a :: (A2 ++ (a2 :: F4) ++ B2) := fun b hb q => fr.nf b hb (inF b q)
                  have ne12 : a ≠ a2 := fun q => m4 (by rw [q]; exact mem_mid.mpr (.inl List.mem_cons_self))
                  have o2 : H3 a2 = some (.lst ws) := n3.hh.fr a2 _ ho2 (fun _ z => nomatch z)
                  have o1 : H3 a = some (.lst vs) := n3.hh.fr a _ ho (fun _ z => nomatch z)
                  have keep : ∀ b o, b ≠ a2 → H2 b = some o → (∀ ps, o ≠ .tbl ps) → L2.upd H3 a2 (.lst (ws.set j2 u)) b = some o := fun b o q e t => by rw [upd_ne q]; exact n3.hh.fr b o e t
                  have R1' : Rep c.G Z3 (L2.upd H3 a2 (.lst (ws.set j2 u))) d u G1 := R1.mono n23.zz fun b hb o e t => by
                    rw [upd_ne fun q => nG b hb (by rw [q]; exact List.mem_cons_of_mem _ (mem_mid.mpr (.inl List.mem_cons_self)))]
                    exact n23.hh.fr b o e t
                  have r2 : RepL c.G Z3 (L2.upd H3 a2 (.lst (ws.set j2 u))) (es.set j2 d) (ws.set j2 u) (A3 ++ G1 ++ B3) := q4 _ _ d u G1 n3.zz (fun b hb o e t => keep b o (fun q => m9 (by rw [← q]; exact mem_mid.mpr (.inr hb))) e t) R1'
                  have r3 : Rep c.G Z3 (L2.upd H3 a2 (.lst (ws.set j2 u))) (.box true .lst (es.set j2 d)) (.ref a2) (a2 :: (A3 ++ G1 ++ B3)) := ⟨a2, _, _, rfl, r2, fun q => (nomatch q), fun _ => ⟨rfl, _, upd_same, rfl⟩⟩
                  have r4 := p4 _ _ _ _ _ n3.zz (fun b hb o e t => keep b o (fun q => m8 a2 List.mem_cons_self (q ▸ hb)) e t) r3
                  have evs : vs.set j1 (.ref a2) = vs := by
                    have hj1 : j1 < vs.length := by rw [← hl.length]; exact (ixN_seq hx1).2.1
                    rw [List.getElem?_eq_getElem hj1] at p1
                    rw [← Option.some.inj p1, List.set_getElem_self]
                  rw [evs] at r4
                  have rr : Rep c.G Z3 (L2.upd H3 a2 (.lst (ws.set j2 u))) (.box true .lst (ds.set j1 (.box true .lst (es.set j2 d)))) (.ref a) (a :: (A2 ++ (a2 :: (A3 ++ G1 ++ B3)) ++ B2)) := ⟨a, _, _, rfl, r4, fun q => (nomatch q), fun _ => ⟨rfl, _, by rw [upd_ne ne12]; exact o1, rfl⟩⟩
                  have sub : ∀ b ∈ a :: (A2 ++ (a2 :: (A3 ++ G1 ++ B3)) ++ B2), b ∈ G1 ∨ b ∈ a :: (A2 ++ (a2 :: F4) ++ B2) := fun b hb => by
                    rw [q2]
                    simp only [List.mem_cons, List.mem_append] at hb ⊢
                    grind
                  have nd1 : (A3 ++ G1 ++ B3).Nodup := nodup_put m11 fr.nd fun b hb q => nG b hb (by rw [q2]; exact List.mem_cons_of_mem _ (mem_mid.mpr (.inl (List.mem_cons_of_mem _ (mem_mid.mpr (.inr q))))))
                  have nd2 : (a2 :: (A3 ++ G1 ++ B3)).Nodup := List.nodup_cons.mpr ⟨fun q => by
                    rcases mem_mid.mp q with h | h
                    · exact nG a2 h (List.mem_cons_of_mem _ (mem_mid.mpr (.inl List.mem_cons_self)))
                    · exact m9 (mem_mid.mpr (.inr h)), nd1⟩
                  have nd3 : (A2 ++ (a2 :: (A3 ++ G1 ++ B3)) ++ B2).Nodup := nodup_put m6 nd2 fun b hb q => by
                    rcases List.mem_cons.mp hb with h | h
                    · exact m8 a2 List.mem_cons_self (h ▸ q)
                    · rcases mem_mid.mp h with h | h
                      · exact nG b h (List.mem_cons_of_mem _ (mem_mid.mpr (.inr q)))
                      · exact m8 b (List.mem_cons_of_mem _ (by rw [q2]; exact mem_mid.mpr (.inr h))) q
                  have nd4 : (a :: (A2 ++ (a2 :: (A3 ++ G1 ++ B3)) ++ B2)).Nodup := List.nodup_cons.mpr ⟨fun q => by
                    rcases sub a (List.mem_cons_of_mem _ q) with h | h
                    · exact nG a h List.mem_cons_self
                    · rcases mem_mid.mp q with h | h
                      · rcases List.mem_cons.mp h with h | h
                        · exact ne12 h
                        · rcases mem_mid.mp h with h | h
                          · exact nG a h List.mem_cons_self
                          · exact m4 (mem_mid.mpr (.inl (List.mem_cons_of_mem _ (by rw [q2]; exact mem_mid.mpr (.inr h)))))
                      · exact m4 (mem_mid.mpr (.inr h)), nd3⟩
                  have inA : a2 ∈ a :: (A2 ++ (a2 :: F4) ++ B2) := List.mem_cons_of_mem _ (mem_mid.mpr (.inl List.mem_cons_self))
                  rw [p2] at g2
                  have S3rest : RepS c.G Z3 H3 (ρ1.set i none) σ (A ++ B) := g4.mono n3.zz fun b hb o e t => n3.hh.fr b o e t
                  obtain ⟨F', S', st', hF'⟩ := S3.wr hj g1 g2 S3rest inA o2 (fun _ z => nomatch z) (fun _ _ z => nomatch z) rr nd4 fun b hb => by
                    rcases sub b hb with h | h
                    · exact ⟨z3 b h, fun q => fr.nf b h (by rw [g2]; exact mem_mid.mpr (.inr q))⟩
                    · exact ⟨S3.fz b (inF b h), m3 b (by rw [p2]; exact h)⟩
                  have fr2 : Fresh H F Z3 F1 G1 := ⟨fr.nd, fr.nh, z3, fr.nf⟩
                  have st3 : Step Z H F Z3 H3 F1 := P1.st.trans n23.step
                  refine ⟨a2, ws, k2, j2, rfl, R3.1, o2, by rw [← hl2.length]; exact hx2, w Z3 _ F' σ (st3.call fr2 st' (fun b hb => ?_) fun b hb => ?_) S'⟩
                  · rcases List.mem_append.mp hb with hb | hb
                    · exact .inl hb
                    · rcases sub b hb with h | h
                      · exact .inr h
                      · exact .inl (inF b h)
                  · exact .inr hb
                · exact w.elim
              · exact w.elim
            · exact w.elim
          · exact w.elim
        · exact w.elim
      · exact w.elim
    · exact w.elim
  · rename_i x xs ρ1 ha
    exact tE.ex S ha fun Z' H' F' => w Z' H' F' σ
  · exact w.elim
theorem s_set2 (h : PS X st (tAsg (tE c me) (gSub (tOp (rIx c.G.K) (tVar i) (tE c m1)) (tE c m2) rSetL))) : PS X st (tS c (dSet2 i m1 m2 me)) := h.imp fun _ _ _ w => set2_imp w
end
/-! ### lent for a while -/
def frzAt : List Nat → Env → Env
  | [], ρ => ρ
  | i :: is, ρ => match ρ[i]? with
    | some (some d) => frzAt is (ρ.set i (some (fz d)))
    | _ => frzAt is ρ
theorem State.frzs {G : Gx} {lk : List (Nat × V)} {H : Hp} {σ : L2.St} : ∀ (is : List Nat) {Z : Hp} {ρ : Env} {F : List Addr}, State G lk Z H σ ρ F → ∃ Z' F', State G lk Z' H σ (frzAt is ρ) F' ∧ Ex Z Z'
  | [], Z, ρ, F, S => ⟨Z, F, S, Ex.refl Z⟩
  | i :: is, Z, ρ, F, S => by
    cases hi : ρ[i]? with
    | none => simp only [frzAt, hi]; exact State.frzs is S
    | some o =>
      cases o with
      | none => simp only [frzAt, hi]; exact State.frzs is S
      | some d =>
        simp only [frzAt, hi]
        obtain ⟨v, Z1, F1, _, _, S1, st⟩ := S.freeze hi
        obtain ⟨Z2, F2, S2, e2⟩ := State.frzs is S1
        exact ⟨Z2, F2, S2, st.zz.trans e2⟩
/-- what was frozen for a while is not -/
theorem New.back {Z Z1 Z2 H H2 : Hp} (n : New Z1 H Z2 H2) (e1 : Ex Z Z1) (z1 : Ex Z1 H) : ∃ Z3, New Z H Z3 H2 := by
  let Z3 : Hp := fun a => match H a with
    | none => Z2 a
    | some _ => Z a
  have y1 : ∀ a, H a = none → Z3 a = Z2 a := fun a h => by show (match H a with | none => Z2 a | some _ => Z a) = _; rw [h]
  have y2 : ∀ a, H a ≠ none → Z3 a = Z a := fun a h => by
    show (match H a with | none => Z2 a | some _ => Z a) = _
    cases q : H a with
    | none => exact absurd q h
    | some o => rfl
  refine ⟨Z3, fun a o h => ?_, n.hh, fun a o h => ?_, y2, fun q xs h => ?_, fun P ps h => ?tz⟩
  case tz =>
    cases q : H P with
    | none =>
      rw [y1 P q] at h
      rw [z1 P _ (n.tz P ps h)] at q
      cases q
    | some u => rw [y2 P (by rw [q]; exact Option.some_ne_none u)] at h; exact h
  · rw [y2 a (by rw [z1 a o (e1 a o h)]; exact Option.some_ne_none o)]; exact h
  · cases q : H a with
    | none => rw [y1 a q] at h; exact n.zh a o h
    | some u => rw [y2 a (by rw [q]; exact Option.some_ne_none u)] at h; exact n.zh a o (n.zz a o (e1 a o h))
  · cases z : H q with
    | none =>
      rcases n.tp q xs h with h | h
      · rw [z] at h; cases h
      · right; rw [y1 q z]; exact h
    | some u =>
      left
      rcases n.tp q xs h with h | h
      · rw [← z]; exact h
      · rw [n.nn q (by rw [z]; exact Option.some_ne_none u)] at h
        rw [← z]; exact z1 q _ h
/-- what stands at these slots is frozen as long as m runs; m gives a scalar -/
def dBor (is : List Nat) (m : DE) : DE := fun ρ => match m (frzAt is ρ) with
  | .ok _ d false _ => if (sv d).isSome = true then .ok true d false ρ else .bad
  | _ => .bad
theorem e_bor {c : Cc} {X : Cx} {e : Expr} {m : DE} (is : List Nat) (h : PE X e (tE c m)) : PE X e (tE c (dBor is m)) := h.imp fun σ H Q w => by
  obtain ⟨Z, ρ, F, S, w⟩ := w
  obtain ⟨Z1, F1, S1, e1⟩ := State.frzs is S
  cases hm : m (frzAt is ρ) with
  | bad => simp only [dBor, hm] at w
  | ex x xs ρ1 => simp only [dBor, hm] at w
  | ok fr d eff ρ1 =>
    cases eff with
    | true => simp only [dBor, hm] at w
    | false =>
      by_cases hs : (sv d).isSome = true
      · simp only [dBor, hm, hs, if_true] at w
        obtain ⟨u, hu⟩ := Option.isSome_iff_exists.mp hs
        refine tE.quiet S1 hm fun Z2 H2 v Gf n S2 R => ?_
        have ev : v = u := sv_eq R hu
        subst ev
        obtain ⟨Z3, nn⟩ := New.back n e1 S1.zh
        exact w Z3 H2 F v [] (PostE.new S nn) (sv_rep hu) fun _ => Fresh.nil
      · simp only [dBor, hm, if_neg hs] at w
@[simp] theorem v_dBor (is : List Nat) (m : DE) (ρ : Env) : dBor is m ρ = match m (frzAt is ρ) with
  | .ok _ d false _ => if (sv d).isSome = true then .ok true d false ρ else .bad
  | _ => .bad := rfl
@[simp] theorem v_frzAt0 (ρ : Env) : frzAt [] ρ = ρ := rfl
@[simp] theorem v_frzAt1 (i : Nat) (is : List Nat) (ρ : Env) : frzAt (i :: is) ρ = match ρ[i]? with
    | some (some d) => frzAt is (ρ.set i (some (fz d)))
    | _ => frzAt is ρ := rfl
@[simp] theorem v_svN : sv .non = some .non := rfl
@[simp] theorem v_svB (b : Bool) : sv (.bl b) = some (.bl b) := rfl
@[simp] theorem v_svI (i : Int) : sv (.int i) = some (.int i) := rfl
@[simp] theorem v_svS (s : Str) : sv (.str s) = some (.str s) := rfl
@[simp] theorem v_dSet2 (i : Nat) (m1 m2 me : DE) (ρ : Env) : dSet2 i m1 m2 me ρ = match me ρ with
  | .ok f d e1 ρ1 => if (f || frz d) = true then (match m1 ρ1 with
    | .ok _ (.int k1) false _ => (match m2 ρ1 with
      | .ok _ (.int k2) false _ => (match ρ1[i]? with
        | some (some (.box true .lst ds)) => (match ixN ds.length k1 with
          | some j1 => (match ds[j1]? with
            | some (.box true .lst es) => (match ixN es.length k2 with
              | some j2 => .nx (ρ1.set i (some (.box true .lst (ds.set j1 (.box true .lst (es.set j2 d))))))
              | none => .bad)
            | _ => .bad)
          | none => .bad)
        | _ => .bad)
      | _ => .bad)
    | _ => .bad) else .bad
  | .ex c xs ρ1 => .ex c xs ρ1
  | .bad => .bad := rfl
@[simp] theorem v_dEnum (m : DA) (ρ : Env) : dEnum m ρ = match m ρ with
  | .ok _ [d] e ρ1 => (match seqD d with | some (_, ds) => .ok true (enumD 0 ds) e ρ1 | none => .bad)
  | .ok _ _ _ _ => .bad
  | .ex c xs ρ1 => .ex c xs ρ1
  | .bad => .bad := rfl
@[simp] theorem v_dZip (m : DA) (ρ : Env) : dZip m ρ = match m ρ with
  | .ok _ [d, d'] e ρ1 => (match seqD d, seqD d' with | some (_, ds), some (_, es) => .ok true (zipD ds es) e ρ1 | _, _ => .bad)
  | .ok _ _ _ _ => .bad
  | .ex c xs ρ1 => .ex c xs ρ1
  | .bad => .bad := rfl
@[simp] theorem v_seqL (o : Bool) (ds : List D) : seqD (.box o .lst ds) = if frzL ds = true then some (false, ds) else none := rfl
@[simp] theorem v_seqT (o : Bool) (ds : List D) : seqD (.box o .tup ds) = if frzL ds = true then some (true, ds) else none := rfl
@[simp] theorem v_revL (o : Bool) (ds : List D) : fRev (.box o .lst ds) = if frzL ds = true then some (true, .box true .lst ds.reverse) else none := rfl
@[simp] theorem v_revT (o : Bool) (ds : List D) : fRev (.box o .tup ds) = if frzL ds = true then some (true, .box false .tup ds.reverse) else none := rfl
@[simp] theorem v_dListR1 (ma : DE) (ρ : Env) : dListR1 ma ρ = match ma ρ with
  | .ok _ (.int n) e ρ1 => if 0 ≤ n ∧ n.natAbs ≤ 16777216 then .ok true (.box true .lst (rangeD 0 n.toNat)) e ρ1 else .bad
  | .ok _ _ _ _ => .bad
  | .ex c xs ρ1 => .ex c xs ρ1
  | .bad => .bad := rfl
@[simp] theorem v_dRange3 (a : DA) (ρ : Env) : dRange3 a ρ = match a ρ with
  | .ok _ [.int i, .int j, .int c] e ρ1 => if 0 < c ∧ c.natAbs < 1000 ∧ i.natAbs ≤ 1000000 ∧ j.natAbs ≤ 1000000 then .ok true (rangeC i c ((j - i + c - 1) / c).toNat) e ρ1 else .bad
  | .ok _ _ _ _ => .bad
  | .ex c xs ρ1 => .ex c xs ρ1
  | .bad => .bad := rfl
@[simp] theorem v_dPar (i j : Nat) (m : DA) (ρ : Env) : dPar i j m ρ = match m ρ with
  | .ok _ [d, d'] _ ρ1 => if i < ρ1.length ∧ j < ρ1.length then .nx ((ρ1.set i (some d)).set j (some d')) else .bad
  | .ok _ _ _ _ => .bad
  | .ex c xs ρ1 => .ex c xs ρ1
  | .bad => .bad := rfl
end Dd
/-! The end of a law whose defs hold generator expressions: the code objects' tables. -/
namespace Dd
open PySem L2
/-- the code object of the module's def x and its table -/
def codeTb (K : PySem.W.Frag) (x : Str) : Addr × Addr := match K.lookup (He.ga K x) with
  | some ⟨_, _, .func fd, _⟩ => (match fd.code with
    | .ref c => (match K.lookup c with
      | some ⟨_, _, .fields vs, _⟩ => (match (vs[11]? : Option Value) with
        | some (.ref P) => (c, P)
        | _ => (0, 0))
      | _ => (0, 0))
    | _ => (0, 0))
  | _ => (0, 0)
def tabsL (K : PySem.W.Frag) (gs : List Str) : List (Addr × Addr) := gs.map (codeTb K)
/-- the part without the tables -/
def cutT (K : PySem.W.Frag) (ps : List (Addr × Addr)) : PySem.W.Frag := K.filter fun q => !(ps.map (·.2)).contains q.1
theorem cutT_look {K : PySem.W.Frag} {ts : List Addr} {a : Addr} : (K.filter fun q => !ts.contains q.1).lookup a = if ts.contains a = true then none else K.lookup a := by
  induction K with
  | nil => simp
  | cons q K ih =>
    obtain ⟨b, o⟩ := q
    by_cases hb : ts.contains b = true
    · rw [List.filter_cons_of_neg (by simpa using hb), ih]
      by_cases e : a == b
      · have e' := beq_iff_eq.mp e
        subst e'
        rw [if_pos hb, if_pos hb]
      · rw [List.lookup_cons, show (a == b) = false by simpa using e]
    · rw [List.filter_cons_of_pos (by simpa using hb)]
      by_cases e : a == b
      · have e' := beq_iff_eq.mp e
        subst e'
        rw [if_neg hb, List.lookup_cons, List.lookup_cons, e]
      · rw [List.lookup_cons, List.lookup_cons, show (a == b) = false by simpa using e]
        exact ih
theorem cutT_in {K : PySem.W.Frag} {ps : List (Addr × Addr)} {h : Heap} (X : K.In h) : (cutT K ps).In h := fun a o e => by
  unfold cutT at e
  rw [cutT_look] at e
  split at e
  · cases e
  · exact X a o e
theorem cutT_no {K : PySem.W.Frag} {ps : List (Addr × Addr)} : ∀ p ∈ ps, (cutT K ps).lookup p.2 = none := fun p hp => by
  unfold cutT
  rw [cutT_look, if_pos (by rw [List.contains_iff_mem]; exact List.mem_map.mpr ⟨p, hp, rfl⟩)]
def isTab (K : PySem.W.Frag) (P : Addr) : Bool := match K.lookup P with
  | some ⟨.none, none, .fields vs, sl⟩ => vs.isEmpty && sl.isEmpty
  | _ => false
theorem isTab_ok {K : PySem.W.Frag} {P : Addr} {h : Heap} (X : K.In h) (e : isTab K P = true) : h.get? P = some { cls := .none, data := .fields #[] } := by
  unfold isTab at e
  split at e
  · rename_i vs sl hk
    rw [Bool.and_eq_true, Array.isEmpty_iff, Array.isEmpty_iff] at e
    obtain ⟨rfl, rfl⟩ := e
    exact X _ _ hk
  · cases e
def codeIs (K : PySem.W.Frag) (x : Str) (c : Addr) : Bool := match K.lookup (He.ga K x) with
  | some ⟨_, _, .func fd, _⟩ => (match fd.code with
    | .ref d => d == c
    | _ => false)
  | _ => false
theorem codeIs_ok {K : PySem.W.Frag} {x : Str} {c : Addr} {st : Stmt} {fd : FuncData} (F : Got K x st fd) (e : codeIs K x c = true) : fd.code = .ref c := by
  obtain ⟨oc, od, dV, kV, doc, pm, an, cdv, ct, osl, e1, lk, hcd, hD, hK⟩ := F.ex
  unfold codeIs at e
  rw [lk] at e
  cases hc : fd.code with
  | ref d =>
    simp only [hc] at e
    rw [eq_of_beq e]
  | _ => simp only [hc] at e; cases e
/-- what is asked of the defs gs: their code objects, their empty tables -/
def chkT (K1 K : PySem.W.Frag) : List Str → List (Addr × Addr) → Bool
  | x :: gs, p :: ps => (codeIs K x p.1 && (PySem.W.codeHdIn K p.1 p.2 && isTab K1 p.2)) && chkT K1 K gs ps
  | [], [] => true
  | _, _ => false
theorem chkT_at {K1 K : PySem.W.Frag} : ∀ {gs : List Str} {ps : List (Addr × Addr)}, chkT K1 K gs ps = true → gs.length = ps.length ∧ ∀ (i : Nat) (x : Str) (p : Addr × Addr), gs[i]? = some x → ps[i]? = some p → codeIs K x p.1 = true ∧ PySem.W.codeHdIn K p.1 p.2 = true ∧ isTab K1 p.2 = true
  | [], [], _ => ⟨rfl, fun i x p h => by simp at h⟩
  | [], _ :: _, h => by simp [chkT] at h
  | _ :: _, [], h => by simp [chkT] at h
  | x :: gs, p :: ps, h => by
    obtain ⟨h1, h2⟩ := He.ba (show ((codeIs K x p.1 && (PySem.W.codeHdIn K p.1 p.2 && isTab K1 p.2)) && chkT K1 K gs ps) = true from h)
    obtain ⟨h3, h4⟩ := He.ba h1
    obtain ⟨h5, h6⟩ := He.ba h4
    obtain ⟨e, k⟩ := chkT_at h2
    refine ⟨by simp [e], fun i y q hi hq => ?_⟩
    cases i with
    | zero => simp at hi hq; subst hi hq; exact ⟨h3, h5, h6⟩
    | succ i => exact k i y q (by simpa using hi) (by simpa using hq)
def obsC (chk : PySem.W.Frag → Bool) (gs : List Str) (fa : List He.Fa) (fn : List He.DefD) (K1 : PySem.W.Frag) : AlB :=
  let ps := tabsL K1 gs
  let K := cutT K1 ps
  (chk K && chkT K1 K gs ps, He.obsD fa fn K)
def obsCG (n : Nat) (chk : PySem.W.Frag → Bool) (gs : List Str) (fa : List He.Fa) (fn : List He.DefD) (g : Addr → Option Obj) : AlB := obsC chk gs fa fn (He.frG g (He.asD g n))
def hookC (n : Nat) (chk : PySem.W.Frag → Bool) (gs : List Str) (fa : List He.Fa) (fn : List He.DefD) : PySem.W.Hook where
  α := AlB
  obs := fun s => obsCG n chk gs fa fn s.heap.get?
  val := fun _ => (true, He.valD fn)
  says := fun _ h => ∃ K1 : PySem.W.Frag, K1.In h ∧ obsC chk gs fa fn K1 = (true, He.valD fn)
  of := fun _ _ e => ⟨_, He.frG_in, e⟩
  keeps := fun _ _ _ ⟨K, hK, c⟩ k => ⟨K, PySem.W.Frag.In.keeps hK k, c⟩
theorem obsCG_eq {n : Nat} {chk : PySem.W.Frag → Bool} {gs : List Str} {fa : List He.Fa} {fn : List He.DefD} {g : Addr → Option Obj} {s : Shared} (h : ∀ a, g a = s.heap.get? a) : obsCG n chk gs fa fn g = (hookC n chk gs fa fn).obs s := by
  rw [show g = s.heap.get? from funext h] <;> rfl
/-- what the hook tells -/
theorem saysC {chk : PySem.W.Frag → Bool} {gs : List Str} {fa : List He.Fa} {fn : List He.DefD} {K1 : PySem.W.Frag} {h : Heap} (X : K1.In h) (e : obsC chk gs fa fn K1 = (true, He.valD fn)) :
    ∃ (K : PySem.W.Frag) (ps : List (Addr × Addr)), K.In h ∧ chk K = true ∧ He.SaysD fa fn K ∧ gs.length = ps.length ∧ (∀ p ∈ ps, h.get? p.2 = some { cls := .none, data := .fields #[] }) ∧ (∀ p ∈ ps, K.lookup p.2 = none) ∧ (∀ p ∈ ps, PySem.W.CodeHd h p.1 p.2) ∧
      ∀ (i : Nat) (x : Str) (p : Addr × Addr), gs[i]? = some x → ps[i]? = some p → codeIs K x p.1 = true := by
  have e1 : (chk (cutT K1 (tabsL K1 gs)) && chkT K1 (cutT K1 (tabsL K1 gs)) gs (tabsL K1 gs)) = true := congrArg (fun z : AlB => z.1) e
  have e2 : He.obsD fa fn (cutT K1 (tabsL K1 gs)) = He.valD fn := congrArg (fun z : AlB => z.2) e
  obtain ⟨h1, h2⟩ := He.ba e1
  obtain ⟨hl, hk⟩ := chkT_at h2
  have get : ∀ p ∈ tabsL K1 gs, ∃ x, codeIs (cutT K1 (tabsL K1 gs)) x p.1 = true ∧ PySem.W.codeHdIn (cutT K1 (tabsL K1 gs)) p.1 p.2 = true ∧ isTab K1 p.2 = true := fun p hp => by
    obtain ⟨i, hi, e⟩ := List.getElem_of_mem hp
    have hg : i < gs.length := by rw [hl]; exact hi
    exact ⟨gs[i], hk i gs[i] p (List.getElem?_eq_getElem hg) (by rw [List.getElem?_eq_getElem hi, e])⟩
  refine ⟨cutT K1 (tabsL K1 gs), tabsL K1 gs, cutT_in X, h1, e2, hl, fun p hp => ?_, cutT_no, fun p hp => ?_, fun i x p h3 h4 => (hk i x p h3 h4).1⟩
  · obtain ⟨_, _, _, h⟩ := get p hp
    exact isTab_ok X h
  · obtain ⟨_, _, h, _⟩ := get p hp
    exact PySem.W.codeHd_of_K (cutT_in X) h
/-- the promise of a law, tables ahead -/
def spHoldT (K : PySem.W.Frag) (tb : List Addr) (n : Nat) : Sp := fun vs H Q _ => ∃ (a : Addr) (ns : List Int), vs = [.ref a] ∧ SqL K H a (ns.map V.int) ∧ ns.length ≤ n ∧ (∀ z ∈ ns, Builtin.Int.intBits z ≤ 1048576) ∧ (∀ P ∈ tb, H P = some (.tbl #[])) ∧ ∀ H', Q (.bl true) H'
theorem law_okT {P : Program} {w : World} {K : PySem.W.Frag} {mg : Str → Option Value} {base : Heap} {CX : CXT} {k n : Nat} {f : Addr} {fd : FuncData} {F : DF} {tb : List Addr}
    (h : ∀ ns : List Int, ns.length ≤ n → (∀ z ∈ ns, Builtin.Int.intBits z ≤ 1048576) → F [D.fl (ns.map D.int)] = .ok (.bl true) [])
    (O : FnOk P w K mg base CX k f fd ["script"] (spD (gxT K mg tb) 1 false F)) : FnOk P w K mg base CX k f fd ["script"] (spHoldT K tb n) :=
  O.imp fun vs H Q E ⟨a, ns, hv, hS, hl, hb, hT, q⟩ => by
    subst hv
    have hz : SqL K (noTb H) a (ns.map V.int) := by
      rcases hS with (h1 | ⟨o, h1⟩) | h1
      · exact .inl (.inl (noTb_at h1 fun _ z => nomatch z))
      · exact .inl (.inr ⟨o, noTb_at h1 fun _ z => nomatch z⟩)
      · exact .inr h1
    refine ⟨rfl, noTb H, [D.fl (ns.map D.int)], [], noTb_ex H, ⟨(fun P hP => ⟨TBx.Tb.empty (hT P hP), ?_⟩), fun q xs h => noTb_at h (fun _ z => nomatch z), noTb_no H⟩, ?_, List.nodup_nil, (fun a ha => nomatch ha), ?_⟩
    · unfold noTb
      rw [hT P hP]
    · refine ⟨.ref a, [], [], [], rfl, rfl, ?_, rfl, rfl⟩
      exact ⟨a, ns.map V.int, [], rfl, repL_ints ns, fun _ => ⟨rfl, hz, .inr rfl⟩, fun z => nomatch z⟩
    · rw [h ns hl hb]
      intro Z' H' Fo v Gr _ _ _ _ r _
      rw [show v = .bl true from r.1]
      exact q H'
/-- from the top to the law's def, tables on the way -/
theorem walk_lawT {l : PySem.W.OpenLaw} {m lv : Nat} {q : Program} {lo : List Str} {XQ : (Str → Option Value) → Heap → Prop} {YQ : World → Heap → Prop} {dr : DefRec}
    (h1 : l.most = some m) (h2 : m ≤ sizeLine) (h3 : dr.params.defaults = []) (h4 : Room lv callerA)
    (h5 : ∀ (w : World) (mg : Str → Option Value) (fa : Addr) (hp : Heap), YQ w hp → hp.Ns mainGlobals mg → mg dr.name = some (.ref fa) →
      ∃ (K : PySem.W.Frag) (fd : FuncData) (cs : List (Addr × Addr)), K.In hp ∧ (∀ p ∈ cs, hp.get? p.2 = some { cls := .none, data := .fields #[] }) ∧ (∀ p ∈ cs, K.lookup p.2 = none) ∧ (∀ p ∈ cs, PySem.W.CodeHd hp p.1 p.2) ∧ (∀ (s : Shared) (u : Value), BindsTo s fd ⟨[u], []⟩ [("script", u)]) ∧
        ∀ base : Heap, K.In base → base.Ns mainGlobals mg → (∀ p ∈ cs, LamX.TabB base mg p.1 p.2) → FnOk l.prog w K mg base (L2.CX l.prog w) lv fa fd ["script"] (spHoldT K (cs.map (·.2)) m)) :
    PySem.W.WalkO q lo XQ YQ l.row.toRowW dr [] (fun f vs => PySem.call f vs) := by
  refine Att.attach_callB h1 h3 fun w s0 s1 mg mb fa o pm cd doc a vs ns G Y _ _ _ hmg hobj hints hlen hbits hg => ?_
  obtain ⟨K, fd, cs, KX, hT, nT, C, hb, hF⟩ := h5 w mg fa _ Y G.T.g hmg
  exact LamX.law_callTs KX G.T.g G.T.b G.T.builtins G.T.nolimit hg hT nT C G.T.bmain hobj hints (Nat.le_trans hlen h2) h4 hF hb
    (fun H hH hS => ⟨a, ns, rfl, hS, hlen, hbits, (fun P hP => by
      obtain ⟨p, hp, rfl⟩ := List.mem_map.mp hP
      exact hH p hp), fun _ => rfl⟩) (fun H e s' z => by
      obtain ⟨_, _, _, _, _, _, _, _, _, _, _, _, z⟩ := z
      exact z)
end Dd
/-! Loops without effect, evaluated. -/
namespace Dd
open PySem L2
section
variable {α : Type} {it : DI} {t : Tg} {test : DT} {elt : DE} {vs : List Nat} {ρ ρ1 ρ0 : Dd.Env} {f e : Bool} {body : DS}
theorem lcq_go (c : α → D) (b : α → Bool) (y : α → D) : ∀ (xs : List α) (acc : List D), acc.length + xs.length ≤ 1000000 →
    (∀ x ∈ xs, ∃ ρx f1, t (c x) ρ0 = some ρx ∧ test ρx = .ok f1 (b x) false ρx ∧ (b x = true → ∃ f2, elt ρx = .ok f2 (y x) false ρx ∧ (f2 || frz (y x)) = true) ∧ wipeE ρx vs = ρ0) →
    lcLoop t test elt vs (xs.map c) acc false ρ0 = .ok true (acc ++ (xs.filter b).map y) false ρ0
  | [], acc, _, _ => by simp [lcLoop]
  | x :: xs, acc, hl, h => by
    have hl' : acc.length + (xs.length + 1) ≤ 1000000 := hl
    obtain ⟨ρx, f1, h1, h2, h3, h4⟩ := h x List.mem_cons_self
    have rest := fun z hz => h z (List.mem_cons_of_mem _ hz)
    cases hb : b x with
    | true =>
      obtain ⟨f2, h5, h6⟩ := h3 hb
      rw [hb] at h2
      have ih := lcq_go c b y xs (acc ++ [y x]) (by simp <;> omega) rest
      have c2 : acc.length < 1000000 := by omega
      simp only [List.map_cons, lcLoop, h1, h2, h5, h6, c2, if_true, h4, Bool.or_false, ih, List.filter_cons, hb]
      simp
    | false =>
      rw [hb] at h2
      have ih := lcq_go c b y xs acc (by omega) rest
      simp only [List.map_cons, lcLoop, h1, h2, h4, Bool.or_false, ih, List.filter_cons, hb]
      simp
/-- a comprehension without effect -/
theorem lc_q (xs : List α) (c : α → D) (b : α → Bool) (y : α → D) (hit : it ρ = .ok f (xs.map c) e ρ1) (hl : xs.length ≤ 1000000)
    (h : ∀ x ∈ xs, ∃ ρx f1, t (c x) (wipeE ρ1 vs) = some ρx ∧ test ρx = .ok f1 (b x) false ρx ∧ (b x = true → ∃ f2, elt ρx = .ok f2 (y x) false ρx ∧ (f2 || frz (y x)) = true) ∧ wipeE ρx vs = wipeE ρ1 vs) :
    dLc it t test elt vs ρ = .ok true (.box true .lst ((xs.filter b).map y)) e ρ1 := by
  have := lcq_go c b y xs [] (by simpa using hl) h
  simp only [v_dLc, hit, this, List.nil_append, Bool.or_false]
  simp
theorem lc_q1 (xs : List α) (c : α → D) (y : α → D) (hit : it ρ = .ok f (xs.map c) e ρ1) (hl : xs.length ≤ 1000000)
    (h : ∀ x ∈ xs, ∃ ρx f2, t (c x) (wipeE ρ1 vs) = some ρx ∧ elt ρx = .ok f2 (y x) false ρx ∧ (f2 || frz (y x)) = true ∧ wipeE ρx vs = wipeE ρ1 vs) :
    dLc it t dYes elt vs ρ = .ok true (.box true .lst (xs.map y)) e ρ1 := by
  have := lc_q (t := t) (test := dYes) (elt := elt) (vs := vs) xs c (fun _ => true) y hit hl fun x hx => by
    obtain ⟨ρx, f2, h1, h2, h3, h4⟩ := h x hx
    exact ⟨ρx, true, h1, rfl, fun _ => ⟨f2, h2, h3⟩, h4⟩
  rw [this, List.filter_eq_self.mpr fun _ _ => rfl]
/-- tuple(genexp) without effect -/
theorem tg_q (xs : List α) (c : α → D) (b : α → Bool) (y : α → D) (hit : it ρ = .ok f (xs.map c) e ρ1) (hl : xs.length ≤ 1000000)
    (h : ∀ x ∈ xs, ∃ ρx f1, t (c x) (wipeE ρ1 vs) = some ρx ∧ test ρx = .ok f1 (b x) false ρx ∧ (b x = true → ∃ f2, elt ρx = .ok f2 (y x) false ρx ∧ (f2 || frz (y x)) = true) ∧ wipeE ρx vs = wipeE ρ1 vs) (hf : frzL ((xs.filter b).map y) = true) :
    dTg it t test elt vs ρ = .ok true (.box false .tup ((xs.filter b).map y)) e ρ1 := by
  have := lcq_go c b y xs [] (by simpa using hl) h
  have hn : (List.filter b xs).length ≤ 1000000 := Nat.le_trans (List.length_filter_le _ _) hl
  simp only [v_dTg, hit, this, List.nil_append, Bool.or_false]
  simp [hf, hn]
theorem qq_go (w : Bool) (c : α → D) (b : α → Bool) (y : α → Bool) : ∀ (xs : List α),
    (∀ x ∈ xs, ∃ ρx f1, t (c x) ρ0 = some ρx ∧ test ρx = .ok f1 (b x) false ρx ∧ (b x = true → ∃ f2, elt ρx = .ok f2 (.bl (y x)) false ρx) ∧ wipeE ρx vs = ρ0) →
    qLoop w t test elt vs (xs.map c) false ρ0 = .ok true (if (xs.filter b).all (fun x => y x == w) = true then w else !w) false ρ0
  | [], _ => by simp [qLoop]
  | x :: xs, h => by
    obtain ⟨ρx, f1, h1, h2, h3, h4⟩ := h x List.mem_cons_self
    have ih := qq_go w c b y xs fun z hz => h z (List.mem_cons_of_mem _ hz)
    cases hb : b x with
    | true =>
      obtain ⟨f2, h5⟩ := h3 hb
      rw [hb] at h2
      by_cases hy : y x = w
      · simp only [List.map_cons, qLoop, h1, h2, h5, hy, if_true, h4, Bool.or_false, ih, List.filter_cons, hb, List.all_cons]
        simp [hy]
      · simp only [List.map_cons, qLoop, h1, h2, h5, if_neg hy, h4, Bool.or_false, List.filter_cons, hb, List.all_cons]
        have : y x = !w := by cases hq : y x <;> cases w <;> simp_all
        simp [this]
    | false =>
      rw [hb] at h2
      simp only [List.map_cons, qLoop, h1, h2, h4, Bool.or_false, ih, List.filter_cons, hb]
      simp
/-- all(genexp) without effect -/
theorem all_q (xs : List α) (c : α → D) (b : α → Bool) (y : α → Bool) (hit : it ρ = .ok f (xs.map c) e ρ1)
    (h : ∀ x ∈ xs, ∃ ρx f1, t (c x) (wipeE ρ1 vs) = some ρx ∧ test ρx = .ok f1 (b x) false ρx ∧ (b x = true → ∃ f2, elt ρx = .ok f2 (.bl (y x)) false ρx) ∧ wipeE ρx vs = wipeE ρ1 vs) :
    dQ true it t test elt vs ρ = .ok true (.bl ((xs.filter b).all y)) e ρ1 := by
  have := qq_go true c b y xs h
  simp only [dQ, hit, this, Bool.or_false]
  have e2 : (if (List.filter b xs).all (fun x => y x == true) = true then true else !true) = (List.filter b xs).all y := by
    have : (fun x => y x == true) = y := by funext x; simp
    rw [this]
    cases (List.filter b xs).all y <;> rfl
  rw [e2]
  simp
theorem any_q (xs : List α) (c : α → D) (b : α → Bool) (y : α → Bool) (hit : it ρ = .ok f (xs.map c) e ρ1)
    (h : ∀ x ∈ xs, ∃ ρx f1, t (c x) (wipeE ρ1 vs) = some ρx ∧ test ρx = .ok f1 (b x) false ρx ∧ (b x = true → ∃ f2, elt ρx = .ok f2 (.bl (y x)) false ρx) ∧ wipeE ρx vs = wipeE ρ1 vs) :
    dQ false it t test elt vs ρ = .ok true (.bl ((xs.filter b).any y)) e ρ1 := by
  have := qq_go false c b y xs h
  simp only [dQ, hit, this, Bool.or_false]
  have e2 : (if (List.filter b xs).all (fun x => y x == false) = true then false else !false) = (List.filter b xs).any y := by
    induction List.filter b xs with
    | nil => rfl
    | cons a l ih => cases hy : y a <;> simp [hy] at ih ⊢ <;> exact ih
  rw [e2]
  simp
/-- a loop that returns r at the first x of that kind -/
theorem for_find (c : α → D) (I : Dd.Env → Prop) (p : α → Bool) (r : D) : ∀ (xs : List α) (ρ : Dd.Env), I ρ →
    (∀ x ∈ xs, ∀ ρ, I ρ → ∃ ρ1, t (c x) ρ = some ρ1 ∧ (p x = true → ∃ ρ2, body ρ1 = .rt r ρ2) ∧ (p x = false → ∃ ρ2, (body ρ1 = .nx ρ2 ∨ body ρ1 = .ct ρ2) ∧ I ρ2)) →
    (xs.any p = true → ∃ ρ', forLoop t body (xs.map c) ρ = .rt r ρ') ∧ (xs.any p = false → ∃ ρ', forLoop t body (xs.map c) ρ = .nx ρ' ∧ I ρ')
  | [], ρ, hI, _ => ⟨fun h => by simp at h, fun _ => ⟨ρ, rfl, hI⟩⟩
  | x :: xs, ρ, hI, h => by
    obtain ⟨ρ1, h1, h2, h3⟩ := h x List.mem_cons_self ρ hI
    cases hp : p x with
    | true =>
      obtain ⟨ρ2, h4⟩ := h2 hp
      exact ⟨fun _ => ⟨ρ2, by simp only [List.map_cons, forLoop, h1, h4]⟩, fun z => by simp [hp] at z⟩
    | false =>
      obtain ⟨ρ2, h4, h5⟩ := h3 hp
      obtain ⟨k1, k2⟩ := for_find c I p r xs ρ2 h5 fun z hz => h z (List.mem_cons_of_mem _ hz)
      refine ⟨fun z => ?_, fun z => ?_⟩
      · obtain ⟨ρ', q⟩ := k1 (by simpa [hp] using z)
        exact ⟨ρ', by rcases h4 with h4 | h4 <;> simp only [List.map_cons, forLoop, h1, h4, q]⟩
      · obtain ⟨ρ', q, w⟩ := k2 (by simpa [hp] using z)
        exact ⟨ρ', by rcases h4 with h4 | h4 <;> simp only [List.map_cons, forLoop, h1, h4, q], w⟩
theorem for_findq (c : α → D) (I : Dd.Env → Prop) (p : α → Bool) (r : D) (xs : List α) (ρ : Dd.Env) (hI : I ρ)
    (h : ∀ x ∈ xs, ∀ ρ, I ρ → ∃ ρ1, t (c x) ρ = some ρ1 ∧ (p x = true → body ρ1 = .rt r ρ1) ∧ (p x = false → body ρ1 = .nx ρ1 ∨ body ρ1 = .ct ρ1) ∧ I ρ1) :
    (xs.any p = true → ∃ ρ', forLoop t body (xs.map c) ρ = .rt r ρ') ∧ (xs.any p = false → ∃ ρ', forLoop t body (xs.map c) ρ = .nx ρ' ∧ I ρ') :=
  for_find c I p r xs ρ hI fun x hx ρ hI => by
    obtain ⟨ρ1, h1, h2, h3, h4⟩ := h x hx ρ hI
    exact ⟨ρ1, h1, fun z => ⟨ρ1, h2 z⟩, fun z => ⟨ρ1, h3 z, h4⟩⟩
/-- a loop that runs through -/
theorem for_all (c : α → D) (I : Nat → Dd.Env → Prop) : ∀ (xs : List α) (n : Nat) (ρ : Dd.Env), I n ρ →
    (∀ i x ρ, xs[i]? = some x → I (n + i) ρ → ∃ ρ1 ρ2, t (c x) ρ = some ρ1 ∧ (body ρ1 = .nx ρ2 ∨ body ρ1 = .ct ρ2) ∧ I (n + i + 1) ρ2) →
    ∃ ρ', forLoop t body (xs.map c) ρ = .nx ρ' ∧ I (n + xs.length) ρ'
  | [], n, ρ, hI, _ => ⟨ρ, rfl, hI⟩
  | x :: xs, n, ρ, hI, h => by
    obtain ⟨ρ1, ρ2, h1, h2, h3⟩ := h 0 x ρ rfl hI
    obtain ⟨ρ', q, w⟩ := for_all c I xs (n + 1) ρ2 h3 fun i y σ hi hJ => by
      have := h (i + 1) y σ (by simpa using hi)
      rw [show n + (i + 1) = n + 1 + i by omega] at this
      exact this hJ
    refine ⟨ρ', ?_, by rw [List.length_cons, show n + (xs.length + 1) = n + 1 + xs.length by omega]; exact w⟩
    rcases h2 with h2 | h2 <;> simp only [List.map_cons, forLoop, h1, h2, q]
end
theorem enumD_map : ∀ (ds : List D) (n : Nat), enumD n ds = (ds.zipIdx n).map fun p => D.box false .tup [.int (p.2 : Int), p.1]
  | [], _ => rfl
  | d :: ds, n => by simp [enumD, enumD_map ds (n + 1)]
theorem zipD_map : ∀ ds es : List D, zipD ds es = (ds.zip es).map fun p => D.box false .tup [p.1, p.2]
  | [], es => by simp [zipD]
  | d :: ds, [] => by simp [zipD]
  | d :: ds, e :: es => by simp [zipD, zipD_map ds es]
theorem frzL_iff : ∀ {ds : List D}, frzL ds = true ↔ ∀ d ∈ ds, frz d = true
  | [] => by simp
  | d :: ds => by simp [frzL_iff (ds := ds)]
theorem frzL_map {α : Type} {g : α → D} (h : ∀ x, frz (g x) = true) (l : List α) : frzL (l.map g) = true := by
  rw [frzL_iff]
  intro d hd
  obtain ⟨x, _, rfl⟩ := List.mem_map.mp hd
  exact h x
theorem fz_of : ∀ {d : D}, frz d = true → fz d = d := by
  have key : (∀ d : D, frz d = true → fz d = d) := fun d => by
    induction d using D.rec (motive_2 := fun ds => frzL ds = true → fzL ds = ds) with
    | non => intro _; rfl
    | bl b => intro _; rfl
    | int i => intro _; rfl
    | str s => intro _; rfl
    | box o k ds ih =>
      intro h
      simp only [v_fX, Bool.and_eq_true, Bool.not_eq_true'] at h
      obtain ⟨rfl, h⟩ := h
      simp [ih h]
    | nil => rfl
    | cons d ds ih1 ih2 =>
      rename_i h
      simp only [v_fL1, Bool.and_eq_true] at h
      simp [ih1 h.1, ih2 h.2]
  exact fun {d} => key d
theorem fzL_frz {ds : List D} (h : frzL ds = true) : fzL ds = ds := by
  have := fz_of (d := .box false .tup ds) (by simpa using h)
  simpa using this
end Dd
namespace Dd
open PySem L2
@[simp] theorem v_eqI (x y : Int) : fEq (.int x) (.int y) = some (true, .bl (decide (x = y))) := by simp [fEq, eqV']
@[simp] theorem v_neI (x y : Int) : fNe (.int x) (.int y) = some (true, .bl (!decide (x = y))) := by simp [fNe, eqV']
@[simp] theorem v_eqB (x y : Bool) : fEq (.bl x) (.bl y) = some (true, .bl (x == y)) := by cases x <;> cases y <;> simp [fEq, eqV']
@[simp] theorem v_neB (x y : Bool) : fNe (.bl x) (.bl y) = some (true, .bl (!(x == y))) := by cases x <;> cases y <;> simp [fNe, eqV']
end Dd
namespace Dd
open PySem L2
/-- a loop that returns what g gives of the first x of which it gives something -/
theorem for_some {α : Type} {t : Tg} {body : DS} (c : α → D) (I : Dd.Env → Prop) (g : α → Option D) : ∀ (xs : List α) (ρ : Dd.Env), I ρ →
    (∀ x ∈ xs, ∀ ρ, I ρ → ∃ ρ1, t (c x) ρ = some ρ1 ∧ (∀ d, g x = some d → ∃ ρ2, body ρ1 = .rt d ρ2) ∧ (g x = none → ∃ ρ2, (body ρ1 = .nx ρ2 ∨ body ρ1 = .ct ρ2) ∧ I ρ2)) →
    (∀ d, xs.findSome? g = some d → ∃ ρ', forLoop t body (xs.map c) ρ = .rt d ρ') ∧ (xs.findSome? g = none → ∃ ρ', forLoop t body (xs.map c) ρ = .nx ρ' ∧ I ρ')
  | [], ρ, hI, _ => ⟨fun d h => by simp at h, fun _ => ⟨ρ, rfl, hI⟩⟩
  | x :: xs, ρ, hI, h => by
    obtain ⟨ρ1, h1, h2, h3⟩ := h x List.mem_cons_self ρ hI
    cases hg : g x with
    | some d =>
      obtain ⟨ρ2, h4⟩ := h2 d hg
      refine ⟨fun e he => ?_, fun z => by simp [List.findSome?_cons, hg] at z⟩
      simp only [List.findSome?_cons, hg, Option.some.injEq] at he
      subst he
      exact ⟨ρ2, by simp only [List.map_cons, forLoop, h1, h4]⟩
    | none =>
      obtain ⟨ρ2, h4, h5⟩ := h3 hg
      obtain ⟨k1, k2⟩ := for_some c I g xs ρ2 h5 fun z hz => h z (List.mem_cons_of_mem _ hz)
      refine ⟨fun e he => ?_, fun z => ?_⟩
      · obtain ⟨ρ', q⟩ := k1 e (by simpa [List.findSome?_cons, hg] using he)
        exact ⟨ρ', by rcases h4 with h4 | h4 <;> simp only [List.map_cons, forLoop, h1, h4, q]⟩
      · obtain ⟨ρ', q, w⟩ := k2 (by simpa [List.findSome?_cons, hg] using z)
        exact ⟨ρ', by rcases h4 with h4 | h4 <;> simp only [List.map_cons, forLoop, h1, h4, q], w⟩
end Dd
/-! Tuples of which the whole object is known (kind tpl): made by tuple(list); t.index(x) of lists and such tuples. -/
namespace Dd
open PySem L2 PyProof.Rows
section
variable {X : Cx}
theorem call_tuple_pl : CallR X (.type "tuple") (fun xs H Q => ∃ p ys, xs = [.ref p] ∧ SqL X.K H p ys ∧ ∀ (l : Addr) (o : Obj), H l = none → o.cls = .type "tuple" → o.dict = none → Q (.ref l) (upd H l (.frz o (.tup ys)))) := by
  intro pins s σ H xs us Q I r h
  obtain ⟨p, ys, rfl, hq, q⟩ := h
  obtain ⟨u, rfl, rx⟩ := vals1 r
  cases rx
  obtain ⟨its, r', pl, hz⟩ := I.list hq
  have hlen := r'.length
  refine call_tuple_list pl.isList (fun h' kp => ?_) (by simp only [List.size_toArray] <;> omega)
  have I1 : Inv X pins σ H { s with heap := h' } := I.kept (t' := s.toks) kp
  have new : ObjOk X.prog X.w (upd H h'.objs.size (.frz { cls := .type "tuple", data := .seq its.toArray } (.tup ys))) (h'.push { cls := .type "tuple", data := .seq its.toArray }) h'.objs.size (.frz { cls := .type "tuple", data := .seq its.toArray } (.tup ys)) :=
    ⟨Heap.get?_push_size _ rfl, hz, its, r', IsTup.new _ _⟩
  exact ⟨.ref h'.objs.size, _, I1.laid (t' := s.toks) (fun b o e => Heap.get?_push_of_some _ e) (Nat.le_refl _) new, rfl, q _ _ (I1.hok.fresh (Nat.le_refl _)) rfl rfl⟩
/-- at p stands a tuple whose object is known -/
def PlainT (H : Hp) (x : V) : Prop := ∃ (p : Addr) (o : Obj) (vs : List V), x = .ref p ∧ H p = some (.frz o (.tup vs)) ∧ o.cls = .type "tuple" ∧ o.dict = none
def tBMT (r : V → List V → Hp → VK → Prop) (to : TE) (t : TA) : TE := fun σ H Q => to σ H fun x H1 => PlainT H1 x ∧ t σ H1 fun xs H2 => r x xs H2 Q
theorem pe_bmT {o e : Expr} {es : List Expr} {to : TE} {t : TA} {name : Str} {apos cpos : Pos} {id : String} {r : V → List V → Hp → VK → Prop} (pa : PlainAttrs "tuple") (slot : Slot "tuple" name id) (hty : typeOf (.builtin id) = pure (.type "method_descriptor")) (hm : MtR X id r) (ho : PE X o to) (ha : PA X (e :: es) t)
    (hbase : attributeBase o name X.env (eval o X.env) = eval o X.env := by rfl)
    (hfew : ((backTo cpos (starEach (e :: es) X.env)).all (fun x => !x.1) && (backToKw cpos (keywordEach [] X.env)).all (fun x => x.1.isSome) && decide ((e :: es).length + ([] : List Keyword).length + (if ([] : List Keyword).isEmpty then 0 else 1) < 30)) = true := by rfl)
    (hline : (apos.endLine == cpos.line) = true := by rfl) (hs : starEach (e :: es) X.env = (false, eval e X.env) :: starEach es X.env := by rfl) (hplain : (backTo cpos (starEach es X.env)).any (·.1) = false := by rfl) :
    PE X (.Call (.Attribute o name apos) (e :: es) [] cpos) (tBMT r to t) := ⟨fun pins s σ H Q I h => by
  refine wpAny_Call_method_late hbase hfew hline rfl (thn (ho.run pins s σ H _ I h) fun v s1 ⟨x, H1, I1, r1, ty, q1⟩ => ?_)
  obtain ⟨p, oo, vs, rfl, hp, hc, hd⟩ := ty
  cases r1
  obtain ⟨at1, _⟩ := I1.hok p _ hp
  refine ⟨"tuple", id, pa, slot, hty, ⟨oo, at1, hc⟩, fun a ea => ?_, ?_⟩
  · cases ea
    exact ⟨oo, at1, hd⟩
  · have hA := ha.run cpos pins s1 σ H1 _ I1 q1
    rw [hs] at hA ⊢
    refine Calls.callWith_builtin (by show (false || (backTo cpos (starEach es X.env)).any (·.1)) = false; rw [hplain] <;> rfl) (Calls.evalArgs_plain ?_)
    exact thn hA fun us s2 ⟨ws, H2, I2, r2, q2⟩ => hm pins s2 σ H2 (V.ref p) ws _ us Q I2 (show RelV (V.ref p) (Value.ref p) from rfl) r2 q2⟩
end
def fTplOf : D → Option (Bool × D)
  | .box _ .lst ds => if frzL ds = true then some (true, .box false .tpl ds) else none
  | _ => none
section
variable {G : Gx} {Z H : Hp}
theorem rep_newP {p : Addr} {ds : List D} {vs : List V} {o : Obj} (zh : Ex Z H) (hp : H p = none) (hc : o.cls = .type "tuple") (hd : o.dict = none) (r : RepL G Z H ds vs []) : Rep G (upd Z p (.frz o (.tup vs))) (upd H p (.frz o (.tup vs))) (.box false .tpl ds) (.ref p) [] := by
  have zp := z_none zh hp
  have eZ : Ex Z (upd Z p (.frz o (.tup vs))) := fun a u e => by rw [upd_ne (ne_of_none e zp)]; exact e
  exact ⟨p, vs, [], rfl, r.mono eZ (fun a ha => by cases ha), fun _ => ⟨rfl, ⟨o, upd_same, hc, hd⟩, .inr rfl⟩, fun q => nomatch q⟩
theorem o_tplOf : Op1 G (fun x H Q => ∃ p ys, [x] = [.ref p] ∧ SqL G.K H p ys ∧ ∀ (l : Addr) (o : Obj), H l = none → o.cls = .type "tuple" → o.dict = none → Q (.ref l) (upd H l (.frz o (.tup ys)))) fTplOf := by
  intro Z H x v F1 fr z zh r1 hf Q k
  unfold fTplOf at hf
  split at hf
  · rename_i own ds
    split at hf
    · rename_i hz
      simp only [Option.some.injEq, Prod.mk.injEq] at hf
      obtain ⟨rfl, rfl⟩ := hf
      obtain ⟨a, vs, rfl, hl, hst, hsq⟩ := rep_sqk (t := false) (ds := ds) zh r1 (by simp [seqD, hz])
      exact ⟨a, vs, rfl, hsq, fun l o hl' hc hd => k _ _ _ [] (New.fro zh hl') (rep_newP zh hl' hc hd hl) fun _ => ⟨List.nodup_nil, by simp⟩⟩
    · cases hf
  · cases hf
theorem rep_tpl {own : Bool} {ds : List D} {v : V} {F : List Addr} (r : Rep G Z H (.box own .tpl ds) v F) : own = false ∧ F = [] ∧ ∃ a vs, v = .ref a ∧ RepL G Z H ds vs [] ∧ ∃ o : Obj, Z a = some (.frz o (.tup vs)) ∧ o.cls = .type "tuple" ∧ o.dict = none := by
  obtain ⟨a, vs, F', hv, hl, h1, h2⟩ := r
  cases own with
  | true =>
    obtain ⟨_, o, _, h3⟩ := h2 rfl
    exact h3.elim
  | false =>
    obtain ⟨e1, h3, h4⟩ := h1 rfl
    have e2 : F' = [] := by
      rcases h4 with h4 | h4
      · cases h4
      · exact h4
    subst e2
    exact ⟨rfl, e1, a, vs, hv, hl, h3⟩
end
/-- read as a plain tuple -/
def upD : D → D
  | .box _ .tpl ds => .box false .tup ds
  | d => d
def dUp (m : DE) : DE := fun ρ => match m ρ with
  | .ok f d e ρ1 => .ok f (upD d) e ρ1
  | .ex c xs ρ1 => .ex c xs ρ1
  | .bad => .bad
theorem upD_rep {G : Gx} {Z H : Hp} {d : D} {v : V} {F : List Addr} (r : Rep G Z H d v F) : Rep G Z H (upD d) v F := by
  cases d with
  | box own k ds =>
    cases k with
    | tpl =>
      obtain ⟨rfl, rfl, a, vs, rfl, hl, o, h1, h2, h3⟩ := rep_tpl r
      exact ⟨a, vs, [], rfl, hl, fun _ => ⟨rfl, .inl (.inr ⟨o, h1⟩), .inl rfl⟩, fun q => nomatch q⟩
    | _ => exact r
  | _ => exact r
section
variable {c : Cc} {X : Cx} {e o : Expr} {m ma mb : DE}
theorem e_up (h : PE X e (tE c m)) : PE X e (tE c (dUp m)) := h.imp fun σ H Q w => by
  obtain ⟨Z, ρ, F, S, w⟩ := w
  refine ⟨Z, ρ, F, S, ?_⟩
  cases hm : m ρ with
  | bad => simp only [dUp, hm] at w
  | ex x xs ρ1 => simp only [dUp, hm] at w; exact w
  | ok f d e1 ρ1 =>
    simp only [dUp, hm] at w
    intro Z1 H1 F1 v Gf P r fr
    exact w Z1 H1 F1 v Gf P (upD_rep r) fr
/-- the first place of y -/
def idxV (y : V) (vs : List V) : Option Nat := vs.findIdx? fun z => eqV z y
def fIndex (x y : D) : Option (Bool × D) := match x with
  | .box _ .lst ds => (sv y).bind fun v => (svL ds).bind fun vs => (idxV v vs).map fun (j : Nat) => (true, D.int (j : Int))
  | .box _ .tpl ds => (sv y).bind fun v => (svL ds).bind fun vs => (idxV v vs).map fun (j : Nat) => (true, D.int (j : Int))
  | _ => none
theorem idxV_ok {y : V} {vs : List V} {j : Nat} (h : idxV y vs = some j) : ∃ z, vs[j]? = some z ∧ eqV z y = true ∧ ∀ (m : Nat) (z' : V), m < j → vs[m]? = some z' → eqV z' y = false := by
  unfold idxV at h
  obtain ⟨h1, h2, h3⟩ := List.findIdx?_eq_some_iff_getElem.mp h
  refine ⟨vs[j], List.getElem?_eq_getElem h1, h2, fun m z' hm hz => ?_⟩
  have hl : m < vs.length := by omega
  have := h3 m hm
  rw [List.getElem?_eq_getElem hl] at hz
  rw [← Option.some.inj hz]
  simpa using this
theorem index_fin {y : D} {v : V} {ds : List D} {vs : List V} {Z H : Hp} {F F2 : List Addr} {p : Bool × D} (ry : Rep c.G Z H y v F2) (rl : RepL c.G Z H ds vs F) (hf : ((sv y).bind fun v => (svL ds).bind fun vs => (idxV v vs).map fun (j : Nat) => (true, D.int (j : Int))) = some p) :
    ∃ (j : Nat) (z : V), p = (true, .int (j : Int)) ∧ flatV v = true ∧ vs.all flatV = true ∧ vs[j]? = some z ∧ eqV z v = true ∧ ∀ (m : Nat) (z' : V), m < j → vs[m]? = some z' → eqV z' v = false := by
  cases h1 : sv y with
  | none => rw [h1] at hf; cases hf
  | some u =>
    cases h2 : svL ds with
    | none => rw [h1, h2] at hf; cases hf
    | some us =>
      cases h3 : idxV u us with
      | none => rw [h1, h2] at hf; simp only [Option.bind_some, h3] at hf; cases hf
      | some j =>
        rw [h1, h2] at hf
        simp only [Option.bind_some, h3, Option.map_some, Option.some.injEq] at hf
        have e1 := sv_eq ry h1
        obtain ⟨e2, e3⟩ := svL_eq rl h2
        subst e1 e2
        obtain ⟨z, k1, k2, k3⟩ := idxV_ok h3
        exact ⟨j, z, hf.symm, sv_flat h1, e3, k1, k2, k3⟩
def kIdx : D → Bool
  | .box _ .lst _ => true
  | .box _ .tpl _ => true
  | _ => false
def dIndex (mb ma : DE) : DE := fun ρ => match mb ρ with
  | .ok _ x _ _ => if kIdx x = true then bind2 fIndex mb ma ρ else .bad
  | _ => bind2 fIndex mb ma ρ
theorem e_index (hL : PE X e (tBM c.G.K "list" (rIndex c.G.K) (tE c mb) (tCons (tE c ma) tNil))) (hT : PE X e (tBMT (rIdxT c.G.K) (tE c mb) (tCons (tE c ma) tNil))) : PE X e (tE c (dIndex mb ma)) := by
  refine ⟨fun pins s σ H Q I w => ?_⟩
  obtain ⟨Z, ρ, F, S, w⟩ := w
  cases hm : mb ρ with
  | bad => simp only [dIndex, bind2, hm] at w
  | ex x xs ρ1 =>
    simp only [dIndex, bind2, hm] at w
    exact hL.run pins s σ H Q I (tE.ex S hm w)
  | ok f1 x e1 ρ1 =>
    by_cases hkd : kIdx x = true
    · simp only [dIndex, bind2, hm, hkd, if_true] at w
      -- what follows, by the kind of x
      have go : ∀ (R : V → Hp → Prop) (r : V → List V → Hp → VK → Prop), (∀ Z1 H1 F1 v G1, PostE c Z H σ ρ F e1 ρ1 Z1 H1 F1 → Rep c.G Z1 H1 x v G1 → R v H1) →
          (∀ Z2 H2 v u G1 G2 y (p : Bool × D), Ex Z2 H2 → Rep c.G Z2 H2 x v G1 → Rep c.G Z2 H2 y u G2 → fIndex x y = some p → ∃ j : Nat, p = (true, .int (j : Int)) ∧ ∀ Q : VK, Q (.int (j : Int)) H2 → r v [u] H2 Q) →
          tE c mb σ H fun v H1 => R v H1 ∧ tE c ma σ H1 fun u H2 => r v [u] H2 Q := fun R r hR hr => by
        refine tE.ok S hm fun Z1 H1 F1 v G1 P1 R1 f1h => ⟨hR Z1 H1 F1 v G1 P1 R1, ?_⟩
        cases hb : ma ρ1 with
        | bad => simp only [hb] at w
        | ex x2 xs ρ2 =>
          simp only [hb] at w
          exact tE.ex P1.sta hb fun Z2 H2 F2 s2 S2 => w Z2 H2 F2 (P1.st.trans s2) S2
        | ok f2 y e2 ρ2 =>
          simp only [hb] at w
          refine tE.ok P1.sta hb fun Z2 H2 F2 u G2 P2 R2 f2h => ?_
          by_cases hk : (!e2 || f1 || frz x) = true
          · rw [if_pos hk] at w
            cases hf : fIndex x y with
            | none => simp only [hf] at w
            | some p =>
              obtain ⟨j, rfl, q⟩ := hr Z2 H2 v u G1 G2 y p P2.sta.zh (R1.later f1h P2 hk) R2 hf
              simp only [hf] at w
              exact q Q (w Z2 H2 F2 _ [] (P1.trans P2) ⟨rfl, rfl⟩ fun _ => Fresh.nil)
          · rw [if_neg hk] at w
            exact w.elim
      cases x with
      | box own k ds =>
        cases k with
        | lst =>
          refine hL.run pins s σ H Q I (go (fun v H1 => tyV c.G.K "list" v H1) (rIndex c.G.K) (fun Z1 H1 F1 v G1 P1 R1 => ?_) fun Z2 H2 v u G1 G2 y p zh rx ry hf => ?_)
          · obtain ⟨a, vs, F', rfl, hs, _⟩ := rep_lst P1.sta.zh R1
            exact .inl ⟨rfl, vs, hs⟩
          · obtain ⟨a, vs, F', rfl, hs, hl, _⟩ := rep_lst zh rx
            obtain ⟨j, z, e, f1, f2, f3, f4, f5⟩ := index_fin ry hl hf
            exact ⟨j, e, fun Q q => ⟨a, vs, u, j, z, rfl, rfl, hs, f1, f2, f3, f4, f5, q⟩⟩
        | tpl =>
          refine hT.run pins s σ H Q I (go (fun v H1 => PlainT H1 v) (rIdxT c.G.K) (fun Z1 H1 F1 v G1 P1 R1 => ?_) fun Z2 H2 v u G1 G2 y p zh rx ry hf => ?_)
          · obtain ⟨_, _, a, vs, rfl, hl, o, h1, h2, h3⟩ := rep_tpl R1
            exact ⟨a, o, vs, rfl, P1.sta.zh a _ h1, h2, h3⟩
          · obtain ⟨_, _, a, vs, rfl, hl, o, h1, h2, h3⟩ := rep_tpl rx
            obtain ⟨j, z, e, f1, f2, f3, f4, f5⟩ := index_fin ry hl hf
            exact ⟨j, e, fun Q q => ⟨a, vs, u, j, z, rfl, rfl, .inl (.inr ⟨o, zh a _ h1⟩), f1, f2, f3, f4, f5, q⟩⟩
        | _ => simp [kIdx] at hkd
      | _ => simp [kIdx] at hkd
    · simp only [dIndex, hm, if_neg hkd] at w
end
@[simp] theorem v_dIndex (mb ma : DE) (ρ : Dd.Env) : dIndex mb ma ρ = match mb ρ with
  | .ok _ x _ _ => if kIdx x = true then bind2 fIndex mb ma ρ else .bad
  | _ => bind2 fIndex mb ma ρ := rfl
@[simp] theorem v_dUp (m : DE) (ρ : Dd.Env) : dUp m ρ = match m ρ with
  | .ok f d e ρ1 => .ok f (upD d) e ρ1
  | .ex c xs ρ1 => .ex c xs ρ1
  | .bad => .bad := rfl
@[simp] theorem v_kL (o : Bool) (ds : List D) : kIdx (.box o .lst ds) = true := rfl
@[simp] theorem v_kP (o : Bool) (ds : List D) : kIdx (.box o .tpl ds) = true := rfl
@[simp] theorem v_upL (o : Bool) (ds : List D) : upD (.box o .lst ds) = .box o .lst ds := rfl
@[simp] theorem v_upT (o : Bool) (ds : List D) : upD (.box o .tup ds) = .box o .tup ds := rfl
@[simp] theorem v_upP (o : Bool) (ds : List D) : upD (.box o .tpl ds) = .box false .tup ds := rfl
@[simp] theorem v_upI (i : Int) : upD (.int i) = .int i := rfl
@[simp] theorem v_upN : upD .non = .non := rfl
@[simp] theorem v_tplL (o : Bool) (ds : List D) : fTplOf (.box o .lst ds) = if frzL ds = true then some (true, .box false .tpl ds) else none := rfl
theorem svL_ints : ∀ ns : List Int, svL (ns.map D.int) = some (ns.map V.int)
  | [] => rfl
  | n :: ns => by simp [svL, svL_ints ns]
theorem idxV_int (ns : List Int) (i : Int) : idxV (.int i) (ns.map V.int) = ns.findIdx? fun n => decide (n = i) := by
  unfold idxV
  induction ns with
  | nil => rfl
  | cons n ns ih =>
    have e : eqV (V.int n) (V.int i) = decide (n = i) := by
      show (n == i) = _
      by_cases h : n = i <;> simp [h]
    rw [List.map_cons, List.findIdx?_cons, List.findIdx?_cons, ih, e]
@[simp] theorem v_idxL (o : Bool) (ns : List Int) (i : Int) : fIndex (.box o .lst (ns.map D.int)) (.int i) = (ns.findIdx? fun n => decide (n = i)).map fun (j : Nat) => (true, D.int (j : Int)) := by
  simp only [fIndex, sv, svL_ints, Option.bind_some, idxV_int]
@[simp] theorem v_idxP (o : Bool) (ns : List Int) (i : Int) : fIndex (.box o .tpl (ns.map D.int)) (.int i) = (ns.findIdx? fun n => decide (n = i)).map fun (j : Nat) => (true, D.int (j : Int)) := by
  simp only [fIndex, sv, svL_ints, Option.bind_some, idxV_int]
end Dd
/-! Plain tuples: displays, slices, +; sorted rows of ints; x in rows; range downwards; two fors. -/
namespace Dd
open PySem L2 PyProof.Rows
/-! ### hand layer -/
def tTupP (t : TA) : TE := fun σ H Q => t σ H fun xs H1 => xs.length ≤ sizeLine ∧ ∀ (p : Addr) (o : Obj), H1 p = none → o.cls = .type "tuple" → o.dict = none → Q (.ref p) (upd H1 p (.frz o (.tup xs)))
def rCatP (K : PySem.W.Frag) : R2 := fun x y H Q => ∃ a b xs ys, x = .ref a ∧ y = .ref b ∧ SqT K H a xs ∧ SqT K H b ys ∧ xs.length + ys.length ≤ sizeLine ∧
  (xs = [] → Q (.ref b) H) ∧ (xs ≠ [] → ys = [] → Q (.ref a) H) ∧ (xs ≠ [] → ys ≠ [] → ∀ (p : Addr) (o : Obj), H p = none → o.cls = .type "tuple" → o.dict = none → Q (.ref p) (upd H p (.frz o (.tup (xs ++ ys)))))
def rSlP (K : PySem.W.Frag) : V → Option Int → Option Int → Hp → VK → Prop := fun x lo hi H Q => ∃ a xs, x = .ref a ∧ SqT K H a xs ∧
  (HT.sIx xs.length 0 lo = 0 ∧ HT.sIx xs.length xs.length hi = xs.length → Q (.ref a) H) ∧ (¬ (HT.sIx xs.length 0 lo = 0 ∧ HT.sIx xs.length xs.length hi = xs.length) → ∀ (p : Addr) (o : Obj), H p = none → o.cls = .type "tuple" → o.dict = none → Q (.ref p) (upd H p (.frz o (.tup (cutV xs lo hi)))))
section
variable {X : Cx} {es : List Expr} {t : TA} {pos : Pos}
theorem newP_ok {prog : Program} {w : World} {H : Hp} {h : Heap} {xs : List V} {us : List Value} (z : xs.length ≤ sizeLine) (r : Vals xs us) :
    ObjOk prog w (upd H h.objs.size (.frz { cls := .type "tuple", data := .seq us.toArray } (.tup xs))) (h.push { cls := .type "tuple", data := .seq us.toArray }) h.objs.size (.frz { cls := .type "tuple", data := .seq us.toArray } (.tup xs)) :=
  ⟨Heap.get?_push_size _ rfl, z, us, r, ⟨_, Heap.get?_push_size _ rfl, rfl, _, rfl⟩⟩
theorem pe_tupP {x1} (h : PA X es t) : PE X (.Tuple es x1 pos) (tTupP t) := by
  refine ⟨fun pins s σ H Q I hq => ?_⟩
  refine wpAny_Tuple_spliced (thn (h.run pos pins s σ H _ I hq) fun us s1 ⟨xs, H1, I1, r, z, q⟩ => ⟨by rw [← r.length]; exact z, ?_⟩)
  have hf : H1 s1.heap.objs.size = none := I1.hok.fresh (Nat.le_refl _)
  exact ⟨.ref s1.heap.objs.size, _, I1.laid (t' := s1.toks) (fun b u e => Heap.get?_push_of_some _ e) (Nat.le_refl _) (newP_ok z r), rfl, q _ _ hf rfl rfl⟩
theorem op_catP : OpR X (binaryOp .Add) (rCatP X.K) := by
  intro pins s σ H x y v u Q I rx ry h
  obtain ⟨a, b, xs, ys, rfl, rfl, ha, hb, hz, q0, q1, q2⟩ := h
  cases rx
  cases ry
  obtain ⟨its, r1, p1, _⟩ := I.tuple ha
  obtain ⟨its2, r2, p2, _⟩ := I.tuple hb
  by_cases hx : xs = []
  · subst hx
    cases r1
    exact cat_tup0 p1 p2 ⟨.ref b, H, I, rfl, q0 rfl⟩
  · refine HT.cat_tup p1 p2 (fun z => hx (r1.nil_iff.mp z)) (fun z => ⟨.ref a, H, I, rfl, q1 hx (r2.nil_iff.mp z)⟩) (fun z => ?_) (by rw [← r1.length, ← r2.length]; exact hz)
    exact ⟨.ref s.heap.objs.size, _, I.laid (t' := s.toks) (fun b ob q => Heap.get?_push_of_some _ q) (Nat.le_refl _) (newP_ok (by rw [List.length_append]; exact hz) (r1.append r2)), rfl, q2 hx (fun w => z (r2.nil_iff.mpr w)) _ _ (I.hok.fresh (Nat.le_refl _)) rfl rfl⟩
theorem sl_tupP : SlR X (rSlP X.K) := by
  intro pins s σ H x v vl vu lo hi sl Q I rx hs pl pu h
  obtain ⟨a, xs, rfl, hx, q1, q2⟩ := h
  cases rx
  obtain ⟨its, r, ht, hz⟩ := I.tuple hx
  have hlen : its.toArray.size = xs.length := by rw [List.size_toArray]; exact r.length.symm
  refine ⟨"tuple", _, PyProof.Rows.slot_tuple_getitem.lookup, ht.typeIs, ?_⟩
  by_cases hw : HT.sIx xs.length 0 lo = 0 ∧ HT.sIx xs.length xs.length hi = xs.length
  · exact getItem_tuple_whole ht hs pl pu (by rw [hlen]; exact hw) ⟨.ref a, H, I, rfl, q1 hw⟩
  · refine HT.getItem_tuple_cut ht hs pl pu (by rw [hlen]; exact hw) ?_ (by rw [hlen]; exact hz)
    rw [hlen]
    refine ⟨.ref s.heap.objs.size, _, I.laid (t' := s.toks) (o := .frz { cls := .type "tuple", data := .seq _ } (.tup (cutV xs lo hi))) (fun b ob q => Heap.get?_push_of_some _ q) (Nat.le_refl _) (newP_ok (Nat.le_trans (cutV_length xs lo hi) hz) ((r.drop (HT.sIx xs.length 0 lo)).take (HT.sIx xs.length xs.length hi - HT.sIx xs.length 0 lo))), rfl, q2 hw _ _ (I.hok.fresh (Nat.le_refl _)) rfl rfl⟩
/-- x in rows, a list's or a tuple's -/
def rInDs (K : PySem.W.Frag) (nt : Bool) : R2 := fun x y H Q => ∃ d ds c, Dp K H x d ∧ Dp K H y c ∧ (c = .list ds ∨ c = .tuple ds) ∧ SeqAt.shaped d = true ∧ SeqAt.shaped c = true ∧ Q (.bl (nt != ds.any fun z => PyData.eqv z d)) H
theorem op_inDs (hu : X.A.units + 65 < cLine) : OpR X (compareOp .In) (rInDs X.K false) := by
  intro pins s σ H x y v u Q I rx ry h
  obtain ⟨d, ds, c, hd, he, hc, sd, se, q⟩ := h
  obtain ⟨as, r1⟩ := Dp.reads I d x v hd rx
  obtain ⟨bs, r2⟩ := Dp.reads I c y u he ry
  rw [Bool.false_bne] at q
  rcases hc with rfl | rfl
  · exact SeqAt.in_list_reads r2 r1 (SeqAt.canLay_of_shaped se) (SeqAt.canLay_of_shaped sd) (room_in_shaped sd hu) ⟨.bl _, H, I, rfl, q⟩
  · exact SeqAt.in_tuple_reads r2 r1 (SeqAt.canLay_of_shaped se) (SeqAt.canLay_of_shaped sd) (room_in_shaped sd hu) ⟨.bl _, H, I, rfl, q⟩
theorem op_notInDs (hu : X.A.units + 65 < cLine) : OpR X (compareOp .NotIn) (rInDs X.K true) := by
  intro pins s σ H x y v u Q I rx ry h
  obtain ⟨d, ds, c, hd, he, hc, sd, se, q⟩ := h
  obtain ⟨as, r1⟩ := Dp.reads I d x v hd rx
  obtain ⟨bs, r2⟩ := Dp.reads I c y u he ry
  rw [Bool.true_bne] at q
  rcases hc with rfl | rfl
  · exact SeqAt.notIn_list_reads r2 r1 (SeqAt.canLay_of_shaped se) (SeqAt.canLay_of_shaped sd) (room_in_shaped sd hu) ⟨.bl _, H, I, rfl, q⟩
  · exact SeqAt.notIn_tuple_reads r2 r1 (SeqAt.canLay_of_shaped se) (SeqAt.canLay_of_shaped sd) (room_in_shaped sd hu) ⟨.bl _, H, I, rfl, q⟩
/-- sorted rows of ints -/
def rowE {α : Type} (g : α → List Int) : α → PyData := fun b => .tuple ((g b).map .int)
def rSortD (K : PySem.W.Frag) : List V → Hp → VK → Prop := fun vs H Q => ∃ (a : Addr) (bs : List (V × D × List Int)), vs = [V.ref a] ∧ SqL K H a (bs.map (·.1)) ∧ (∀ b ∈ bs, Dp K H b.1 (rowE (·.2.2) b) ∧ b.2.2 ≠ []) ∧
  ∀ p, H p = none → Q (.ref p) (upd H p (.lst ((bs.mergeSort (PySem.W.dataLe false (rowE (·.2.2)))).map (·.1))))
theorem alike_rows (xs ys : List Int) : PySem.W.alike (.tuple (xs.map .int)) (.tuple (ys.map .int)) = true := by
  simp only [PySem.W.alike]
  exact PySem.W.alike_ints xs ys
theorem cr_sortD (hu : X.A.units + 65 < cLine) : CallR X (.builtin "sorted") (rSortD X.K) := by
  intro pins s σ H vs us Q I r h
  obtain ⟨a, bs, rfl, hs, hb, q⟩ := h
  obtain ⟨its, rv, pl, hz⟩ := I.list hs
  rw [Vals.ref1 r]
  have e0 : ∀ (bs : List (V × D × List Int)) (its : List Value), Vals (bs.map (·.1)) its → PySem.W.EachIs (fun u b => RelV b.1 u) its bs := fun bs => by
    induction bs with
    | nil => intro its rv; cases rv; exact .nil
    | cons b bs ih => intro its rv; cases rv with | cons h1 h2 => exact .cons h1 (ih _ h2)
  have e1 := e0 bs its rv
  have e2 : PySem.W.EachIs (fun v b => ∃ as, Reads s.heap v (rowE (·.2.2) b) as) its bs := (PySem.W.each_mem e1).mono fun v b ⟨h1, h2⟩ => Dp.reads I _ _ v (hb b h2).1 h1
  have back : ∀ (bs : List (V × D × List Int)) (its : List Value), PySem.W.EachIs (fun u b => RelV b.1 u) its bs → Vals (bs.map (·.1)) its := fun bs => by
    induction bs with
    | nil => intro its rv; cases rv; exact .nil
    | cons b bs ih => intro its rv; cases rv with | cons h1 h2 => exact .cons h1 (ih _ h2)
  refine PySem.W.sorted_data pl.isList e1 e2 (PySem.W.AllAlike.of fun b b' => alike_rows _ _) (.inl fun d hd => ?_) (by rw [← e1.length]; rw [rv.length] at hz; exact hz) (fun b hb => ?_) fun out hl ho => ?_
  · obtain ⟨b, h1, rfl⟩ := List.mem_map.mp hd
    have := (hb b h1).2
    cases h2 : b.2.2 with
    | nil => exact absurd h2 this
    | cons x r => exact ⟨.int x, r.map .int, by simp [rowE, h2]⟩
  · have : (rowE (fun b : V × D × List Int => b.2.2) b).depth = 1 := by simp [rowE, PyData.depth, PySem.W.depth_ints]
    omega
  · obtain ⟨ep, he'⟩ := sortedAll_at s.heap its out.toArray
    have rr := back _ _ ho
    have hlen : ((bs.mergeSort (PySem.W.dataLe false (rowE (·.2.2)))).map (·.1)).length ≤ sizeLine := by
      rw [List.length_map, List.length_mergeSort]
      rw [List.length_map] at hz
      exact hz
    exact ⟨.ref _, upd H (s.heap.objs.size + 1) (.lst _), I.laid (t' := s.toks) (fun _ _ => sortedAll_old) (Nat.le_succ _) ⟨hlen, out, ep, rr, he'⟩, rfl, q _ (I.hok.fresh (Nat.le_succ _))⟩
end
end Dd
/-! Plain tuples, sorted rows, x in rows, range downwards: on data. -/
namespace Dd
open PySem L2 PyProof.Rows
/-! ### plain tuples -/
def dTupP (a : DA) : DE := fun ρ => match a ρ with
  | .ok _ xs e ρ1 => if xs.length ≤ 1000000 ∧ frzL xs = true then .ok true (.box false .tpl xs) e ρ1 else .bad
  | .ex c xs ρ1 => .ex c xs ρ1
  | .bad => .bad
def fSlP : D → Option Int → Option Int → Option (Bool × D)
  | .box _ .tpl ds, lo, hi => if frzL ds = true then some (true, .box false .tpl (cutG ds lo hi)) else none
  | x, lo, hi => fSl x lo hi
def dSlP (m : DE) (lo hi : DO) : DE := fun ρ => match m ρ with
  | .ok f1 x e1 ρ1 => (match lo ρ1 with
    | .ok _ l e2 ρ2 => (match hi ρ2 with
      | .ok _ h e3 ρ3 => if (!(e2 || e3) || f1 || frz x) = true then (match fSlP x l h with | some (fr, z) => .ok fr z (e1 || (e2 || e3)) ρ3 | none => .bad) else .bad
      | .ex c xs ρ3 => .ex c xs ρ3
      | .bad => .bad)
    | .ex c xs ρ2 => .ex c xs ρ2
    | .bad => .bad)
  | .ex c xs ρ1 => .ex c xs ρ1
  | .bad => .bad
def fCatP : D → D → Option (Bool × D)
  | .box _ .tpl ds, .box _ .tpl es => if frzL ds = true ∧ frzL es = true ∧ ds.length + es.length ≤ 1000000 then some (true, .box false .tpl (ds ++ es)) else none
  | _, _ => none
def fPlusP (x y : D) : Option (Bool × D) := match fPlus x y with
  | some p => some p
  | none => fCatP x y
section
variable {G : Gx} {Z H : Hp}
theorem o_catP : Op2 G (rCatP G.K) fCatP := by
  intro Z H x y v w F1 F2 fr z zh r1 r2 hf Q k
  unfold fCatP at hf
  split at hf
  · rename_i o1 ds o2 es
    split at hf
    · rename_i hc
      obtain ⟨h1, h2, h3⟩ := hc
      simp only [Option.some.injEq, Prod.mk.injEq] at hf
      obtain ⟨rfl, rfl⟩ := hf
      obtain ⟨_, _, a, vs, rfl, hl, oa, ha, hca, hda⟩ := rep_tpl r1
      obtain ⟨_, _, b, ws, rfl, hl2, ob, hb, hcb, hdb⟩ := rep_tpl r2
      have old : ∀ {c : Addr} {us : List V} {cs : List D} {o : Obj}, Z c = some (.frz o (.tup us)) → o.cls = .type "tuple" → o.dict = none → RepL G Z H cs us [] → Rep G Z H (.box false .tpl cs) (.ref c) [] := fun {c us cs o} q q1 q2 r => ⟨c, us, [], rfl, r, fun _ => ⟨rfl, ⟨o, q, q1, q2⟩, .inr rfl⟩, fun q => nomatch q⟩
      have nl : ∀ {cs : List D} {us : List V}, RepL G Z H cs us [] → us = [] → cs = [] := fun {cs us} r e => by
        have := r.length
        rw [e] at this
        exact List.length_eq_zero_iff.mp this
      refine ⟨a, b, vs, ws, rfl, rfl, .inl (.inr ⟨oa, zh a _ ha⟩), .inl (.inr ⟨ob, zh b _ hb⟩), by rw [← hl.length, ← hl2.length]; exact big_le h3, fun e => ?_, fun _ e => ?_, fun _ _ p o hp hc hd => ?_⟩
      · rw [nl hl e, List.nil_append] at k
        exact k Z H _ [] (New.refl zh) (old hb hcb hdb hl2) fun _ => ⟨List.nodup_nil, by simp⟩
      · rw [nl hl2 e, List.append_nil] at k
        exact k Z H _ [] (New.refl zh) (old ha hca hda hl) fun _ => ⟨List.nodup_nil, by simp⟩
      · exact k _ _ _ [] (New.fro zh hp) (rep_newP zh hp hc hd (hl.append (F := []) (F' := []) hl2)) fun _ => ⟨List.nodup_nil, by simp⟩
    · cases hf
  · cases hf
theorem x_addP {X : Cx} : OpR X (binaryOp .Add) (fun x y H Q => rPlus X.K x y H Q ∨ rCatP X.K x y H Q) := x_add.or op_catP
theorem m_addP : Op2 G (fun x y H Q => rPlus G.K x y H Q ∨ rCatP G.K x y H Q) fPlusP := m_add.or o_catP
theorem slP_imp {x d : D} {v : V} {F : List Addr} {l h : Option Int} {fr : Bool} (zh : Ex Z H) (r : Rep G Z H x v F) (hf : fSlP x l h = some (fr, d)) (Q : VK)
    (k : ∀ Z' H' u Gf, New Z H Z' H' → Rep G Z' H' d u Gf → Gf.Nodup ∧ (∀ a ∈ Gf, H a = none ∧ Z' a = none) → Q u H') : (rSlL G.K v l h H Q ∨ rSlA G.K v l h H Q) ∨ rSlP G.K v l h H Q := by
  unfold fSlP at hf
  split at hf
  · split at hf
    · rename_i hz
      simp only [Option.some.injEq, Prod.mk.injEq] at hf
      obtain ⟨rfl, rfl⟩ := hf
      obtain ⟨_, _, a, vs, rfl, hl, oa, ha, hca, hda⟩ := rep_tpl r
      refine .inr ⟨a, vs, rfl, .inl (.inr ⟨oa, zh a _ ha⟩), fun hw => ?_, fun _ p o hp hc hd => ?_⟩
      · refine k Z H (.ref a) [] (New.refl zh) ⟨a, vs, [], rfl, ?_, fun _ => ⟨rfl, ⟨oa, ha, hca, hda⟩, .inr rfl⟩, fun q => nomatch q⟩ ⟨List.nodup_nil, by simp⟩
        have e1 : ∀ ds : List D, ds.length = vs.length → cutG ds l h = ds := fun ds hd => by
          unfold cutG
          rw [hd, hw.1, hw.2, List.drop_zero, Nat.sub_zero, ← hd, List.take_length]
        rw [e1 _ hl.length]
        exact hl
      · exact k _ _ _ [] (New.fro zh hp) (rep_newP zh hp hc hd (repL_cut hl l h)) ⟨List.nodup_nil, by simp⟩
    · cases hf
  · exact .inl (sl_imp zh r hf Q k)
end
section
variable {c : Cc} {X : Cx} {e : Expr} {es : List Expr} {lo hi : Option Expr} {m : DE} {ml mh : DO} {a : DA} {pos p2 : Pos}
theorem e_tupP {x1} (h : PA X es (tA c a)) : PE X (.Tuple es x1 pos) (tE c (dTupP a)) := (pe_tupP h).imp fun σ H Q w => by
  obtain ⟨Z, ρ, F, S, w⟩ := w
  show tA c a σ H fun xs H1 => xs.length ≤ sizeLine ∧ ∀ (p : Addr) (o : Obj), H1 p = none → o.cls = .type "tuple" → o.dict = none → Q (.ref p) (upd H1 p (.frz o (.tup xs)))
  cases ha : a ρ with
  | bad => simp only [dTupP, ha] at w
  | ex x xs ρ1 =>
    simp only [dTupP, ha] at w
    exact tA.ex S ha w
  | ok f1 xs e1 ρ1 =>
    simp only [dTupP, ha] at w
    by_cases hl : xs.length ≤ 1000000 ∧ frzL xs = true
    · rw [if_pos hl] at w
      refine tA.ok S ha fun Z1 H1 F1 vs G1 P1 R1 f1h => ⟨by rw [← R1.length]; exact big_le hl.1, fun p o hp hc hd => ?_⟩
      have e0 := R1.frz_nil hl.2
      subst e0
      have n := New.fro (o := .frz o (.tup vs)) P1.sta.zh hp
      have P := P1.trans (PostE.new P1.sta n)
      rw [Bool.or_false] at P
      exact w _ _ F1 (.ref p) [] P (rep_newP P1.sta.zh hp hc hd R1) fun _ => Fresh.nil
    · rw [if_neg hl] at w
      exact w.elim
theorem e_slP (he : PE X e (tE c m)) (hl : PO X lo (tO c ml)) (hh : PO X hi (tO c mh)) (hK : X.K = c.G.K := by rfl) : PE X (.Subscript e (.Slice lo hi none p2) pos) (tE c (dSlP m ml mh)) := (pe_slice ((sl_list.or sl_tupA).or sl_tupP) he hl hh).imp fun σ H Q w => by
  rw [hK]
  obtain ⟨Z, ρ, F, S, w⟩ := w
  show tE c m σ H fun x H1 => tO c ml σ H1 fun l H2 => tO c mh σ H2 fun u H3 => ((rSlL c.G.K x l u H3 Q ∨ rSlA c.G.K x l u H3 Q) ∨ rSlP c.G.K x l u H3 Q)
  cases ha : m ρ with
  | bad => simp only [dSlP, ha] at w
  | ex x xs ρ1 =>
    simp only [dSlP, ha] at w
    exact tE.ex S ha w
  | ok f1 x e1 ρ1 =>
    simp only [dSlP, ha] at w
    refine tE.ok S ha fun Z1 H1 F1 v G1 P1 R1 f1h => ?_
    cases hb : ml ρ1 with
    | bad => simp only [hb] at w
    | ex x xs ρ2 =>
      simp only [hb] at w
      exact ⟨Z1, ρ1, F1, P1.sta, by rw [hb]; exact fun Z2 H2 F2 s2 S2 => w Z2 H2 F2 (P1.st.trans s2) S2⟩
    | ok f2 l e2 ρ2 =>
      simp only [hb] at w
      refine ⟨Z1, ρ1, F1, P1.sta, ?_⟩
      rw [hb]
      intro Z2 H2 F2 P2
      cases hc : mh ρ2 with
      | bad => simp only [hc] at w
      | ex x xs ρ3 =>
        simp only [hc] at w
        exact ⟨Z2, ρ2, F2, P2.sta, by rw [hc]; exact fun Z3 H3 F3 s3 S3 => w Z3 H3 F3 ((P1.st.trans P2.st).trans s3) S3⟩
      | ok f3 h e3 ρ3 =>
        simp only [hc] at w
        refine ⟨Z2, ρ2, F2, P2.sta, ?_⟩
        rw [hc]
        intro Z3 H3 F3 P3
        by_cases hk : (!(e2 || e3) || f1 || frz x) = true
        · rw [if_pos hk] at w
          cases hf : fSlP x l h with
          | none => simp only [hf] at w
          | some p =>
            obtain ⟨fr, z⟩ := p
            simp only [hf] at w
            have P23 := P2.trans P3
            refine slP_imp P3.sta.zh (R1.later f1h P23 hk) hf Q fun Z4 H4 u G4 n4 R4 f4 => ?_
            have P := (P1.trans P23).trans (PostE.new P3.sta n4)
            rw [Bool.or_false] at P
            exact w Z4 H4 F3 u G4 P R4 fun _ => Fresh.earlier (P1.trans P23) (fresh_of f4 fun a ha => P3.sta.dom ha)
        · rw [if_neg hk] at w
          exact w.elim
end
/-! ### read as plain tuples at every depth -/
mutual
def upA : D → D
  | .box own k ds => .box own (match k with | .tpl => .tup | .tps => .tup | k => k) (upAL ds)
  | d => d
def upAL : List D → List D
  | [] => []
  | d :: ds => upA d :: upAL ds
end
section
variable {G : Gx} {Z H : Hp}
mutual
theorem upA_rep : ∀ {d : D} {v : V} {F : List Addr}, Rep G Z H d v F → Rep G Z H (upA d) v F
  | .non, _, _, h => h
  | .bl _, _, _, h => h
  | .int _, _, _, h => h
  | .str _, _, _, h => h
  | .box own k ds, v, F, h => by
    obtain ⟨a, vs, F', hv, hl, h1, h2⟩ := h
    have hl' := upAL_rep hl
    cases k with
    | tpl =>
      cases own with
      | true =>
        obtain ⟨_, o, _, h3⟩ := h2 rfl
        exact h3.elim
      | false =>
        obtain ⟨e1, ⟨o, h3, _, _⟩, h4⟩ := h1 rfl
        exact ⟨a, vs, F', hv, hl', fun _ => ⟨e1, .inl (.inr ⟨o, h3⟩), .inl rfl⟩, fun q => nomatch q⟩
    | tps =>
      cases own with
      | true =>
        obtain ⟨_, o, _, h3⟩ := h2 rfl
        exact h3.elim
      | false =>
        obtain ⟨e1, h3, h4⟩ := h1 rfl
        exact ⟨a, vs, F', hv, hl', fun _ => ⟨e1, .inl (.inl h3), .inl rfl⟩, fun q => nomatch q⟩
    | _ => exact ⟨a, vs, F', hv, hl', h1, h2⟩
theorem upAL_rep : ∀ {ds : List D} {vs : List V} {F : List Addr}, RepL G Z H ds vs F → RepL G Z H (upAL ds) vs F
  | [], _, _, h => h
  | d :: ds, vs, F, h => by
    obtain ⟨v, vs', F1, F2, e1, e2, h1, h2⟩ := h
    exact ⟨v, vs', F1, F2, e1, e2, upA_rep h1, upAL_rep h2⟩
end
end
mutual
@[simp] theorem upA_frz : ∀ d : D, frz (upA d) = frz d
  | .non => rfl
  | .bl _ => rfl
  | .int _ => rfl
  | .str _ => rfl
  | .box own k ds => by simp only [upA, frz, upAL_frz ds]
@[simp] theorem upAL_frz : ∀ ds : List D, frzL (upAL ds) = frzL ds
  | [] => rfl
  | d :: ds => by simp only [upAL, frzL, upA_frz d, upAL_frz ds]
end
theorem upAL_map : ∀ ds : List D, upAL ds = ds.map upA
  | [] => rfl
  | d :: ds => by simp only [upAL, List.map_cons, upAL_map ds]
def dUpA (m : DE) : DE := fun ρ => match m ρ with
  | .ok f d e ρ1 => .ok f (upA d) e ρ1
  | .ex c xs ρ1 => .ex c xs ρ1
  | .bad => .bad
theorem e_upA {c : Cc} {X : Cx} {e : Expr} {m : DE} (h : PE X e (tE c m)) : PE X e (tE c (dUpA m)) := h.imp fun σ H Q w => by
  obtain ⟨Z, ρ, F, S, w⟩ := w
  refine ⟨Z, ρ, F, S, ?_⟩
  cases hm : m ρ with
  | bad => simp only [dUpA, hm] at w
  | ex x xs ρ1 => simp only [dUpA, hm] at w; exact w
  | ok f d e1 ρ1 =>
    simp only [dUpA, hm] at w
    intro Z1 H1 F1 v Gf P r fr
    exact w Z1 H1 F1 v Gf P (upA_rep r) fr
/-! ### sorted rows -/
def rowD : D → Option (List Int)
  | .box _ .tup ds => intsD ds
  | .box _ .tpl ds => intsD ds
  | .box _ .tps ds => intsD ds
  | _ => none
def rowI (d : D) : List Int := (rowD d).getD []
def isRow (d : D) : Bool := frz d && match rowD d with
  | some (_ :: _) => true
  | _ => false
def srtR (ds : List D) : List D := ds.mergeSort fun x y => decide (rowI x ≤ rowI y)
def fSortR : D → Option (Bool × D)
  | .box _ .lst ds => if ds.all isRow = true then some (true, .box true .lst (srtR ds)) else none
  | _ => none
def fSortA (x : D) : Option (Bool × D) := match fSorted x with
  | some p => some p
  | none => fSortR x
theorem toPyL_ints : ∀ ns : List Int, toPyL (ns.map D.int) = some (ns.map .int)
  | [] => rfl
  | n :: ns => by simp [toPyL, toPy, toPyL_ints ns]
theorem up_ints (ns : List Int) : upAL (ns.map D.int) = ns.map D.int := by
  rw [upAL_map, List.map_map]; rfl
theorem isRow_py {d : D} (h : isRow d = true) : toPy (upA d) = some (.tuple ((rowI d).map .int)) ∧ rowI d ≠ [] ∧ frz d = true := by
  unfold isRow at h
  rw [Bool.and_eq_true] at h
  obtain ⟨hf, h⟩ := h
  split at h
  · rename_i n ns hr
    have e : rowI d = n :: ns := by simp [rowI, hr]
    rw [e]
    cases d with
    | box own k ds =>
      cases k <;> simp only [rowD, reduceCtorEq] at hr
      all_goals
        have := intsD_eq hr
        subst this
        exact ⟨by simp only [upA, up_ints, toPy, toPyL_ints, Option.map_some], by simp, hf⟩
    | _ => simp [rowD] at hr
  · cases h
theorem dataLe_rowsT {α : Type} (g : α → List Int) : PySem.W.dataLe false (rowE g) = fun p q => decide (g p ≤ g q) := by
  funext p q
  show (!PySem.W.dataLt (.tuple ((g q).map .int)) (.tuple ((g p).map .int))) = _
  rw [PySem.W.dataLt_tuple]
  show (!PySem.W.rowLt ((g q).map .int) ((g p).map .int)) = _
  rw [PySem.W.dataLt_ints]
  by_cases h : g q < g p
  · have h' : ¬ g p ≤ g q := List.not_le.mpr h
    simp [h, h']
  · have h' : g p ≤ g q := List.not_lt.mp h
    simp [h, h']
section
variable {G : Gx} {Z H : Hp}
theorem repL_pairs : ∀ {ds : List D} {vs : List V}, RepL G Z H ds vs [] → ∃ bs : List (V × D × List Int), bs.map (·.1) = vs ∧ bs.map (·.2.1) = ds ∧ ∀ b ∈ bs, b.2.2 = rowI b.2.1 ∧ Rep G Z H b.2.1 b.1 []
  | [], _, h => ⟨[], h.1.symm, rfl, by simp⟩
  | d :: ds, vs, h => by
    obtain ⟨v, vs', F1, F2, e1, e2, h1, h2⟩ := h
    obtain ⟨rfl, rfl⟩ := List.append_eq_nil_iff.mp e2.symm
    obtain ⟨bs, k1, k2, k3⟩ := repL_pairs h2
    refine ⟨(v, d, rowI d) :: bs, by rw [e1, List.map_cons, k1], by rw [List.map_cons, k2], fun b hb => ?_⟩
    rcases List.mem_cons.mp hb with rfl | hb
    · exact ⟨rfl, h1⟩
    · exact k3 b hb
theorem repL_of_pairs : ∀ {bs : List (V × D × List Int)}, (∀ b ∈ bs, Rep G Z H b.2.1 b.1 []) → RepL G Z H (bs.map (·.2.1)) (bs.map (·.1)) []
  | [], _ => ⟨rfl, rfl⟩
  | b :: bs, h => ⟨b.1, _, [], [], rfl, rfl, h b List.mem_cons_self, repL_of_pairs fun c hc => h c (List.mem_cons_of_mem _ hc)⟩
theorem o_sortR : Op1 G (fun x H Q => rSortD G.K [x] H Q) fSortR := by
  intro Z H x v F1 fr z zh r1 hf Q k
  unfold fSortR at hf
  split at hf
  · rename_i own ds
    split at hf
    · rename_i hr
      simp only [Option.some.injEq, Prod.mk.injEq] at hf
      obtain ⟨rfl, rfl⟩ := hf
      have hfz : frzL ds = true := frzL_iff.mpr fun d hd => (isRow_py (List.all_eq_true.mp hr d hd)).2.2
      obtain ⟨a, vs, rfl, hl, hst, hsq⟩ := rep_sqk (t := false) (ds := ds) zh r1 (by simp [seqD, hfz])
      obtain ⟨bs, rfl, hds, hb⟩ := repL_pairs hl
      subst hds
      refine ⟨a, bs, rfl, hsq, fun b hbm => ?_, fun p hp => ?_⟩
      · obtain ⟨h1, h2⟩ := hb b hbm
        obtain ⟨q1, q2, _⟩ := isRow_py (List.all_eq_true.mp hr b.2.1 (List.mem_map.mpr ⟨b, hbm, rfl⟩))
        exact ⟨by show Dp _ _ _ (.tuple (b.2.2.map .int)); rw [h1]; exact rep_dp zh (upA_rep h2) q1, by rw [h1]; exact q2⟩
      · have e1 : (bs.mergeSort (PySem.W.dataLe false (rowE (·.2.2)))).map (·.2.1) = srtR (bs.map (·.2.1)) := by
          refine List.map_mergeSort fun a ha b hb' => ?_
          rw [dataLe_rowsT]
          show decide (a.2.2 ≤ b.2.2) = decide (rowI a.2.1 ≤ rowI b.2.1)
          rw [(hb a ha).1, (hb b hb').1]
        rw [← e1] at k
        exact k _ _ _ [p] (New.own zh hp) (rep_newL zh hp (repL_of_pairs fun b hbm => (hb b (List.mem_mergeSort.mp hbm)).2)) fun _ => ⟨by simp, fun b hb => by rw [List.mem_singleton.mp hb]; exact ⟨hp, z_none zh hp⟩⟩
    · cases hf
  · cases hf
theorem Op1.or {r r' : V → Hp → VK → Prop} {f g : D → Option (Bool × D)} (h : Op1 G r f) (h' : Op1 G r' g) : Op1 G (fun x H Q => r x H Q ∨ r' x H Q) (fun x => match f x with | some p => some p | none => g x) := by
  intro Z H x v F1 fr z zh r1 hf Q k
  simp only at hf
  split at hf
  · rename_i p hp
    exact .inl (h Z H x v F1 fr z zh r1 (by rw [hp]; exact hf) Q k)
  · exact .inr (h' Z H x v F1 fr z zh r1 hf Q k)
def rSortA (K : PySem.W.Frag) : List V → Hp → VK → Prop := fun vs H Q => rSortK K vs H Q ∨ rSortD K vs H Q
theorem x_sortA {X : Cx} (hu : X.A.units + 65 < cLine) : CallR X (.builtin "sorted") (rSortA X.K) := fun pins s σ H vs us Q I r h => h.elim (fun h => cr_sortK pins s σ H vs us Q I r h) (fun h => cr_sortD hu pins s σ H vs us Q I r h)
theorem o_sortA : Op1 G (fun x H Q => rSortA G.K [x] H Q) fSortA := Op1.or o_sorted o_sortR
end
/-! ### in -/
def itemsP : PyData → Option (List PyData)
  | .list ds => some ds
  | .tuple ds => some ds
  | _ => none
def fInD (nt : Bool) (x y : D) : Option (Bool × D) := (toPy x).bind fun p => (toPy y).bind fun c => (itemsP c).bind fun ds => if (SeqAt.shaped p && SeqAt.shaped c) = true then some (true, .bl (nt != ds.any fun z => PyData.eqv z p)) else none
def fInA (x y : D) : Option (Bool × D) := match fIn x y with
  | some p => some p
  | none => fInD false x y
def fNotInA (x y : D) : Option (Bool × D) := match fNotIn x y with
  | some p => some p
  | none => fInD true x y
section
variable {G : Gx} {Z H : Hp}
theorem fInD_some {nt : Bool} {x y d : D} {fr : Bool} (h : fInD nt x y = some (fr, d)) : ∃ p c ds, toPy x = some p ∧ toPy y = some c ∧ (c = .list ds ∨ c = .tuple ds) ∧ SeqAt.shaped p = true ∧ SeqAt.shaped c = true ∧ d = .bl (nt != ds.any fun z => PyData.eqv z p) := by
  unfold fInD at h
  obtain ⟨p, h1, h⟩ := Option.bind_eq_some_iff.mp h
  obtain ⟨c, h2, h⟩ := Option.bind_eq_some_iff.mp h
  obtain ⟨ds, h3, h⟩ := Option.bind_eq_some_iff.mp h
  split at h
  · rename_i hs
    rw [Bool.and_eq_true] at hs
    simp only [Option.some.injEq, Prod.mk.injEq] at h
    refine ⟨p, c, ds, h1, h2, ?_, hs.1, hs.2, h.2.symm⟩
    cases c <;> simp only [itemsP, reduceCtorEq, Option.some.injEq] at h3 <;> subst h3 <;> simp
  · cases h
theorem o_inD (nt : Bool) : Op2 G (rInDs G.K nt) (fInD nt) := op2_sc fun Z H x y v w F1 F2 fr z zh r1 r2 hf => by
  obtain ⟨p, c, ds, h1, h2, h3, h4, h5, rfl⟩ := fInD_some hf
  exact ⟨_, rfl, fun Q q => ⟨p, ds, c, rep_dp zh r1 h1, rep_dp zh r2 h2, h3, h4, h5, q⟩⟩
theorem x_inA {X : Cx} (hu : X.A.units + 65 < cLine) : OpR X (compareOp .In) (fun x y H Q => rIn X.K false x y H Q ∨ rInDs X.K false x y H Q) := op_in_seq.or (op_inDs hu)
theorem x_notInA {X : Cx} (hu : X.A.units + 65 < cLine) : OpR X (compareOp .NotIn) (fun x y H Q => rIn X.K true x y H Q ∨ rInDs X.K true x y H Q) := op_notIn_seq.or (op_notInDs hu)
theorem o_inA : Op2 G (fun x y H Q => rIn G.K false x y H Q ∨ rInDs G.K false x y H Q) fInA := o_in.or (o_inD false)
theorem o_notInA : Op2 G (fun x y H Q => rIn G.K true x y H Q ∨ rInDs G.K true x y H Q) fNotInA := o_notIn.or (o_inD true)
theorem bl_inD {nt : Bool} : BlF (fInD nt) := fun x y fr d h => let ⟨_, _, _, _, _, _, _, _, e⟩ := fInD_some h; ⟨_, e⟩
theorem bl_inA : BlF fInA := fun x y fr d h => by
  unfold fInA at h
  split at h
  · rename_i p hp
    obtain rfl := Option.some.inj h
    exact bl_in _ _ _ _ hp
  · exact bl_inD _ _ _ _ h
theorem bl_notInA : BlF fNotInA := fun x y fr d h => by
  unfold fNotInA at h
  split at h
  · rename_i p hp
    obtain rfl := Option.some.inj h
    exact bl_notIn _ _ _ _ hp
  · exact bl_inD _ _ _ _ h
end
/-! ### range downwards -/
def dRangeD (a : DA) : DI := fun ρ => match a ρ with
  | .ok _ [.int i, .int j, .int c] e ρ1 => if c < 0 ∧ c.natAbs < 1000 ∧ i.natAbs ≤ 1000000 ∧ j.natAbs ≤ 1000000 then .ok true (rangeC i c ((i - j - c - 1) / (-c)).toNat) e ρ1 else .bad
  | .ok _ _ _ _ => .bad
  | .ex c xs ρ1 => .ex c xs ρ1
  | .bad => .bad
theorem rgD_ok {i j c : Int} (h : c < 0 ∧ c.natAbs < 1000 ∧ i.natAbs ≤ 1000000 ∧ j.natAbs ≤ 1000000) : RgC i j c ((i - j - c - 1) / (-c)).toNat := by
  obtain ⟨h1, h2, h3, h4⟩ := h
  have e : Builtin.Range.rangeSize i j c = ((((i - j - c - 1) / (-c)).toNat : Nat) : Int) := by
    unfold Builtin.Range.rangeSize
    rw [if_neg (by omega)]
    by_cases hij : i > j
    · rw [if_pos hij]
      have q : (i - j - c - 1) / (-c) = (i - j - 1) / (-c) + 1 := by
        rw [show i - j - c - 1 = (i - j - 1) + 1 * (-c) by omega, Int.add_mul_ediv_right _ _ (by omega)]
      have q0 : 0 ≤ (i - j - 1) / (-c) := Int.ediv_nonneg (by omega) (by omega)
      rw [q]; omega
    · rw [if_neg hij]
      have q : (i - j - c - 1) / (-c) < 1 := Int.ediv_lt_of_lt_mul (by omega) (by omega)
      omega
  have sz : Builtin.Range.rangeSize i j c ≤ 2000001 := by
    rw [e]
    have q2 : (i - j - c - 1) / (-c) < 2000002 := Int.ediv_lt_of_lt_mul (by omega) (by omega)
    omega
  refine ⟨by omega, by omega, ?_, e⟩
  unfold Builtin.Range.small Builtin.Range.rangeFitsLong
  have s0 : 0 ≤ Builtin.Range.rangeSize i j c := by rw [e]; omega
  generalize Builtin.Range.rangeSize i j c = z at *
  simp only [Bool.and_eq_true, decide_eq_true_eq]
  refine ⟨⟨⟨⟨⟨?_, ?_⟩, ?_, ?_⟩, ?_, ?_⟩, ?_, ?_⟩, ?_⟩ <;> try omega
  rw [Bool.or_eq_true, if_neg (by omega), Bool.and_eq_true, decide_eq_true_eq, decide_eq_true_eq]
  exact .inr ⟨by omega, by omega⟩
section
variable {c : Cc} {X : Cx} {a b d tg : Expr} {ma : DA} {pos p : Pos}
theorem i_rangeD (hg : Gl X "range") (hm : X.mg "range" = none) (ha : PA X [a, b, d] (tA c ma)) (hs : starEach [a, b, d] X.env = (false, eval a X.env) :: starEach [b, d] X.env := by rfl) (hpl : (backTo pos (starEach [b, d] X.env)).any (·.1) = false := by rfl) : PI X tg (.Call (.Name "range" p) [a, b, d] [] pos) (tI c (dRangeD ma)) := (pi_range3 hg hm ha hs hpl).imp fun σ H R w => by
  obtain ⟨Z, ρ, F, S, w⟩ := w
  generalize hr : dRangeD ma ρ = r at w
  unfold dRangeD at hr
  split at hr
  · rename_i f i j k eff ρ1 ha
    split at hr
    · rename_i hk
      subst hr
      refine tA.ok S ha fun Z1 H1 F1 vs G1 P1 R1 f1h => ?_
      obtain ⟨v, vs', F2, F3, rfl, _, r1, v2, vs2, F4, F5, rfl, _, r2, v3, vs3, F6, F7, rfl, _, r3, r4⟩ := R1
      exact ⟨i, j, k, _, by rw [r1.1, r2.1, r3.1, r4.1], rgD_ok hk, w Z1 H1 F1 [] _ P1 Fresh.nil (by simp) it_rangeC⟩
    · subst hr; exact w.elim
  · subst hr; exact w.elim
  · rename_i ha
    subst hr
    exact tA.ex S ha w
  · subst hr; exact w.elim
end
end Dd
/-! [elt for tg in iter if .. for tg1 in iter1 if ..], without effect. -/
namespace Dd
open PySem L2 PyProof.Rows
def lc2In (t1 : Tg) (tt1 : DT) (elt : DE) (ρw : Dd.Env) : List D → List D → Option (List D)
  | [], acc => some acc
  | d :: ds, acc => match t1 d ρw with
    | none => none
    | some ρ3 => match tt1 ρ3 with
      | .ok _ b e ρ4 => if e = true then none else if b = true then (match elt ρ4 with
        | .ok _ x e2 _ => if e2 = false ∧ frz x = true ∧ acc.length < 1000000 then lc2In t1 tt1 elt ρw ds (acc ++ [x]) else none
        | _ => none) else lc2In t1 tt1 elt ρw ds acc
      | _ => none
def lc2Out (t : Tg) (tt : DT) (it1 : DI) (t1 : Tg) (tt1 : DT) (elt : DE) (vs1 : List Nat) (ρw : Dd.Env) : List D → List D → Option (List D)
  | [], acc => some acc
  | d :: ds, acc => match t d ρw with
    | none => none
    | some ρ3 => match tt ρ3 with
      | .ok _ b e ρ4 => if e = true then none else if b = true then (match it1 ρ4 with
        | .ok _ ds1 e2 ρ5 => if e2 = true then none else (match lc2In t1 tt1 elt (wipeE ρ5 vs1) ds1 acc with
          | some acc1 => lc2Out t tt it1 t1 tt1 elt vs1 ρw ds acc1
          | none => none)
        | _ => none) else lc2Out t tt it1 t1 tt1 elt vs1 ρw ds acc
      | _ => none
def dLc2 (it : DI) (t : Tg) (tt : DT) (it1 : DI) (t1 : Tg) (tt1 : DT) (elt : DE) (vs vs1 : List Nat) : DE := fun ρ => match it ρ with
  | .ok _ ds e ρ1 => (match lc2Out t tt it1 t1 tt1 elt vs1 (wipeE ρ1 vs) ds [] with
    | some acc => .ok true (.box true .lst acc) e ρ1
    | none => .bad)
  | .ex c xs ρ1 => .ex c xs ρ1
  | .bad => .bad
section
variable {c : Cc} {it it1 : DI} {t t1 : Tg} {g g1 : TG} {tt tt1 : DT} {elt : DE} {vs vs1 : List Nat}
theorem New.updD {Z1 H1 Z2 H2 : Hp} {D : Addr} {o : HO} (n : New Z1 H1 Z2 H2) (hD : H1 D = none) (hz : Z2 D = none) (ho : ∀ ps, H2 D ≠ some (.tbl ps)) (hox : ∀ b u, H2 D ≠ some (.frz b u)) (nto : ∀ xs, o ≠ .tup xs := by intro _ z; cases z) : New Z1 H1 Z2 (upd H2 D o) :=
  ⟨n.zz, ⟨fun a u e h => by rw [upd_ne fun q => by rw [q, hD] at e; cases e]; exact n.hh.fr a u e h, fun P t => (n.hh.tg P t).updN ho hox, fun a h => by
    by_cases z : a = D
    · rw [z, upd_same]; exact Option.some_ne_none _
    · rw [upd_ne z]; exact n.hh.dm a h⟩, fun a u e => by rw [upd_ne fun q => by rw [q, hz] at e; cases e]; exact n.zh a u e, n.nn, fun q xs h => n.tp q xs (tp_upd nto h), n.tz⟩
theorem lc2_imp {Q : VK} {σ : L2.St} {H : Hp} (hg : TgOk c.G c.lk g t) (hin : TgIn g t vs) (hg1 : TgOk c.G c.lk g1 t1) (hin1 : TgIn g1 t1 vs1) (hl : ∀ v ∈ vs, lkOk c.lk v = true) (hl1 : ∀ v ∈ vs1, lkOk c.lk v = true)
    (w : tE c (dLc2 it t tt it1 t1 tt1 elt vs vs1) σ H Q) : tLc2 (tI c it) g (tT c.in tt) (tI c.in it1) g1 (tT c.in tt1) (tE c.in elt) vs vs1 σ H Q := by
  obtain ⟨Z, ρ, F, S, w⟩ := w
  generalize hr : dLc2 it t tt it1 t1 tt1 elt vs vs1 ρ = r at w
  unfold dLc2 at hr
  show tI c it σ H _
  split at hr
  case h_3 => subst hr; exact w.elim
  case h_2 =>
    rename_i ha
    subst hr
    exact ⟨Z, ρ, F, S, by rw [ha]; exact w⟩
  rename_i f ds eff ρ1 ha
  refine ⟨Z, ρ, F, S, ?_⟩
  rw [ha]
  intro Z1 H1 F1 Gk J P1 fk dk io Dl hD
  split at hr
  case h_2 => subst hr; exact w.elim
  rename_i res hlc
  subst hr
  obtain ⟨Fw, Sw, subw⟩ := P1.sta.wipe hl
  have zD : Z1 Dl = none := z_none P1.sta.zh hD
  let W : Nat → Nat → Hp → Prop := fun i m H2 => m = ds.length - i ∧ i ≤ ds.length ∧ ∃ Z2 acci accv, New Z1 H1 Z2 H2 ∧ H2 Dl = some (.lst accv) ∧ Z2 Dl = none ∧ RepL c.G Z2 H2 acci accv [] ∧ lc2Out t tt it1 t1 tt1 elt vs1 (wipeE ρ1 vs) (ds.drop i) acci = some res
  have n0 := New.own (o := .lst []) P1.sta.zh hD
  refine ⟨W, ⟨ds.length, rfl, Nat.zero_le _, Z1, [], [], n0, upd_same, zD, ⟨rfl, rfl⟩, hlc⟩, ?_⟩
  rintro i m H2 ⟨hm, hi, Z2, acci, accv, n2, hDl, zDl, ra, hloop⟩
  have kept : ∀ a ∈ Gk, ∀ o, H1 a = some o → (∀ ps, o ≠ .tbl ps) → H2 a = some o := fun a ha o e => n2.hh.fr a o e
  by_cases hlt : i < ds.length
  · obtain ⟨go, yl⟩ := io.go Z2 H2 n2.zz n2.zh kept i _ (List.getElem?_eq_getElem hlt)
    rw [List.drop_eq_getElem_cons hlt] at hloop
    refine .inr ⟨go, fun H' => W (i + 1) (ds.length - (i + 1)) H', fun H' n => ⟨_, by omega, n⟩, fun x H3 hy => ?_⟩
    obtain ⟨Z3, n3, r3⟩ := yl x H3 hy (Sw.new n2).tb.2.1
    cases ht : t ds[i] (wipeE ρ1 vs) with
    | none => simp only [lc2Out, ht, reduceCtorEq] at hloop
    | some ρ3 =>
      simp only [lc2Out, ht] at hloop
      refine hin.tg x σ H3 _ ?_
      have n13 := n2.trans n3
      refine hg Z3 H3 _ (wipeE ρ1 vs) ρ3 Fw _ x _ (Sw.new n13) r3 ht fun σ3 F3 S3 h3 => ?_
      intro hwσ
      have d3 : H3 Dl = some (.lst accv) := n3.hh.fr _ _ hDl (fun _ z => nomatch z)
      have z3 : Z3 Dl = none := (n3.nn Dl (ne_none hDl)).trans zDl
      have ra3 : RepL c.G Z3 H3 acci accv [] := ra.mono n3.zz (fun a h => by cases h)
      have nD3 : Dl ∉ F3 := fun q => by
        exact P1.sta.dom (subw.subset (h3 Dl q)) hD
      cases htt : tt ρ3 with
      | bad => simp only [htt, reduceCtorEq] at hloop
      | ex x xs ρ4 => simp only [htt, reduceCtorEq] at hloop
      | ok ft b e1 ρ4 =>
        simp only [htt] at hloop
        split at hloop
        case isTrue => cases hloop
        rename_i he1
        have he1 : e1 = false := by simpa using he1
        subst he1
        refine tT.ok (c := c.in) S3 htt fun Z4 H4 F4 P4 => ?_
        obtain ⟨rfl, rfl, n4⟩ := P4.qui rfl
        have n14 := n13.trans n4
        have d4 : H4 Dl = some (.lst accv) := n4.hh.fr _ _ d3 (fun _ z => nomatch z)
        have z4 : Z4 Dl = none := (n4.nn Dl (ne_none d3)).trans z3
        have ra4 : RepL c.G Z4 H4 acci accv [] := ra3.mono n4.zz (fun a h => by cases h)
        cases b with
        | false =>
          rw [if_neg Bool.false_ne_true] at hloop ⊢
          exact ⟨rfl, hlt, Z4, acci, accv, n14, d4, z4, ra4, hloop⟩
        | true =>
          rw [if_pos rfl] at hloop ⊢
          cases hit1 : it1 ρ4 with
          | bad => simp only [hit1, reduceCtorEq] at hloop
          | ex x xs ρ5 => simp only [hit1, reduceCtorEq] at hloop
          | ok f5 ds1 e5 ρ5 =>
            simp only [hit1] at hloop
            split at hloop
            case isTrue => cases hloop
            rename_i he5
            have he5 : e5 = false := by simpa using he5
            subst he5
            split at hloop
            case h_2 => cases hloop
            rename_i acc1 hin2
            refine ⟨Z4, ρ4, F4, P4.sta, ?_⟩
            rw [hit1]
            intro Z5 H5 F5 Gk1 J1 P5 fk1 dk1 io1
            obtain ⟨rfl, rfl, n5⟩ := P5.qui rfl
            have n15 := n14.trans n5
            have d5 : H5 Dl = some (.lst accv) := n5.hh.fr _ _ d4 (fun _ z => nomatch z)
            have z5 : Z5 Dl = none := (n5.nn Dl (ne_none d4)).trans z4
            have ra5 : RepL c.G Z5 H5 acci accv [] := ra4.mono n5.zz (fun a h => by cases h)
            have nGk : Dl ∉ Gk1 := fun q => (fk1.nh Dl q).elim nD3 (ne_none d4)
            obtain ⟨Fv, Sv, subv⟩ := P5.sta.wipe (vs := vs1) hl1
            have nDv : Dl ∉ Fv := fun q => nD3 (subv.subset q)
            let W1 : Nat → Nat → Hp → Prop := fun j k H6 => k = ds1.length - j ∧ j ≤ ds1.length ∧ ∃ Z6 acci accv, New Z1 H1 Z6 H6 ∧ Ex Z5 Z6 ∧ (∀ a ∈ Gk1, ∀ o, H5 a = some o → (∀ ps, o ≠ .tbl ps) → H6 a = some o) ∧ State c.G c.lk Z6 H6 (wipe σ3 vs1) (wipeE ρ5 vs1) Fv ∧
              H6 Dl = some (.lst accv) ∧ Z6 Dl = none ∧ RepL c.G Z6 H6 acci accv [] ∧ lc2In t1 tt1 elt (wipeE ρ5 vs1) (ds1.drop j) acci = some acc1
            refine ⟨W1, ⟨ds1.length, rfl, Nat.zero_le _, Z5, acci, accv, n15, Ex.refl _, fun a _ o e _ => e, Sv, d5, z5, ra5, hin2⟩, ?_⟩
            rintro j k H6 ⟨hk, hj, Z6, accj, accw, n16, e56, kept1, S6, d6, z6, ra6, hl6⟩
            by_cases hjl : j < ds1.length
            · obtain ⟨go1, yl1⟩ := io1.go Z6 H6 e56 S6.zh kept1 j _ (List.getElem?_eq_getElem hjl)
              rw [List.drop_eq_getElem_cons hjl] at hl6
              refine .inr ⟨go1, fun H' => W1 (j + 1) (ds1.length - (j + 1)) H', fun H' n => ⟨_, by omega, n⟩, fun x1 H7 hy1 => ?_⟩
              obtain ⟨Z7, n7, r7⟩ := yl1 x1 H7 hy1 S6.tb.2.1
              cases ht1 : t1 ds1[j] (wipeE ρ5 vs1) with
              | none => simp only [lc2In, ht1, reduceCtorEq] at hl6
              | some ρ8 =>
                simp only [lc2In, ht1] at hl6
                refine hin1.tg x1 σ3 H7 _ ?_
                have S7 := S6.new n7
                refine hg1 Z7 H7 _ (wipeE ρ5 vs1) ρ8 Fv _ x1 _ S7 r7 ht1 fun σ8 F8 S8 h8 => ?_
                intro hwσ1
                have n17 := n16.trans n7
                have d7 : H7 Dl = some (.lst accw) := n7.hh.fr _ _ d6 (fun _ z => nomatch z)
                have z7 : Z7 Dl = none := (n7.nn Dl (ne_none d6)).trans z6
                have ra7 : RepL c.G Z7 H7 accj accw [] := ra6.mono n7.zz (fun a h => by cases h)
                have kept7 : ∀ a ∈ Gk1, ∀ o, H5 a = some o → (∀ ps, o ≠ .tbl ps) → H7 a = some o := fun a h o e t => n7.hh.fr a o (kept1 a h o e t) t
                cases htt1 : tt1 ρ8 with
                | bad => simp only [htt1, reduceCtorEq] at hl6
                | ex x xs ρ9 => simp only [htt1, reduceCtorEq] at hl6
                | ok f9 b1 e9 ρ9 =>
                  simp only [htt1] at hl6
                  split at hl6
                  case isTrue => cases hl6
                  rename_i he9
                  have he9 : e9 = false := by simpa using he9
                  subst he9
                  refine tT.ok (c := c.in) S8 htt1 fun Z9 H9 F9 P9 => ?_
                  obtain ⟨rfl, rfl, n9⟩ := P9.qui rfl
                  have n19 := n17.trans n9
                  have n79 := n7.trans n9
                  have d9 : H9 Dl = some (.lst accw) := n9.hh.fr _ _ d7 (fun _ z => nomatch z)
                  have z9 : Z9 Dl = none := (n9.nn Dl (ne_none d7)).trans z7
                  have ra9 : RepL c.G Z9 H9 accj accw [] := ra7.mono n9.zz (fun a h => by cases h)
                  have kept9 : ∀ a ∈ Gk1, ∀ o, H5 a = some o → (∀ ps, o ≠ .tbl ps) → H9 a = some o := fun a h o e t => n9.hh.fr a o (kept7 a h o e t) t
                  cases b1 with
                  | false =>
                    rw [if_neg Bool.false_ne_true] at hl6 ⊢
                    exact ⟨rfl, hjl, Z9, accj, accw, n19, (e56.trans n79.zz), kept9, S6.new n79, d9, z9, ra9, hl6⟩
                  | true =>
                    rw [if_pos rfl] at hl6 ⊢
                    cases hel : elt ρ9 with
                    | bad => simp only [hel, reduceCtorEq] at hl6
                    | ex x xs ρ10 => simp only [hel, reduceCtorEq] at hl6
                    | ok fe y e10 ρ10 =>
                      simp only [hel] at hl6
                      split at hl6
                      case isFalse => cases hl6
                      rename_i hq
                      obtain ⟨q1, q2, q3⟩ := hq
                      subst q1
                      refine tE.ok (c := c.in) P9.sta hel fun Z10 H10 F10 yv G10 P10 R10 f10 => ?_
                      obtain ⟨_, _, n10⟩ := P10.qui rfl
                      have e0 := R10.frz_nil q2
                      subst e0
                      have d10 : H10 Dl = some (.lst accw) := n10.hh.fr _ _ d9 (fun _ z => nomatch z)
                      have z10 : Z10 Dl = none := (n10.nn Dl (ne_none d9)).trans z9
                      have ra10 : RepL c.G Z10 H10 accj accw [] := ra9.mono n10.zz (fun a h => by cases h)
                      have ntb : ∀ ps, H10 Dl ≠ some (.tbl ps) := fun ps z => by rw [d10] at z; cases z
                      have nte : ∀ b u, H10 Dl ≠ some (.frz b u) := fun _ _ z => by rw [d10] at z; cases z
                      have n110 := n19.trans n10
                      refine ⟨accw, d10, by rw [← ra10.length]; exact big_lt q3, ?_⟩
                      refine ⟨rfl, hjl, Z10, accj ++ [y], accw ++ [yv], n110.updD hD z10 ntb nte, e56.trans (n79.trans n10).zz, fun a h o e t => ?_, (S6.new (n79.trans n10)).upd z10 nDv ntb nte, upd_same, z10, ?_, hl6⟩
                      · rw [upd_ne fun (q : a = Dl) => nGk (q ▸ h)]
                        exact n10.hh.fr a o (kept9 a h o e t) t
                      · have r1 := ra10.append (es := [y]) (ws := [yv]) (F := []) (F' := []) ⟨yv, [], [], [], rfl, rfl, R10, rfl, rfl⟩
                        exact r1.mono (Ex.refl _) (fun a h => by cases h)
            · have ej : j = ds1.length := by omega
              subst ej
              refine .inl ⟨io1.stop Z6 H6 e56 S6.zh kept1, ?_⟩
              rw [List.drop_length] at hl6
              simp only [lc2In, Option.some.injEq] at hl6
              subst hl6
              exact ⟨rfl, hlt, Z6, _, accw, n16, d6, z6, ra6, hloop⟩
  · have ei : i = ds.length := by omega
    subst ei
    refine .inl ⟨io.stop Z2 H2 n2.zz n2.zh kept, ?_⟩
    rw [List.drop_length] at hloop
    simp only [lc2Out, Option.some.injEq] at hloop
    subst hloop
    have rr : Rep c.G Z2 H2 (.box true .lst acci) (.ref Dl) [Dl] := ⟨Dl, accv, [], rfl, ra, fun q => (nomatch q), fun _ => ⟨rfl, _, hDl, rfl⟩⟩
    have P := P1.trans (PostE.new P1.sta n2)
    rw [Bool.or_false] at P
    exact w Z2 H2 F1 _ _ P rr fun _ => Fresh.earlier P1 ⟨by simp, fun b hb => .inr (by rw [List.mem_singleton.mp hb]; exact hD), fun b hb => by rw [List.mem_singleton.mp hb]; exact zDl, fun b hb q => by rw [List.mem_singleton.mp hb] at q; exact P1.sta.dom q hD⟩
end
section
variable {c : Cc} {it it1 : DI} {t t1 : Tg} {g g1 : TG} {tt tt1 : DT} {elt : DE} {vs1 : List Nat} {X : Cx} {tg iter tg1 iter1 elx : Expr} {ifs ifs1 : List Expr} {scope : Scope} {own : List (Str × Nat)} {pos spos py : Pos}
theorem e_lc2 (hc : X.calm = true) (hN : X.N.Nodup) (hi : PI X tg iter (tI c it)) (ok : BlkOk X.N X.env.scope scope own) (hv : ∀ i ∈ vs1, i ∈ own.map (·.2))
    (hg : ∀ (s : Shared) (H : Hp) (C : Addr) (cl : List (Str × Addr)) (fp : List Addr), PG (X.blk s H scope (compEnvC scope cl C X.env) fp) tg g)
    (htg : TgOk c.G c.lk g t) (hin : TgIn g t (own.map (·.2)))
    (ht : ∀ (s : Shared) (H : Hp) (C : Addr) (cl : List (Str × Addr)) (fp : List Addr), PTs (X.blk s H scope (compEnvC scope cl C X.env) fp) ifs (tT c.in tt))
    (hi1 : ∀ (s : Shared) (H : Hp) (C : Addr) (cl : List (Str × Addr)) (fp : List Addr), PI (X.blk s H scope (compEnvC scope cl C X.env) fp) tg1 iter1 (tI c.in it1))
    (hg1 : ∀ (s : Shared) (H : Hp) (C : Addr) (cl : List (Str × Addr)) (fp : List Addr), PG (X.blk s H scope (compEnvC scope cl C X.env) fp) tg1 g1)
    (htg1 : TgOk c.G c.lk g1 t1) (hin1 : TgIn g1 t1 vs1)
    (ht1 : ∀ (s : Shared) (H : Hp) (C : Addr) (cl : List (Str × Addr)) (fp : List Addr), PTs (X.blk s H scope (compEnvC scope cl C X.env) fp) ifs1 (tT c.in tt1))
    (he : ∀ (s : Shared) (H : Hp) (C : Addr) (cl : List (Str × Addr)) (fp : List Addr), PE (X.blk s H scope (compEnvC scope cl C X.env) fp) elx (tE c.in elt)) (hl : (own.map (·.2)).all (lkOk c.lk) = true := by rfl) (hl1 : vs1.all (lkOk c.lk) = true := by rfl) (hs : ∀ x, foldedSetIterable iter X.env x = pure x := by intro _; rfl) (hs1 : ∀ env x, foldedSetIterable iter1 env x = pure x := by intro _ _; rfl) :
    PE X (.ListComp elx [⟨tg, iter, ifs, 0⟩, ⟨tg1, iter1, ifs1, 0⟩] scope pos) (tE c (dLc2 it t tt it1 t1 tt1 elt (own.map (·.2)) vs1)) := (pe_lc2 hc hN hi ok hv hg ht hi1 hg1 ht1 he hs hs1).imp fun _ _ _ w => lc2_imp htg hin htg1 hin1 (List.all_eq_true.mp hl) (List.all_eq_true.mp hl1) w
/-- y = [..] -/
theorem s_lc2 {i : Nat} {y : Str} (hc : X.calm = true) (hN : X.N.Nodup) (hy : X.N[i]? = some y) (hyl : X.env.scope.names.lookup y = some .local) (hsw : swapsWith (.ListComp elx [⟨tg, iter, ifs, 0⟩, ⟨tg1, iter1, ifs1, 0⟩] scope pos) (some (.Name y py)) spos.line X.env = pure true)
    (hi : PI X tg iter (tI c it)) (ok : BlkOk X.N X.env.scope scope own) (hv : ∀ i ∈ vs1, i ∈ own.map (·.2))
    (hg : ∀ (s : Shared) (H : Hp) (C : Addr) (cl : List (Str × Addr)) (fp : List Addr), PG (X.blk s H scope (compEnvC scope cl C X.env) fp) tg g)
    (htg : TgOk c.G c.lk g t) (hin : TgIn g t (own.map (·.2)))
    (ht : ∀ (s : Shared) (H : Hp) (C : Addr) (cl : List (Str × Addr)) (fp : List Addr), PTs (X.blk s H scope (compEnvC scope cl C X.env) fp) ifs (tT c.in tt))
    (hi1 : ∀ (s : Shared) (H : Hp) (C : Addr) (cl : List (Str × Addr)) (fp : List Addr), PI (X.blk s H scope (compEnvC scope cl C X.env) fp) tg1 iter1 (tI c.in it1))
    (hg1 : ∀ (s : Shared) (H : Hp) (C : Addr) (cl : List (Str × Addr)) (fp : List Addr), PG (X.blk s H scope (compEnvC scope cl C X.env) fp) tg1 g1)
    (htg1 : TgOk c.G c.lk g1 t1) (hin1 : TgIn g1 t1 vs1)
    (ht1 : ∀ (s : Shared) (H : Hp) (C : Addr) (cl : List (Str × Addr)) (fp : List Addr), PTs (X.blk s H scope (compEnvC scope cl C X.env) fp) ifs1 (tT c.in tt1))
    (he : ∀ (s : Shared) (H : Hp) (C : Addr) (cl : List (Str × Addr)) (fp : List Addr), PE (X.blk s H scope (compEnvC scope cl C X.env) fp) elx (tE c.in elt)) (hl : (own.map (·.2)).all (lkOk c.lk) = true := by rfl) (hl1 : vs1.all (lkOk c.lk) = true := by rfl) (hl2 : lkOk c.lk i = true := by rfl) (hs : ∀ x, foldedSetIterable iter X.env x = pure x := by intro _; rfl) (hs1 : ∀ env x, foldedSetIterable iter1 env x = pure x := by intro _ _; rfl) :
    PS X (.Assign [.Name y py] (.ListComp elx [⟨tg, iter, ifs, 0⟩, ⟨tg1, iter1, ifs1, 0⟩] scope pos) spos) (tS c (dAsg i (dLc2 it t tt it1 t1 tt1 elt (own.map (·.2)) vs1))) := (ps_setLc2 hc hN hy hyl hsw hi ok hv hg ht hi1 hg1 ht1 he hs hs1).imp fun D σ H w => by
  have w2 := asg_imp hl2 w
  exact lc2_imp htg hin htg1 hin1 (List.all_eq_true.mp hl) (List.all_eq_true.mp hl1) w2
end
theorem _root_.L2.Room.u65 {k : Nat} {A : Around} (r : Room k A) : A.units + 65 < cLine := by have := r.un; omega
end Dd
/-! list(range(a, b)), tuple(range(n)). -/
namespace Dd
open PySem L2 PyProof.Rows
def rangeI (i j : Int) : List D := rangeD i (j - i).toNat
def fListR2 : D → D → Option (Bool × D)
  | .int i, .int j => if i.natAbs ≤ 1000000 ∧ j.natAbs ≤ 1000000 then some (true, .box true .lst (rangeI i j)) else none
  | _, _ => none
def fTupR1 : D → Option (Bool × D)
  | .int n => if n.natAbs ≤ 1000000 then some (true, .box false .tup (rangeI 0 n)) else none
  | _ => none
section
variable {G : Gx} {Z H : Hp}
theorem rgI_repL (i j : Int) : RepL G Z H (rangeI i j) (rgV i j) [] := by
  have e1 : rangeI i j = ((List.range (j - i).toNat).map fun (k : Nat) => (i + (k : Int))).map D.int := by simp [rangeI, rangeD]
  have e2 : rgV i j = ((List.range (j - i).toNat).map fun (k : Nat) => (i + (k : Int))).map V.int := by simp [rgV]
  rw [e1, e2]
  exact repL_ints _
theorem rgOk_of {i j : Int} (h : i.natAbs ≤ 1000000 ∧ j.natAbs ≤ 1000000) : RgOk i j := ⟨by omega, by omega, by omega, by omega, by omega⟩
theorem o_listR2 : Op2 G (fun x y H Q => ∃ i j, x = .int i ∧ y = .int j ∧ (RgOk i j ∧ ∀ q, H q = none → Q (.ref q) (upd H q (.lst (rgV i j))))) fListR2 := by
  intro Z H x y v w F1 F2 fr z zh r1 r2 hf Q k
  unfold fListR2 at hf
  split at hf
  · split at hf
    · rename_i hc
      simp only [Option.some.injEq, Prod.mk.injEq] at hf
      obtain ⟨rfl, rfl⟩ := hf
      exact ⟨_, _, r1.1, r2.1, rgOk_of hc, fun q hq => k _ _ _ [q] (New.own zh hq) (rep_newL zh hq (rgI_repL _ _)) fun _ => ⟨by simp, fun b hb => by rw [List.mem_singleton.mp hb]; exact ⟨hq, z_none zh hq⟩⟩⟩
    · cases hf
  · cases hf
theorem o_tupR1 : Op1 G (fun x H Q => ∃ n, x = .int n ∧ (RgOk 0 n ∧ ∀ q, H q = none → Q (.ref q) (upd H q (.tup (rgV 0 n))))) fTupR1 := by
  intro Z H x v F1 fr z zh r1 hf Q k
  unfold fTupR1 at hf
  split at hf
  · split at hf
    · rename_i hc
      simp only [Option.some.injEq, Prod.mk.injEq] at hf
      obtain ⟨rfl, rfl⟩ := hf
      exact ⟨_, r1.1, rgOk_of ⟨by decide, hc⟩, fun q hq => k _ _ _ [] (New.fro zh hq) (rep_newT zh hq (rgI_repL _ _)) fun _ => ⟨by simp, by simp⟩⟩
    · cases hf
  · cases hf
end
section
variable {c : Cc} {X : Cx} {a b : Expr} {m m2 : DE} {p pos : Pos}
theorem e_listR2 {p2 pos2 : Pos} (hc : X.calm = true) (hgl : Gl X "list") (hml : X.mg "list" = none) (hg : Gl X "range") (hm : X.mg "range" = none) (h : PE X a (tE c m)) (h2 : PE X b (tE c m2)) (na : starEach [a, b] X.env = (false, eval a X.env) :: starEach [b] X.env := by rfl)
    (nb : starEach [b] X.env = (false, eval b X.env) :: starEach [] X.env := by rfl) (hp : (backTo pos2 (starEach [b] X.env)).any (·.1) = false := by rfl)
    (na2 : starEach [(.Call (.Name "range" p2) [a, b] [] pos2 : Expr)] X.env = (false, eval (.Call (.Name "range" p2) [a, b] [] pos2 : Expr) X.env) :: starEach [] X.env := by rfl) :
    PE X (.Call (.Name "list" p) [.Call (.Name "range" p2) [a, b] [] pos2] [] pos) (tE c (bind2 fListR2 m m2)) := (pe_listRg hc hgl hml (prg_2 hg hm h h2 na nb hp) na2).imp fun σ H Q w => bind2_imp o_listR2 w
theorem e_tupR1 {p2 pos2 : Pos} (hc : X.calm = true) (hgl : Gl X "tuple") (hml : X.mg "tuple" = none) (hg : Gl X "range") (hm : X.mg "range" = none) (h : PE X a (tE c m)) (na : starEach [a] X.env = (false, eval a X.env) :: starEach [] X.env := by rfl)
    (na2 : starEach [(.Call (.Name "range" p2) [a] [] pos2 : Expr)] X.env = (false, eval (.Call (.Name "range" p2) [a] [] pos2 : Expr) X.env) :: starEach [] X.env := by rfl) :
    PE X (.Call (.Name "tuple" p) [.Call (.Name "range" p2) [a] [] pos2] [] pos) (tE c (bind1 fTupR1 m)) := (pe_tupRg hc hgl hml (prg_1 hg hm h na) na2).imp fun σ H Q w => bind1_imp o_tupR1 w
end
end Dd
/-! Plain tuples, sorted rows, two fors: evaluation. -/
namespace Dd
open PySem L2
@[simp] theorem v_dTupP (a : DA) (ρ : Dd.Env) : dTupP a ρ = match a ρ with
  | .ok _ xs e ρ1 => if xs.length ≤ 1000000 ∧ frzL xs = true then .ok true (.box false .tpl xs) e ρ1 else .bad
  | .ex c xs ρ1 => .ex c xs ρ1
  | .bad => .bad := rfl
@[simp] theorem v_dSlP (m : DE) (lo hi : DO) (ρ : Dd.Env) : dSlP m lo hi ρ = match m ρ with
  | .ok f1 x e1 ρ1 => (match lo ρ1 with
    | .ok _ l e2 ρ2 => (match hi ρ2 with
      | .ok _ h e3 ρ3 => if (!(e2 || e3) || f1 || frz x) = true then (match fSlP x l h with | some (fr, z) => .ok fr z (e1 || (e2 || e3)) ρ3 | none => .bad) else .bad
      | .ex c xs ρ3 => .ex c xs ρ3
      | .bad => .bad)
    | .ex c xs ρ2 => .ex c xs ρ2
    | .bad => .bad)
  | .ex c xs ρ1 => .ex c xs ρ1
  | .bad => .bad := rfl
@[simp] theorem v_slP (o : Bool) (ds : List D) (x y : Option Int) : fSlP (.box o .tpl ds) x y = if frzL ds = true then some (true, .box false .tpl (cutG ds x y)) else none := rfl
@[simp] theorem v_plusP (o o' : Bool) (ds es : List D) : fPlusP (.box o .tpl ds) (.box o' .tpl es) = if frzL ds = true ∧ frzL es = true ∧ ds.length + es.length ≤ 1000000 then some (true, .box false .tpl (ds ++ es)) else none := rfl
@[simp] theorem v_dUpA (m : DE) (ρ : Dd.Env) : dUpA m ρ = match m ρ with
  | .ok f d e ρ1 => .ok f (upA d) e ρ1
  | .ex c xs ρ1 => .ex c xs ρ1
  | .bad => .bad := rfl
@[simp] theorem v_upAL (o : Bool) (ds : List D) : upA (.box o .lst ds) = .box o .lst (upAL ds) := rfl
@[simp] theorem v_upAT (o : Bool) (ds : List D) : upA (.box o .tup ds) = .box o .tup (upAL ds) := rfl
@[simp] theorem v_upAP (o : Bool) (ds : List D) : upA (.box o .tpl ds) = .box o .tup (upAL ds) := rfl
@[simp] theorem v_upAI (i : Int) : upA (.int i) = .int i := rfl
@[simp] theorem v_upAN : upA .non = .non := rfl
@[simp] theorem v_upAB (b : Bool) : upA (.bl b) = .bl b := rfl
@[simp] theorem v_upAS (s : Str) : upA (.str s) = .str s := rfl
@[simp] theorem v_upAi (ns : List Int) : upAL (ns.map D.int) = ns.map D.int := up_ints ns
@[simp] theorem v_upA0 : upAL [] = [] := rfl
@[simp] theorem v_upA1 (d : D) (ds : List D) : upAL (d :: ds) = upA d :: upAL ds := rfl
@[simp] theorem v_dRangeD (a : DA) (ρ : Dd.Env) : dRangeD a ρ = match a ρ with
  | .ok _ [.int i, .int j, .int c] e ρ1 => if c < 0 ∧ c.natAbs < 1000 ∧ i.natAbs ≤ 1000000 ∧ j.natAbs ≤ 1000000 then .ok true (rangeC i c ((i - j - c - 1) / (-c)).toNat) e ρ1 else .bad
  | .ok _ _ _ _ => .bad
  | .ex c xs ρ1 => .ex c xs ρ1
  | .bad => .bad := rfl
@[simp] theorem v_listR2 (i j : Int) : fListR2 (.int i) (.int j) = if i.natAbs ≤ 1000000 ∧ j.natAbs ≤ 1000000 then some (true, .box true .lst (rangeI i j)) else none := rfl
@[simp] theorem v_tupR1 (n : Int) : fTupR1 (.int n) = if n.natAbs ≤ 1000000 then some (true, .box false .tup (rangeI 0 n)) else none := rfl
theorem cut_lo {α : Type} (xs : List α) (k : Nat) (h : k ≤ xs.length) : cutG xs none (some (k : Int)) = xs.take k := by
  unfold cutG
  rw [HT.sIx_none, HT.sIx_nat, List.drop_zero, Nat.sub_zero, Nat.min_eq_left h]
theorem cut_hi {α : Type} (xs : List α) (k : Nat) (h : k ≤ xs.length) : cutG xs (some (k : Int)) none = xs.drop k := by
  unfold cutG
  rw [HT.sIx_none, HT.sIx_nat, Nat.min_eq_left h, List.take_of_length_le (by simp)]
/-! two fors, evaluated -/
section
variable {α β : Type} {it it1 : DI} {t t1 : Tg} {tt tt1 : DT} {elt : DE} {vs vs1 : List Nat} {ρ ρ1 ρ0 : Dd.Env} {fl e : Bool}
theorem lc2In_q (c : β → D) (y : β → D) : ∀ (zs : List β) (acc : List D), acc.length + zs.length ≤ 1000000 →
    (∀ z ∈ zs, ∃ ρz f1 f2, t1 (c z) ρ0 = some ρz ∧ tt1 ρz = .ok f1 true false ρz ∧ elt ρz = .ok f2 (y z) false ρz ∧ frz (y z) = true) →
    lc2In t1 tt1 elt ρ0 (zs.map c) acc = some (acc ++ zs.map y)
  | [], acc, _, _ => by simp [lc2In]
  | z :: zs, acc, hl, h => by
    have hl' : acc.length + (zs.length + 1) ≤ 1000000 := hl
    obtain ⟨ρz, f1, f2, h1, h2, h3, h4⟩ := h z List.mem_cons_self
    have ih := lc2In_q c y zs (acc ++ [y z]) (by simp <;> omega) fun w hw => h w (List.mem_cons_of_mem _ hw)
    have c2 : acc.length < 1000000 := by omega
    simp only [List.map_cons, lc2In, h1, h2, h3, h4, c2, ih]
    simp
theorem lc2Out_q (c : α → D) (f : α → List β) (c1 y : β → D) : ∀ (xs : List α) (acc : List D), acc.length + (xs.flatMap f).length ≤ 1000000 →
    (∀ x ∈ xs, ∃ ρx f1 f2, t (c x) ρ0 = some ρx ∧ tt ρx = .ok f1 true false ρx ∧ it1 ρx = .ok f2 ((f x).map c1) false ρx ∧
      ∀ z ∈ f x, ∃ ρz f1 f2, t1 (c1 z) (wipeE ρx vs1) = some ρz ∧ tt1 ρz = .ok f1 true false ρz ∧ elt ρz = .ok f2 (y z) false ρz ∧ frz (y z) = true) →
    lc2Out t tt it1 t1 tt1 elt vs1 ρ0 (xs.map c) acc = some (acc ++ (xs.flatMap f).map y)
  | [], acc, _, _ => by simp [lc2Out]
  | x :: xs, acc, hl, h => by
    obtain ⟨ρx, f1, f2, h1, h2, h3, h4⟩ := h x List.mem_cons_self
    rw [List.flatMap_cons, List.length_append] at hl
    have q := lc2In_q (t1 := t1) (tt1 := tt1) (elt := elt) (ρ0 := wipeE ρx vs1) c1 y (f x) acc (by omega) h4
    have ih := lc2Out_q c f c1 y xs (acc ++ (f x).map y) (by rw [List.length_append, List.length_map]; omega) fun w hw => h w (List.mem_cons_of_mem _ hw)
    simp only [List.map_cons, lc2Out, h1, h2, h3, q, ih]
    simp
theorem lc2_q (xs : List α) (c : α → D) (f : α → List β) (c1 y : β → D) (hit : it ρ = .ok fl (xs.map c) e ρ1) (hl : (xs.flatMap f).length ≤ 1000000)
    (h : ∀ x ∈ xs, ∃ ρx f1 f2, t (c x) (wipeE ρ1 vs) = some ρx ∧ tt ρx = .ok f1 true false ρx ∧ it1 ρx = .ok f2 ((f x).map c1) false ρx ∧
      ∀ z ∈ f x, ∃ ρz f1 f2, t1 (c1 z) (wipeE ρx vs1) = some ρz ∧ tt1 ρz = .ok f1 true false ρz ∧ elt ρz = .ok f2 (y z) false ρz ∧ frz (y z) = true) :
    dLc2 it t tt it1 t1 tt1 elt vs vs1 ρ = .ok true (.box true .lst ((xs.flatMap f).map y)) e ρ1 := by
  have := lc2Out_q (ρ0 := wipeE ρ1 vs) c f c1 y xs [] (by simpa using hl) h
  simp only [dLc2, hit, this, List.nil_append]
end
/-! rows of numbers -/
def nI (l : List Nat) : List Int := l.map fun (i : Nat) => (i : Int)
theorem nI_inj {a b : List Nat} (h : nI a = nI b) : a = b := by
  unfold nI at h
  exact (List.map_inj_right (fun x y h => by omega)).mp h
/-- rows of numbers, ascending -/
def srtN (L : List (List Nat)) : List (List Nat) := L.mergeSort fun a b => decide (nI a ≤ nI b)
theorem srtN_perm (L : List (List Nat)) : (srtN L).Perm L := List.mergeSort_perm _ _
theorem srtN_eq {L M : List (List Nat)} (h : L.Perm M) : srtN L = srtN M := by
  have tr : ∀ a b c : List Nat, decide (nI a ≤ nI b) = true → decide (nI b ≤ nI c) = true → decide (nI a ≤ nI c) = true := fun a b c h1 h2 => by
    simp only [decide_eq_true_eq] at *
    exact List.le_trans h1 h2
  have to : ∀ a b : List Nat, (decide (nI a ≤ nI b) || decide (nI b ≤ nI a)) = true := fun a b => by
    simp only [Bool.or_eq_true, decide_eq_true_eq]
    exact List.le_total _ _
  have p1 : (srtN L).Pairwise (fun a b => decide (nI a ≤ nI b) = true) := List.pairwise_mergeSort tr to L
  have p2 : (srtN M).Pairwise (fun a b => decide (nI a ≤ nI b) = true) := List.pairwise_mergeSort tr to M
  refine List.Perm.eq_of_pairwise ?_ p1 p2 (((srtN_perm L).trans h).trans (srtN_perm M).symm)
  intro a b _ _ h1 h2
  simp only [decide_eq_true_eq] at h1 h2
  exact nI_inj (List.le_antisymm h1 h2)
def rowN (k : Kd) (l : List Nat) : D := .box false k ((nI l).map D.int)
theorem rowI_N (l : List Nat) : rowI (rowN .tup l) = nI l ∧ rowI (rowN .tpl l) = nI l := by
  constructor <;> simp [rowI, rowD, rowN]
theorem isRow_N (l : List Nat) (h : l ≠ []) : isRow (rowN .tup l) = true ∧ isRow (rowN .tpl l) = true := by
  cases l with
  | nil => exact absurd rfl h
  | cons a l =>
    have e : nI (a :: l) = (a : Int) :: nI l := rfl
    constructor <;> simp only [isRow, rowN, rowD, intsD_map, e] <;> simp
theorem sortA_rows {k : Kd} (hk : k = .tup ∨ k = .tpl) (o : Bool) {L : List (List Nat)} (h : ∀ l ∈ L, l ≠ []) : fSortA (.box o .lst (L.map (rowN k))) = some (true, .box true .lst ((srtN L).map (rowN k))) := by
  cases L with
  | nil => simp [fSortA, fSorted, seqD, intsD, srt, srtN]
  | cons a L =>
    generalize hL : a :: L = M at *
    have h1 : fSorted (.box o .lst (M.map (rowN k))) = none := by
      rw [← hL]
      unfold fSorted
      split
      · rename_i t ds hs
        simp only [seqD] at hs
        split at hs
        · simp only [Option.some.injEq, Prod.mk.injEq] at hs
          rw [← hs.2]
          rfl
        · cases hs
      · rfl
    have h2 : (M.map (rowN k)).all isRow = true := by
      rw [List.all_eq_true]
      intro d hd
      obtain ⟨l, hl, rfl⟩ := List.mem_map.mp hd
      rcases hk with rfl | rfl
      · exact (isRow_N l (h l hl)).1
      · exact (isRow_N l (h l hl)).2
    have h3 : srtR (M.map (rowN k)) = (srtN M).map (rowN k) := by
      refine (List.map_mergeSort fun a _ b _ => ?_).symm
      rcases hk with rfl | rfl
      · rw [(rowI_N a).1, (rowI_N b).1]
      · rw [(rowI_N a).2, (rowI_N b).2]
    unfold fSortA
    rw [h1]
    simp only [fSortR, h2, if_true, h3]
theorem frz_rowN (k : Kd) (l : List Nat) : frz (rowN k l) = true := by simp [rowN]
@[simp] theorem frzL_rows (k : Kd) (L : List (List Nat)) : frzL (L.map (rowN k)) = true := frzL_map (frz_rowN k) L
@[simp] theorem fzL_rows (k : Kd) (L : List (List Nat)) : fzL (L.map (rowN k)) = L.map (rowN k) := fzL_frz (frzL_rows k L)
theorem upA_rowN {k : Kd} (hk : k = .tup ∨ k = .tpl) (l : List Nat) : upA (rowN k l) = rowN .tup l := by
  rcases hk with rfl | rfl <;> simp [rowN]
@[simp] theorem upA_rowsP (L : List (List Nat)) : upAL (L.map (rowN .tpl)) = L.map (rowN .tup) := by
  rw [upAL_map, List.map_map]
  exact List.map_congr_left fun l _ => upA_rowN (.inr rfl) l
@[simp] theorem upA_rowsT (L : List (List Nat)) : upAL (L.map (rowN .tup)) = L.map (rowN .tup) := by
  rw [upAL_map, List.map_map]
  exact List.map_congr_left fun l _ => upA_rowN (.inl rfl) l
/-! equal rows -/
def rowPy (l : List Nat) : PyData := .tuple ((nI l).map .int)
theorem toPy_rowN (l : List Nat) : toPy (rowN .tup l) = some (rowPy l) := by
  simp [rowN, toPy, toPyL_ints, rowPy]
theorem toPyL_rows : ∀ L : List (List Nat), toPyL (L.map (rowN .tup)) = some (L.map rowPy)
  | [] => rfl
  | l :: L => by simp [toPyL, toPy_rowN, toPyL_rows L]
theorem eqvAll_ints : ∀ xs ys : List Int, PyData.eqvAll (xs.map .int) (ys.map .int) = decide (xs = ys)
  | [], [] => rfl
  | [], _ :: _ => rfl
  | _ :: _, [] => rfl
  | x :: xs, y :: ys => by
    have ih := eqvAll_ints xs ys
    simp only [List.map_cons, PyData.eqvAll, PyData.eqv, ih]
    by_cases h : x = y <;> by_cases h2 : xs = ys <;> simp [h, h2]
theorem eqv_rows (a b : List Nat) : PyData.eqv (rowPy a) (rowPy b) = decide (a = b) := by
  simp only [rowPy, PyData.eqv, eqvAll_ints]
  by_cases h : a = b
  · simp [h]
  · have : nI a ≠ nI b := fun e => h (nI_inj e)
    simp [h, this]
theorem eqvAll_rows : ∀ L : List (List Nat), PyData.eqvAll (L.map rowPy) (L.map rowPy) = true
  | [] => rfl
  | l :: L => by simp only [List.map_cons, PyData.eqvAll, eqv_rows, eqvAll_rows L]; simp
theorem lay_ints : ∀ xs : List Int, PyData.canLayAll0 (xs.map .int) = true
  | [] => rfl
  | x :: xs => by simp [PyData.canLayAll0, PyData.canLay0, lay_ints xs]
theorem lay_rowPy (l : List Nat) : (rowPy l).canLay0 = true := by simp [rowPy, PyData.canLay0, lay_ints]
theorem dep_rowPy (l : List Nat) : (rowPy l).depth = 1 := by simp [rowPy, PyData.depth, PySem.W.depth_ints]
theorem lay_rows : ∀ L : List (List Nat), PyData.canLayAll0 (L.map rowPy) = true
  | [] => rfl
  | l :: L => by simp [PyData.canLayAll0, lay_rowPy, lay_rows L]
theorem dep_rows : ∀ L : List (List Nat), PyData.depthAll (L.map rowPy) ≤ 1
  | [] => by simp [PyData.depthAll]
  | l :: L => by
    have := dep_rows L
    have := dep_rowPy l
    simp only [List.map_cons, PyData.depthAll]
    omega
theorem sh_row (l : List Nat) : SeqAt.shaped (rowPy l) = true := by
  show ((rowPy l).canLay0 && decide ((rowPy l).depth ≤ 64)) = true
  simp [lay_rowPy, dep_rowPy]
theorem sh_lst (L : List (List Nat)) : SeqAt.shaped (.list (L.map rowPy)) = true := by
  have := dep_rows L
  have h2 : PyData.depth (.list (L.map rowPy)) ≤ 64 := by
    simp only [PyData.depth]
    omega
  show (PyData.canLay0 (.list (L.map rowPy)) && decide (PyData.depth (.list (L.map rowPy)) ≤ 64)) = true
  rw [Bool.and_eq_true]
  exact ⟨by simp only [PyData.canLay0]; exact lay_rows L, decide_eq_true h2⟩
theorem sh_tup (L : List (List Nat)) : SeqAt.shaped (.tuple (L.map rowPy)) = true := by
  have := dep_rows L
  have h2 : PyData.depth (.tuple (L.map rowPy)) ≤ 64 := by
    simp only [PyData.depth]
    omega
  show (PyData.canLay0 (.tuple (L.map rowPy)) && decide (PyData.depth (.tuple (L.map rowPy)) ≤ 64)) = true
  rw [Bool.and_eq_true]
  exact ⟨by simp only [PyData.canLay0]; exact lay_rows L, decide_eq_true h2⟩
theorem eq_rows (o o' : Bool) (L : List (List Nat)) : fEq (.box o .lst (L.map (rowN .tup))) (.box o' .lst (L.map (rowN .tup))) = some (true, .bl true) := by
  simp [fEq, eqV', eqDeep, toPy, toPyL_rows, sh_lst, PyData.eqv, eqvAll_rows]
theorem ne_rows (o o' : Bool) (L : List (List Nat)) : fNe (.box o .lst (L.map (rowN .tup))) (.box o' .lst (L.map (rowN .tup))) = some (true, .bl false) := by
  simp [fNe, eqV', eqDeep, toPy, toPyL_rows, sh_lst, PyData.eqv, eqvAll_rows]
theorem in_rowsT (o : Bool) (l : List Nat) (L : List (List Nat)) : fInA (rowN .tup l) (.box o .tup (L.map (rowN .tup))) = some (true, .bl (decide (l ∈ L))) := by
  have h1 : fIn (rowN .tup l) (.box o .tup (L.map (rowN .tup))) = none := rfl
  unfold fInA
  rw [h1]
  have e : (L.map rowPy).any (fun z => PyData.eqv z (rowPy l)) = decide (l ∈ L) := by
    rw [List.any_map, Bool.eq_iff_iff, List.any_eq_true, decide_eq_true_eq]
    constructor
    · rintro ⟨x, hx, h⟩
      simp only [Function.comp, eqv_rows, decide_eq_true_eq] at h
      exact h ▸ hx
    · exact fun h => ⟨l, h, by simp [eqv_rows]⟩
  simp [fInD, toPy_rowN, toPy, toPyL_rows, itemsP, sh_row, sh_tup, e, -List.any_map]
theorem in_rowsL (o : Bool) (l : List Nat) (L : List (List Nat)) : fInA (rowN .tup l) (.box o .lst (L.map (rowN .tup))) = some (true, .bl (decide (l ∈ L))) := by
  have h1 : fIn (rowN .tup l) (.box o .lst (L.map (rowN .tup))) = none := rfl
  unfold fInA
  rw [h1]
  have e : (L.map rowPy).any (fun z => PyData.eqv z (rowPy l)) = decide (l ∈ L) := by
    rw [List.any_map, Bool.eq_iff_iff, List.any_eq_true, decide_eq_true_eq]
    constructor
    · rintro ⟨x, hx, h⟩
      simp only [Function.comp, eqv_rows, decide_eq_true_eq] at h
      exact h ▸ hx
    · exact fun h => ⟨l, h, by simp [eqv_rows]⟩
  simp [fInD, toPy_rowN, toPy, toPyL_rows, itemsP, sh_row, sh_lst, e, -List.any_map]
@[simp] theorem v_sortA_ints (o : Bool) (ns : List Int) : fSortA (.box o .tup (ns.map D.int)) = some (true, .box true .lst ((srt ns).map D.int)) := by
  simp [fSortA, fSorted]
end Dd
/-! Strict tuples (kind tps: the tracked object itself, as keys of dicts want it). -/
namespace Dd
open PySem L2 PyProof.Rows
section
variable {G : Gx} {Z H : Hp}
theorem rep_tps {own : Bool} {ds : List D} {v : V} {F : List Addr} (r : Rep G Z H (.box own .tps ds) v F) : own = false ∧ F = [] ∧ ∃ a vs, v = .ref a ∧ RepL G Z H ds vs [] ∧ Z a = some (.tup vs) := by
  obtain ⟨a, vs, F', hv, hl, h1, h2⟩ := r
  cases own with
  | true =>
    obtain ⟨_, o, _, h3⟩ := h2 rfl
    exact h3.elim
  | false =>
    obtain ⟨e1, h3, h4⟩ := h1 rfl
    have e2 : F' = [] := by
      rcases h4 with h4 | h4
      · cases h4
      · exact h4
    subst e2
    exact ⟨rfl, e1, a, vs, hv, hl, h3⟩
theorem rep_oldS {a : Addr} {vs : List V} {ds : List D} (q : Z a = some (.tup vs)) (r : RepL G Z H ds vs []) : Rep G Z H (.box false .tps ds) (.ref a) [] := ⟨a, vs, [], rfl, r, fun _ => ⟨rfl, q, .inr rfl⟩, fun q => nomatch q⟩
theorem rep_newS {p : Addr} {ds : List D} {vs : List V} (zh : Ex Z H) (hp : H p = none) (r : RepL G Z H ds vs []) : Rep G (upd Z p (.tup vs)) (upd H p (.tup vs)) (.box false .tps ds) (.ref p) [] :=
  ⟨p, vs, [], rfl, r.mono (Ex.new (z_none zh hp)) (fun a ha => by cases ha), fun _ => ⟨rfl, upd_same, .inr rfl⟩, fun q => nomatch q⟩
end
def dTupS (a : DA) : DE := fun ρ => match a ρ with
  | .ok _ xs e ρ1 => if xs.length ≤ 1000000 ∧ frzL xs = true then .ok true (.box false .tps xs) e ρ1 else .bad
  | .ex c xs ρ1 => .ex c xs ρ1
  | .bad => .bad
theorem e_tupS {c : Cc} {X : Cx} {es : List Expr} {a : DA} {pos : Pos} {x1} (h : PA X es (tA c a)) : PE X (.Tuple es x1 pos) (tE c (dTupS a)) := (pe_tup h).imp fun σ H Q w => by
  obtain ⟨Z, ρ, F, S, w⟩ := w
  show tA c a σ H fun xs H1 => xs.length ≤ sizeLine ∧ ∀ p, H1 p = none → Q (.ref p) (upd H1 p (.tup xs))
  cases ha : a ρ with
  | bad => simp only [dTupS, ha] at w
  | ex x xs ρ1 =>
    simp only [dTupS, ha] at w
    exact tA.ex S ha w
  | ok f1 xs e1 ρ1 =>
    simp only [dTupS, ha] at w
    by_cases hl : xs.length ≤ 1000000 ∧ frzL xs = true
    · rw [if_pos hl] at w
      refine tA.ok S ha fun Z1 H1 F1 vs G1 P1 R1 f1h => ⟨by rw [← R1.length]; exact big_le hl.1, fun p hp => ?_⟩
      have e0 := R1.frz_nil hl.2
      subst e0
      have n := New.fro (o := .tup vs) P1.sta.zh hp
      have P := P1.trans (PostE.new P1.sta n)
      rw [Bool.or_false] at P
      exact w _ _ F1 (.ref p) [] P (rep_newS P1.sta.zh hp R1) fun _ => Fresh.nil
    · rw [if_neg hl] at w
      exact w.elim
def fCatTS : D → D → Option (Bool × D)
  | .box _ .tps ds, .box _ .tps es => if frzL ds = true ∧ frzL es = true ∧ ds.length + es.length ≤ 1000000 then some (true, .box false .tps (ds ++ es)) else none
  | _, _ => none
def fPlusS (x y : D) : Option (Bool × D) := match fPlus x y with
  | some p => some p
  | none => fCatTS x y
def fTupSOf : D → Option (Bool × D)
  | .box _ .lst ds => if frzL ds = true then some (true, .box false .tps ds) else none
  | _ => none
section
variable {G : Gx} {Z H : Hp}
theorem o_catTS : Op2 G (rCatA G.K) fCatTS := by
  intro Z H x y v w F1 F2 fr z zh r1 r2 hf Q k
  unfold fCatTS at hf
  split at hf
  · rename_i o1 ds o2 es
    split at hf
    · rename_i hc
      obtain ⟨h1, h2, h3⟩ := hc
      simp only [Option.some.injEq, Prod.mk.injEq] at hf
      obtain ⟨rfl, rfl⟩ := hf
      obtain ⟨_, _, a, vs, rfl, hl, ha⟩ := rep_tps r1
      obtain ⟨_, _, b, ws, rfl, hl2, hb⟩ := rep_tps r2
      have nl : ∀ {cs : List D} {us : List V}, RepL G Z H cs us [] → us = [] → cs = [] := fun {cs us} r e => by
        have := r.length
        rw [e] at this
        exact List.length_eq_zero_iff.mp this
      refine ⟨a, b, vs, ws, rfl, rfl, .inl (.inl (zh a _ ha)), .inl (.inl (zh b _ hb)), by rw [← hl.length, ← hl2.length]; exact big_le h3, fun e => ?_, fun _ e => ?_, fun _ _ p hp => ?_⟩
      · rw [nl hl e, List.nil_append] at k
        exact k Z H _ [] (New.refl zh) (rep_oldS hb hl2) fun _ => ⟨List.nodup_nil, by simp⟩
      · rw [nl hl2 e, List.append_nil] at k
        exact k Z H _ [] (New.refl zh) (rep_oldS ha hl) fun _ => ⟨List.nodup_nil, by simp⟩
      · exact k _ _ _ [] (New.fro zh hp) (rep_newS zh hp (hl.append (F := []) (F' := []) hl2)) fun _ => ⟨List.nodup_nil, by simp⟩
    · cases hf
  · cases hf
theorem x_addS {X : Cx} : OpR X (binaryOp .Add) (fun x y H Q => rPlus X.K x y H Q ∨ rCatA X.K x y H Q) := x_add.or op_catA
theorem m_addS : Op2 G (fun x y H Q => rPlus G.K x y H Q ∨ rCatA G.K x y H Q) fPlusS := m_add.or o_catTS
end
end Dd
/-! Hand layer: sorted(d) of a dict whose keys are rows of ints; a dict locked for good; x in d. -/
namespace Dd
open PySem L2 PyProof.Rows
def inlK (r : List Int) : List Key := r.map Sum.inl
theorem inlK_kV (r : List Int) : (inlK r).map kV = r.map V.int := by
  unfold inlK
  rw [List.map_map]
  exact List.map_congr_left fun i _ => rfl
theorem keys_bs {H : Hp} : ∀ {kvs : List (List Key × V)} {ks : List (List Key × Addr × Value)}, KT H kvs ks → ∀ {rows : List (List Int)}, kvs.map (·.1) = rows.map inlK →
    ∃ bs : List (Addr × List Int), bs.map (·.2) = rows ∧ bs.map (fun b => Value.ref b.1) = ks.map (fun x => Value.ref x.2.1) ∧ ∀ b ∈ bs, H b.1 = some (.tup (b.2.map V.int)) := by
  intro kvs ks h
  induction h with
  | nil =>
    intro rows e
    cases rows with
    | nil => exact ⟨[], rfl, rfl, by simp⟩
    | cons r rs => cases e
  | @cons p q ps qs hq t ih =>
    intro rows e
    cases rows with
    | nil => cases e
    | cons r rs =>
      rw [List.map_cons, List.map_cons, List.cons.injEq] at e
      obtain ⟨bs, b1, b2, b3⟩ := ih e.2
      refine ⟨(q.2.1, r) :: bs, by rw [List.map_cons, b1], by rw [List.map_cons, List.map_cons, b2], fun b hb => ?_⟩
      rcases List.mem_cons.mp hb with rfl | hb
      · have := hq.2.1
        rw [e.1, inlK_kV] at this
        exact this
      · exact b3 b hb
section
variable {X : Cx}
def rSortDT : List V → Hp → VK → Prop := fun xs H Q => ∃ (d : Addr) (kvs : List (List Key × V)) (rows : List (List Int)), xs = [V.ref d] ∧ Rd H d (.dT kvs) ∧ kvs.map (·.1) = rows.map inlK ∧ (∀ r ∈ rows, r ≠ []) ∧
  ∀ (p : Addr) (bs : List (Addr × List Int)), H p = none → bs.map (·.2) = rows → (∀ b ∈ bs, H b.1 = some (.tup (b.2.map V.int))) → Q (.ref p) (upd H p (.lst ((bs.mergeSort (PySem.W.dataLe false (rowE (·.2)))).map fun b => V.ref b.1)))
theorem reads_row {h : Heap} {b : Addr} {r : List Int} {its : List Value} (rv : Vals (r.map V.int) its) (ht : IsTup h b its.toArray) : Reads h (.ref b) (.tuple (r.map .int)) [] := by
  obtain ⟨o, ho, hc, n, hd⟩ := ht
  have ra : ∀ (r : List Int) (its : List Value), Vals (r.map V.int) its → ReadsAll h its (r.map .int) [] := fun r => by
    induction r with
    | nil => intro its rv; cases rv; exact .nil
    | cons i r ih =>
      intro its rv
      cases rv with
      | cons h1 h2 =>
        obtain ⟨t, rfl⟩ := h1
        exact ReadsAll.cons (as := []) (bs := []) (.int _ _) (ih _ h2)
  exact .tuple ho hc hd (ra r its rv)
theorem cr_sortDT (hcm : X.calm = true) (hu : X.A.units + 65 < cLine) : CallR X (.builtin "sorted") rSortDT := by
  intro pins s σ H xs us Q I r h
  obtain ⟨d, kvs, rows, rfl, hd, hk, hne, q⟩ := h
  rw [Vals.ref1 r]
  obtain ⟨z, hs, ks, pr, o, es, ep, ho, hx, hdt, he, hn⟩ := (show ObjOk X.prog X.w H s.heap d (.dT kvs) from hd.ok I.hok)
  have l1 : es.size = ks.length := size_of_entries he
  have l2 : kvs.length = ks.length := Paired.length pr
  obtain ⟨bs, b1, b2, b3⟩ := keys_bs pr hk
  have lb : bs.length = ks.length := by have := congrArg List.length b2; simpa using this
  refine Calls.call_function_entry kind_sorted plain_sorted entry_sorted (args_sorted1 _) ?_
  unfold Builtin.«sorted»
  refine wpAny_bind (m := checkCount "sorted" 1 1 _) (wpAny_pure ?_)
  refine wpAny_bind (PySem.W.kdu_collect (kdl_raw hs hx hdt) (I.ok.hd hcm) ho (by omega) fun h' tk acc kp it => ?_)
  have ea : acc.toList = bs.map fun b => Value.ref b.1 := by
    rw [b2]
    have hl : acc.toList.length = ks.length := by rw [Array.length_toList, it.1]; exact l1
    apply List.ext_getElem?
    intro j
    rw [List.getElem?_map]
    cases hj : acc.toList[j]? with
    | none =>
      have h1 := List.getElem?_eq_none_iff.mp hj
      rw [List.getElem?_eq_none (by omega)]
      all_goals rfl
    | some v =>
      obtain ⟨en, hen, hv⟩ := it.2 j v (by rw [← Array.getElem?_toList]; exact hj)
      have qe := entry_at he j
      rw [hen] at qe
      cases hb : ks[j]? with
      | none =>
        rw [hb] at qe
        exact nomatch (show some en = none from qe)
      | some b =>
        rw [hb] at qe
        have e2 : en = entryOfKey (tupleKind (mixKind X.prog X.w)) b := Option.some.inj qe
        rw [hv, e2]
        all_goals rfl
  rw [ea]
  have hz : (bs.map fun b => Value.ref b.1).length ≤ sizeLine := by rw [List.length_map]; omega
  refine wpAny_bind (wpAny_newList ?_ hz)
  show wpAny _ _ _ _ _ { s with heap := h'.push (seqObj "list" (bs.map fun b => Value.ref b.1).toArray 0), toks := tk }
  have hoL : (h'.push (seqObj "list" (bs.map fun b => Value.ref b.1).toArray 0)).get? h'.objs.size = some (seqObj "list" (bs.map fun b => Value.ref b.1).toArray 0) := Heap.get?_push_size _ rfl
  have key : ∀ b ∈ bs, ∃ its : List Value, Vals (b.2.map V.int) its ∧ IsTup (h'.push (seqObj "list" (bs.map fun b => Value.ref b.1).toArray 0)) b.1 its.toArray := fun b hb => by
    obtain ⟨_, its, rv, oo, h1, h2, n, h3⟩ := (show ObjOk X.prog X.w H s.heap b.1 (.tup (b.2.map V.int)) from I.hok b.1 _ (b3 b hb))
    exact ⟨its, rv, oo, Heap.get?_push_of_some _ (kp _ _ h1), h2, n, h3⟩
  have eR : ∀ l : List (Addr × List Int), PySem.W.EachIs (fun v b => v = Value.ref b.1) (l.map fun b => Value.ref b.1) l := fun l => by
    induction l with
    | nil => exact .nil
    | cons b l ih => exact .cons rfl ih
  have e1 := eR bs
  have e2 : PySem.W.EachIs (fun v b => ∃ as, Reads (h'.push (seqObj "list" (bs.map fun b => Value.ref b.1).toArray 0)) v (rowE (·.2) b) as ∧ h'.objs.size ∉ as) (bs.map fun b => Value.ref b.1) bs := (PySem.W.each_mem e1).mono fun v b ⟨hv, hb⟩ => by
    obtain ⟨its, rv, ht⟩ := key b hb
    subst hv
    exact ⟨[], reads_row rv ht, by simp⟩
  refine wpAny_bind (wpAny_holding (PySem.W.list_sort_data (s := { s with heap := h'.push (seqObj "list" (bs.map fun b => Value.ref b.1).toArray 0), toks := tk }) hoL e1 e2 (PySem.W.AllAlike.of fun b b' => alike_rows _ _) (.inl fun dd hdd => ?_) (by omega) (fun b hb => ?_) fun out hl ho' => ?_))
  · obtain ⟨b, h1, rfl⟩ := List.mem_map.mp hdd
    have hr : b.2 ∈ rows := by rw [← b1]; exact List.mem_map.mpr ⟨b, h1, rfl⟩
    have := hne _ hr
    cases h2 : b.2 with
    | nil => exact absurd h2 this
    | cons x r => exact ⟨.int x, r.map .int, by simp [rowE, h2]⟩
  · have : (rowE (fun b : Addr × List Int => b.2) b).depth = 1 := by simp [rowE, PyData.depth, PySem.W.depth_ints]
    rw [this]
    have h1 : ∀ A : Around, A.units + 65 < cLine → A.in1.units + 1 + 1 < cLine := fun A h => by exact (show A.units + 1 + 1 + 1 < cLine by omega)
    exact h1 _ hu
  · have eo : out = (bs.mergeSort (PySem.W.dataLe false (rowE (·.2)))).map fun b => Value.ref b.1 := by
      have go : ∀ (l : List (Addr × List Int)) (out : List Value), PySem.W.EachIs (fun v b => v = Value.ref b.1) out l → out = l.map fun b => Value.ref b.1 := fun l => by
        induction l with
        | nil => intro out h; cases h; rfl
        | cons b l ih => intro out h; cases h with | cons h1 h2 => rw [h1, ih _ h2]; rfl
      exact go _ _ ho'
    obtain ⟨ep2, hat⟩ := sortedHeap_at (out := out.toArray) hoL
    have I1 : Inv X pins σ H { s with heap := h', toks := tk } := I.kept kp
    have old : ∀ b oo, h'.get? b = some oo → (sortedHeap (h'.push (seqObj "list" (bs.map fun b => Value.ref b.1).toArray 0)) h'.objs.size (bs.map fun b => Value.ref b.1) out.toArray).get? b = some oo := fun b oo e => by
      have lt : b < h'.objs.size := Heap.lt_size e
      rw [sortedHeap_old (Nat.ne_of_lt lt) (by rw [size_push']; exact Nat.lt_succ_of_lt lt)]
      exact Heap.get?_push_of_some _ e
    have rvo : Vals (((bs.mergeSort (PySem.W.dataLe false (rowE (·.2)))).map fun b => V.ref b.1)) out := by
      rw [eo]
      generalize bs.mergeSort (PySem.W.dataLe false (rowE (·.2))) = l
      induction l with
      | nil => exact .nil
      | cons b l ih => exact .cons rfl ih
    have hlz : (((bs.mergeSort (PySem.W.dataLe false (rowE (·.2)))).map fun b => V.ref b.1)).length ≤ sizeLine := by
      rw [List.length_map, List.length_mergeSort]; omega
    refine wpAny_pure ⟨_, rfl, ⟨.ref _, upd H h'.objs.size (.lst _), I1.laid (t' := tk) old (Nat.le_refl _) ⟨hlz, out, ep2, rvo, hat⟩, rfl, q _ bs (I1.hok.fresh (Nat.le_refl _)) b1 b3⟩⟩
end
end Dd
/-! Dicts whose keys are rows of ints, on data. -/
namespace Dd
open PySem L2 PyProof.Rows
def keyD : D → Option (List Key)
  | .box _ .tps ds => (intsD ds).map inlK
  | _ => none
def kD : Key → D
  | .inl i => .int i
  | .inr s => .str s
def keyTo (k : List Key) : D := .box false .tps (k.map kD)
def valD {α : Type} (ks : List (List Key)) (ds : List α) (k : List Key) : Option α := ((ks.zip ds).find? fun p => decide (p.1 = k)).map (·.2)
def hasK (ks : List (List Key)) (k : List Key) : Bool := ks.any fun key => decide (key = k)
def putKs (ks : List (List Key)) (k : List Key) : List (List Key) := if hasK ks k = true then ks else ks ++ [k]
def putVs {α : Type} (ks : List (List Key)) (ds : List α) (k : List Key) (v : α) : List α := if hasK ks k = true then ks.zipWith (fun key d => if key = k then v else d) ds else ds ++ [v]
def dictD : D → Option (List (List Key) × List D)
  | .box _ (.dit ks) ds => if frzL ds = true then some (ks, ds) else none
  | .box _ (.dil ks) ds => if frzL ds = true then some (ks, ds) else none
  | _ => none
def fDGet (x y : D) : Option (Bool × D) := (dictD x).bind fun p => (keyD y).bind fun k => (valD p.1 p.2 k).map fun d => (true, d)
def fDIn (nt : Bool) (y x : D) : Option (Bool × D) := (dictD x).bind fun p => (keyD y).map fun k => (true, .bl (nt != (valD p.1 p.2 k).isSome))
section
variable {G : Gx} {Z H : Hp}
theorem keyD_rep {d : D} {v : V} {F : List Addr} {k : List Key} (r : Rep G Z H d v F) (h : keyD d = some k) : ∃ b, v = .ref b ∧ Z b = some (.tup (k.map kV)) := by
  unfold keyD at h
  split at h
  · rename_i own ds
    obtain ⟨_, _, a, vs, rfl, hl, ha⟩ := rep_tps r
    cases hn : intsD ds with
    | none => rw [hn] at h; cases h
    | some ns =>
      rw [hn] at h
      simp only [Option.map_some, Option.some.injEq] at h
      subst h
      have := intsD_eq hn
      subst this
      rw [vals_intsD hl] at ha
      exact ⟨a, rfl, by rw [inlK_kV]; exact ha⟩
  · cases h
theorem repL_keys : ∀ k : List Key, RepL G Z H (k.map kD) (k.map kV) []
  | [] => ⟨rfl, rfl⟩
  | .inl i :: k => ⟨_, _, [], [], rfl, rfl, ⟨rfl, rfl⟩, repL_keys k⟩
  | .inr s :: k => ⟨_, _, [], [], rfl, rfl, ⟨rfl, rfl⟩, repL_keys k⟩
theorem valD_at : ∀ {ks : List (List Key)} {ds : List D} {vs : List V} {k : List Key}, RepL G Z H ds vs [] → ks.length = ds.length →
    (∀ d, valD ks ds k = some d → ∃ v, valD ks vs k = some v ∧ Rep G Z H d v []) ∧ (valD ks ds k = none → valD ks vs k = none)
  | [], _, _, _, _, _ => ⟨fun _ h => (by simp [valD] at h), fun _ => by simp [valD]⟩
  | key :: ks, [], _, _, _, h => by simp at h
  | key :: ks, d :: ds, vs, k, r, h => by
    obtain ⟨v, vs', F1, F2, rfl, e2, h1, h2⟩ := r
    obtain ⟨rfl, rfl⟩ := List.append_eq_nil_iff.mp e2.symm
    obtain ⟨i1, i2⟩ := valD_at (k := k) h2 (by simpa using h)
    by_cases e : key = k
    · refine ⟨fun x hx => ?_, fun hx => ?_⟩
      · simp only [valD, List.zip_cons_cons, List.find?_cons, e, decide_true, Option.map_some, Option.some.injEq] at hx
        subst hx
        exact ⟨v, by simp [valD, e], h1⟩
      · simp [valD, e] at hx
    · have e1 : valD (key :: ks) (d :: ds) k = valD ks ds k := by simp [valD, e]
      have e2 : valD (key :: ks) (v :: vs') k = valD ks vs' k := by simp [valD, e]
      rw [e1, e2]
      exact ⟨i1, i2⟩
theorem repL_zipW {k : List Key} {d : D} {v : V} (r : Rep G Z H d v []) : ∀ {ks : List (List Key)} {ds : List D} {vs : List V}, RepL G Z H ds vs [] → RepL G Z H (ks.zipWith (fun key x => if key = k then d else x) ds) (ks.zipWith (fun key x => if key = k then v else x) vs) []
  | [], _, _, _ => by simp only [List.zipWith_nil_left]; exact ⟨rfl, rfl⟩
  | key :: ks, [], _, h => by rw [h.1]; exact ⟨rfl, rfl⟩
  | key :: ks, x :: ds, vs, h => by
    obtain ⟨y, vs', F1, F2, rfl, e2, h1, h2⟩ := h
    obtain ⟨rfl, rfl⟩ := List.append_eq_nil_iff.mp e2.symm
    refine ⟨_, _, [], [], rfl, rfl, ?_, repL_zipW r h2⟩
    show Rep G Z H (if key = k then d else x) (if key = k then v else y) []
    split
    · exact r
    · exact h1
theorem repL_put {ks : List (List Key)} {ds : List D} {vs : List V} {k : List Key} {d : D} {v : V} (h : RepL G Z H ds vs []) (r : Rep G Z H d v []) : RepL G Z H (putVs ks ds k d) (putVs ks vs k v) [] := by
  unfold putVs
  split
  · exact repL_zipW r h
  · exact h.append (F := []) (F' := []) ⟨v, [], [], [], rfl, rfl, r, rfl, rfl⟩
theorem putVs_len {α : Type} {ks : List (List Key)} {vs : List α} {k : List Key} {v : α} (h : ks.length = vs.length) : (putKs ks k).length = (putVs ks vs k v).length := by
  unfold putKs putVs
  split
  · simp [h]
  · simp [h]
theorem put_zip : ∀ {ks : List (List Key)} {vs : List V} {k : List Key} {v : V}, ks.length = vs.length → putK (ks.zip vs) k v = (putKs ks k).zip (putVs ks vs k v) := by
  intro ks vs k v h
  have any_mem : ∀ (ks : List (List Key)) (vs : List V), ks.length = vs.length → ((ks.zip vs).any fun kv => decide (kv.1 = k)) = hasK ks k := fun ks => by
    induction ks with
    | nil => intro vs _; simp [hasK]
    | cons a ks ih =>
      intro vs h
      cases vs with
      | nil => simp at h
      | cons w vs =>
        have := ih vs (by simpa using h)
        rw [List.zip_cons_cons, List.any_cons, this]
        rfl
  have map_zip : ∀ (ks : List (List Key)) (vs : List V), ks.length = vs.length → ((ks.zip vs).map fun kv => if kv.1 = k then (kv.1, v) else kv) = ks.zip (ks.zipWith (fun key d => if key = k then v else d) vs) := fun ks => by
    induction ks with
    | nil => intro vs _; simp
    | cons a ks ih =>
      intro vs h
      cases vs with
      | nil => simp at h
      | cons w vs =>
        rw [List.zip_cons_cons, List.map_cons, ih vs (by simpa using h), List.zipWith_cons_cons, List.zip_cons_cons]
        congr 1
        split <;> rfl
  unfold putK putKs putVs
  rw [any_mem ks vs h]
  cases hm : hasK ks k with
  | true =>
    simp only [if_true]
    exact map_zip ks vs h
  | false =>
    simp only [Bool.false_eq_true, if_false]
    rw [List.zip_append h]
    rfl
theorem rep_dict {x : D} {p : List (List Key) × List D} {v : V} {F : List Addr} (zh : Ex Z H) (r : Rep G Z H x v F) (h : dictD x = some p) : ∃ a vs, v = .ref a ∧ RepL G Z H p.2 vs [] ∧ p.1.length = vs.length ∧ Rd H a (.dT (p.1.zip vs)) := by
  unfold dictD at h
  split at h
  · split at h
    · rename_i own ks ds hz
      obtain rfl := Option.some.inj h
      obtain ⟨a, vs, F', hv, hl, h1, h2⟩ := r
      have e0 := hl.frz_nil hz
      subst e0
      refine ⟨a, vs, hv, hl, ?_⟩
      cases own with
      | false => obtain ⟨_, ⟨q1, q2⟩, _⟩ := h1 rfl; exact ⟨q1, ex_rd zh q2⟩
      | true => obtain ⟨_, o, q1, q2, rfl⟩ := h2 rfl; exact ⟨q2, .inl q1⟩
    · cases h
  · split at h
    · rename_i own ks ds hz
      obtain rfl := Option.some.inj h
      obtain ⟨a, vs, F', hv, hl, h1, h2⟩ := r
      have e0 := hl.frz_nil hz
      subst e0
      refine ⟨a, vs, hv, hl, ?_⟩
      cases own with
      | false => obtain ⟨_, ⟨q1, o, q2⟩, _⟩ := h1 rfl; exact ⟨q1, .inr ⟨o, zh a _ q2⟩⟩
      | true => obtain ⟨_, o, q1, q2⟩ := h2 rfl; exact q2.elim
    · cases h
  · cases h
theorem dget_at {x y : D} {v w : V} {F1 F2 : List Addr} {p : List (List Key) × List D} {k : List Key} (zh : Ex Z H) (r1 : Rep G Z H x v F1) (r2 : Rep G Z H y w F2) (h1 : dictD x = some p) (h2 : keyD y = some k) :
    ∃ a vs, v = .ref a ∧ RepL G Z H p.2 vs [] ∧ p.1.length = vs.length ∧ DGet H a w (valD p.1 vs k) := by
  obtain ⟨a, vs, rfl, hl, hn, hd⟩ := rep_dict zh r1 h1
  obtain ⟨b, rfl, hb⟩ := keyD_rep r2 h2
  exact ⟨a, vs, rfl, hl, hn, .inr ⟨_, k, b, hd, rfl, zh b _ hb, rfl⟩⟩
theorem o_dget : Op2 G (fun x y H Q => ∃ a v, x = .ref a ∧ DGet H a y (some v) ∧ Q v H) fDGet := by
  intro Z H x y v w F1 F2 fr z zh r1 r2 hf Q k
  unfold fDGet at hf
  obtain ⟨p, h1, hf⟩ := Option.bind_eq_some_iff.mp hf
  obtain ⟨key, h2, hf⟩ := Option.bind_eq_some_iff.mp hf
  obtain ⟨d, h3, hf⟩ := Option.map_eq_some_iff.mp hf
  simp only [Prod.mk.injEq] at hf
  obtain ⟨rfl, rfl⟩ := hf
  obtain ⟨a, vs, rfl, hl, hn, hd⟩ := dget_at zh r1 r2 h1 h2
  obtain ⟨u, hu, ru⟩ := (valD_at (k := key) hl (by rw [hn, hl.length])).1 d h3
  rw [hu] at hd
  exact ⟨a, u, rfl, hd, k Z H u [] (New.refl zh) ru fun _ => ⟨List.nodup_nil, by simp⟩⟩
theorem isSome_at {ks : List (List Key)} {ds : List D} {vs : List V} {k : List Key} (hl : RepL G Z H ds vs []) (hn : ks.length = vs.length) : (valD ks vs k).isSome = (valD ks ds k).isSome := by
  obtain ⟨i1, i2⟩ := valD_at (k := k) hl (by rw [hn, hl.length])
  cases h : valD ks ds k with
  | none => rw [i2 h]; rfl
  | some d =>
    obtain ⟨u, hu, _⟩ := i1 d h
    rw [hu]; rfl
theorem o_dIn (nt : Bool) : Op2 G (fun y x H Q => ∃ a o, x = .ref a ∧ DGet H a y o ∧ Q (.bl (nt != o.isSome)) H) (fDIn nt) := op2_sc fun Z H y x w v F1 F2 fr z zh r1 r2 hf => by
  unfold fDIn at hf
  obtain ⟨p, h1, hf⟩ := Option.bind_eq_some_iff.mp hf
  obtain ⟨key, h2, hf⟩ := Option.map_eq_some_iff.mp hf
  simp only [Prod.mk.injEq] at hf
  obtain ⟨rfl, rfl⟩ := hf
  obtain ⟨a, vs, rfl, hl, hn, hd⟩ := dget_at zh r2 r1 h1 h2
  exact ⟨_, rfl, fun Q q => ⟨a, _, rfl, hd, by rw [isSome_at hl hn]; exact q⟩⟩
theorem bl_dIn {nt : Bool} : BlF (fDIn nt) := fun y x fr d hf => by
  unfold fDIn at hf
  obtain ⟨p, h1, hf⟩ := Option.bind_eq_some_iff.mp hf
  obtain ⟨key, h2, hf⟩ := Option.map_eq_some_iff.mp hf
  simp only [Prod.mk.injEq] at hf
  exact ⟨_, hf.2.symm⟩
theorem o_tupSOf : Op1 G (fun x H Q => ∃ p ys, [x] = [.ref p] ∧ ((SqL G.K H p ys ∧ ∀ l, H l = none → Q (.ref l) (upd H l (.tup ys))) ∨ (SqT G.K H p ys ∧ Q (.ref p) H))) fTupSOf := by
  intro Z H x v F1 fr z zh r1 hf Q k
  unfold fTupSOf at hf
  split at hf
  · rename_i own ds
    split at hf
    · rename_i hz
      simp only [Option.some.injEq, Prod.mk.injEq] at hf
      obtain ⟨rfl, rfl⟩ := hf
      obtain ⟨a, vs, rfl, hl, hst, hsq⟩ := rep_sqk (t := false) (ds := ds) zh r1 (by simp [seqD, hz])
      exact ⟨a, vs, rfl, .inl ⟨hsq, fun l hp => k _ _ _ [] (New.fro zh hp) (rep_newS zh hp hl) fun _ => ⟨List.nodup_nil, by simp⟩⟩⟩
    · cases hf
  · cases hf
end
section
variable {c : Cc} {X : Cx} {o e f : Expr} {mo mi mx mv mk : DE} {pos apos cpos : Pos} {i : Nat}
theorem op_dIn (hu : X.A.units + 1 < cLine) : OpR X (compareOp .In) (fun y x H Q => ∃ a o, x = .ref a ∧ DGet H a y o ∧ Q (.bl (false != o.isSome)) H) := by
  intro pins s σ H y x u r Q I ry rx h
  obtain ⟨a, o, rfl, g, q⟩ := h
  cases rx
  rw [Bool.false_bne] at q
  exact d_in hu I g ry fun s' I' => ⟨.bl _, H, I', rfl, q⟩
theorem op_dNotIn (hu : X.A.units + 1 < cLine) : OpR X (compareOp .NotIn) (fun y x H Q => ∃ a o, x = .ref a ∧ DGet H a y o ∧ Q (.bl (true != o.isSome)) H) := by
  intro pins s σ H y x u r Q I ry rx h
  obtain ⟨a, o, rfl, g, q⟩ := h
  cases rx
  rw [Bool.true_bne] at q
  exact d_notIn hu I g ry fun s' I' => ⟨.bl _, H, I', rfl, q⟩
theorem _root_.L2.Room.u1 {k : Nat} {A : Around} (r : Room k A) : A.units + 1 < cLine := by have := r.un; omega
theorem e_dget (hu : X.A.units + 1 < cLine) (ho : PE X o (tE c mo)) (hi : PE X e (tE c mi)) (hs : NoSl e) : PE X (.Subscript o e pos) (tE c (bind2 fDGet mo mi)) := (pe_dget hu ho hi hs).imp fun σ H Q w => bind2_imp o_dget w
/-- {} -/
theorem e_dnewT : PE X (.Dict [] [] pos) (tE c (dC (.box true (.dit []) []))) := (pe_dnewT).imp fun σ H Q w => by
  obtain ⟨Z, ρ, F, S, w⟩ := w
  show ∀ p, H p = none → Q (.ref p) (upd H p (.dT []))
  intro p hp
  have n := New.own (o := .dT []) S.zh hp
  refine w _ _ F (.ref p) [p] (PostE.new S n) ⟨p, [], [], rfl, ⟨rfl, rfl⟩, fun q => (nomatch q), fun _ => ⟨rfl, _, upd_same, rfl, rfl⟩⟩ fun _ => ?_
  exact fresh_of ⟨by simp, fun b hb => by rw [List.mem_singleton.mp hb]; exact ⟨hp, z_none S.zh hp⟩⟩ fun a ha => S.dom ha
/-- d.get(k, x) -/
def dGet2 (mo mi mx : DE) : DE := fun ρ => match mo ρ with
  | .ok _ x e1 ρ1 => if e1 = true then .bad else (match mi ρ1 with
    | .ok _ y e2 ρ2 => if e2 = true then .bad else (match mx ρ2 with
      | .ok f3 z e3 ρ3 => if e3 = true then .bad else (match dictD x, keyD y with
        | some p, some k => (match valD p.1 p.2 k with
          | some d => .ok true d false ρ3
          | none => .ok f3 z false ρ3)
        | _, _ => .bad)
      | _ => .bad)
    | _ => .bad)
  | _ => .bad
theorem e_dGet2 (hu : X.A.units + 1 < cLine) (ho : PE X o (tE c mo)) (he : PE X e (tE c mi)) (hf : PE X f (tE c mx)) (m : M2 X o "get" apos e f cpos) : PE X (.Call (.Attribute o "get" apos) [e, f] [] cpos) (tE c (dGet2 mo mi mx)) := (pe_dget2 hu ho he hf m).imp fun σ H Q w => by
  obtain ⟨Z, ρ, F, S, w⟩ := w
  generalize hr : dGet2 mo mi mx ρ = r at w
  unfold dGet2 at hr
  split at hr
  case h_2 => subst hr; exact w.elim
  rename_i f1 x e1 ρ1 h1
  split at hr
  · subst hr; exact w.elim
  rename_i he1
  have he1 : e1 = false := by simpa using he1
  subst he1
  refine tE.ok S h1 fun Z1 H1 F1 v G1 P1 R1 _ => ?_
  split at hr
  case h_2 => subst hr; exact w.elim
  rename_i f2 y e2 ρ2 h2
  split at hr
  · subst hr; exact w.elim
  rename_i he2
  have he2 : e2 = false := by simpa using he2
  subst he2
  split at hr
  case h_2 => subst hr; exact w.elim
  rename_i f3 z e3 ρ3 h3
  split at hr
  · subst hr; exact w.elim
  rename_i he3
  have he3 : e3 = false := by simpa using he3
  subst he3
  split at hr
  case h_2 => subst hr; exact w.elim
  rename_i p k hp hk
  obtain ⟨a, vs0, rfl, _, _, hd0⟩ := rep_dict P1.sta.zh R1 hp
  refine ⟨a, rfl, .inr ⟨_, hd0⟩, ?_⟩
  refine tE.ok P1.sta h2 fun Z2 H2 F2 u G2 P2 R2 _ => ?_
  refine tE.ok P2.sta h3 fun Z3 H3 F3 t G3 P3 R3 f3h => ?_
  have P23 := P2.trans P3
  have R1' : Rep c.G Z3 H3 x (.ref a) G1 := R1.mono P23.st.zz fun b hb oo e => (P23.qui rfl).2.2.hh.fr b oo e
  have R2' : Rep c.G Z3 H3 y u G2 := R2.mono P3.st.zz fun b hb oo e => (P3.qui rfl).2.2.hh.fr b oo e
  obtain ⟨a', vs, ea, hl, hn, hd⟩ := dget_at P3.sta.zh R1' R2' hp hk
  cases ea
  have P := P1.trans P23
  refine ⟨_, hd, ?_⟩
  obtain ⟨i1, i2⟩ := valD_at (k := k) hl (by rw [hn, hl.length])
  cases hv : valD p.1 p.2 k with
  | some d =>
    simp only [hv] at hr
    subst hr
    obtain ⟨t', ht', rt'⟩ := i1 d hv
    rw [ht']
    exact w Z3 H3 F3 t' [] P rt' fun _ => Fresh.nil
  | none =>
    simp only [hv] at hr
    subst hr
    rw [i2 hv]
    exact w Z3 H3 F3 t G3 P R3 fun q => Fresh.earlier (P1.trans P2) (f3h q)
/-- d[k] = v -/
def dPutT (i : Nat) (mk mv : DE) : DS := fun ρ => match ρ[i]? with
  | some (some (.box true (.dit _) _)) => (match mv ρ with
    | .ok _ d _ ρ1 => if frz d = true then (match mk ρ1 with
      | .ok _ kd e2 ρ2 => if e2 = true then .bad else (match keyD kd, ρ2[i]? with
        | some k, some (some (.box true (.dit ks) ds)) => if frzL ds = true ∧ ks.length < 1000000 then .nx (ρ2.set i (some (.box true (.dit (putKs ks k)) (putVs ks ds k d)))) else .bad
        | _, _ => .bad)
      | _ => .bad) else .bad
    | .ex x xs ρ1 => .ex x xs ρ1
    | .bad => .bad)
  | _ => .bad
theorem putT_imp {D : Ends} {σ : L2.St} {H : Hp} (w : tS c (dPutT i mk mv) D σ H) : sDPut (tVar i) (tE c mk) (tE c mv) D σ H := by
  obtain ⟨Z, ρ, F, S, w⟩ := w
  show tE c mv σ H fun v H1 => ∃ x, σ[i]? = some (some x) ∧ tE c mk σ H1 fun y H3 => ∃ a H4, x = .ref a ∧ DPut H3 a y v H4 ∧ D.nx σ H4
  unfold dPutT at w
  split at w
  case h_2 => exact w.elim
  rename_i ks0 ds0 hi
  obtain ⟨v0, _, _, _, g1, _⟩ := S.rs.get hi
  split at w
  case h_3 => exact w.elim
  case h_2 =>
    rename_i x xs ρ1 ha
    exact tE.ex S ha fun Z' H' F' => w Z' H' F' σ
  rename_i f1 d e1 ρ1 ha
  split at w
  case isFalse => exact w.elim
  rename_i hz
  refine tE.ok S ha fun Z1 H1 F1 u G1 P1 R1 _ => ⟨v0, g1, ?_⟩
  have e0 := R1.frz_nil hz
  subst e0
  split at w
  case h_2 => exact w.elim
  rename_i f2 kd e2 ρ2 hb
  split at w
  · exact w.elim
  split at w
  case h_2 => exact w.elim
  rename_i k ks ds hk hj
  split at w
  case isFalse => exact w.elim
  rename_i hc
  obtain ⟨hfd, hlen⟩ := hc
  refine tE.ok P1.sta hb fun Z2 H2 F2 kv G2 P2 R2 _ => ?_
  have P := P1.trans P2
  have R1' : Rep c.G Z2 H2 d u [] := R1.mono P2.st.zz (fun b hb => by cases hb)
  obtain ⟨b, rfl, hb'⟩ := keyD_rep R2 hk
  obtain ⟨v1, A, F3, B, q1, q2, q3, q4⟩ := P.sta.rs.get hj
  have ev : v1 = v0 := Option.some.inj (Option.some.inj (q1.symm.trans g1))
  subst ev
  obtain ⟨a, vs, F', rfl, hl, _, h2⟩ := q3
  obtain ⟨eF, oo, ho, hn, rfl⟩ := h2 rfl
  have e0 := hl.frz_nil hfd
  subst e0
  subst eF
  have za : Z2 a = none := P.sta.fz a (by rw [q2]; exact mem_mid.mpr (.inl List.mem_cons_self))
  obtain ⟨n1, n2, n3⟩ := nodup_mid (by rw [← q2]; exact P.sta.nd)
  have ez := put_zip (k := k) (v := u) hn
  have keep : ∀ x w, x ≠ a → H2 x = some w → L2.upd H2 a (.dT (putK (ks.zip vs) k u)) x = some w := fun x w q e => by rw [upd_ne q]; exact e
  have rr : Rep c.G Z2 (L2.upd H2 a (.dT (putK (ks.zip vs) k u))) (.box true (.dit (putKs ks k)) (putVs ks ds k d)) (.ref a) [a] :=
    ⟨a, putVs ks vs k u, [], rfl, (repL_put hl R1').mono (Ex.refl _) (fun b hb => by cases hb), fun q => (nomatch q), fun _ => ⟨rfl, _, upd_same, putVs_len hn, by rw [ez]⟩⟩
  obtain ⟨Fn, S', st', hF⟩ := P.sta.wr (d' := .box true (.dit (putKs ks k)) (putVs ks ds k d)) (x := a) (o := .dT (putK (ks.zip vs) k u)) hj q1 q2 q4 List.mem_cons_self ho (fun _ z => nomatch z) (fun _ _ z => nomatch z) rr (by simp) fun b hb => by
    rw [List.mem_singleton.mp hb]
    exact ⟨za, n3 a List.mem_cons_self⟩
  have inF : a ∈ F2 := by rw [q2]; exact mem_mid.mpr (.inl List.mem_cons_self)
  have st2 : Step Z2 H2 F2 Z2 (L2.upd H2 a (.dT (putK (ks.zip vs) k u))) Fn := st'.more fun x hx => by
    rcases List.mem_append.mp hx with h | h
    · exact h
    · rw [List.mem_singleton.mp h]; exact inF
  refine ⟨a, _, rfl, DPut.t ho (P2.sta.zh b _ hb') ?_, w Z2 _ Fn σ (P.st.trans st2) S'⟩
  rw [List.length_zip, ← hn, Nat.min_self]
  exact big_lt hlen
theorem s_putT {st : Stmt} (h : PS X st (sDPut (tVar i) (tE c mk) (tE c mv))) : PS X st (tS c (dPutT i mk mv)) := h.imp fun _ _ _ w => putT_imp w
end
end Dd
/-! for k in d, [.. for k in d], sorted(d): dicts whose keys are rows of ints. -/
namespace Dd
open PySem L2 PyProof.Rows
theorem pi_lockOr {X : Cx} {tg e : Expr} {t : TI} (h : PI X tg e t) : PI X tg e (fun σ H R => (∃ d u, H d = some u ∧ Mut (some u) ∧ ∀ od, t σ (upd H d (.frz od u)) R) ∨ t σ H R) := by
  refine ⟨fun pins s σ H R I w => ?_⟩
  rcases w with ⟨d, u, hd, mu, hw⟩ | w
  · obtain ⟨od, I1⟩ := I.lock hd mu
    exact h.run pins s σ _ R I1 (hw od)
  · exact h.run pins s σ H R I w
def dKeysI (i : Nat) : DI := fun ρ => match ρ[i]? with
  | some (some (.box true (.dit ks) ds)) => if frzL ds = true then .ok true (ks.map keyTo) true (ρ.set i (some (.box false (.dil ks) ds))) else .bad
  | some (some (.box false (.dil ks) ds)) => if frzL ds = true then .ok true (ks.map keyTo) false ρ else .bad
  | _ => .bad
theorem it_keysT {G : Gx} {Z H : Hp} {a : Addr} {od : Obj} {ks : List (List Key)} {vs : List V} {Gk : List Addr} (hn : ks.length = vs.length) (hz : Z a = some (.frz od (.dT (ks.zip vs)))) : IterOk G (Itkt a od (ks.zip vs)) Z H (ks.map keyTo) Gk := by
  have hl : (ks.zip vs).length = ks.length := by rw [List.length_zip, ← hn, Nat.min_self]
  refine ⟨fun Z2 H2 e1 e2 k i d hd => ?_, fun Z2 H2 e1 e2 k => ⟨e2 _ _ (e1 _ _ hz), by rw [hl, List.length_map]; exact Nat.le_refl _⟩⟩
  obtain ⟨hi, hd2⟩ := List.getElem?_eq_some_iff.mp hd
  rw [List.length_map] at hi
  refine ⟨⟨e2 _ _ (e1 _ _ hz), by rw [hl]; exact hi⟩, fun x H3 hy tp => ?_⟩
  obtain ⟨rfl, k, v, q, hk, rfl, hq⟩ := hy
  obtain ⟨hi2, hk2⟩ := List.getElem?_eq_some_iff.mp hk
  rw [List.getElem_zip] at hk2
  have ek : ks[i] = k := congrArg Prod.fst hk2
  rw [List.getElem_map, ek] at hd2
  subst hd2
  exact ⟨Z2, New.refl e2, rep_oldS (tp q _ hq) (repL_keys k)⟩
section
variable {c : Cc} {X : Cx} {tg e : Expr} {i : Nat}
theorem i_keysI (he : PE X e (tVar i)) : PI X tg e (tI c (dKeysI i)) := (pi_lockOr (pi_keys (tg := tg) he)).imp fun σ H R w => by
  obtain ⟨Z, ρ, F, S, w⟩ := w
  generalize hr : dKeysI i ρ = r at w
  unfold dKeysI at hr
  split at hr
  case h_3 => subst hr; exact w.elim
  case h_1 =>
    rename_i ks ds hi
    split at hr
    case isFalse => subst hr; exact w.elim
    rename_i hfd
    subst hr
    left
    obtain ⟨v, A, F1, B, q1, q2, q3, q4⟩ := S.rs.get hi
    obtain ⟨a, vs, F', rfl, hl, _, h2⟩ := q3
    obtain ⟨eF, oo, ho, hn, rfl⟩ := h2 rfl
    have e0 := hl.frz_nil hfd
    subst e0
    subst eF
    have za : Z a = none := S.fz a (by rw [q2]; exact mem_mid.mpr (.inl List.mem_cons_self))
    have inF : a ∈ F := by rw [q2]; exact mem_mid.mpr (.inl List.mem_cons_self)
    obtain ⟨n1, n2, n3⟩ := nodup_mid (by rw [← q2]; exact S.nd)
    refine ⟨a, _, ho, True.intro, fun od => ?_⟩
    have hlt : i < ρ.length := by
      rcases Nat.lt_or_ge i ρ.length with h | h
      · exact h
      · rw [List.getElem?_eq_none h] at hi; cases hi
    let Z' : Hp := L2.upd Z a (.frz od (.dT (ks.zip vs)))
    let H' : Hp := L2.upd H a (.frz od (.dT (ks.zip vs)))
    have keepH : ∀ b o, b ≠ a → H b = some o → H' b = some o := fun b o q e => by show L2.upd H a _ b = _; rw [upd_ne q]; exact e
    have eZ : Ex Z Z' := fun b o e => by
      show L2.upd Z a _ b = _
      rw [upd_ne fun q => by rw [q, za] at e; cases e]; exact e
    have zh : Ex Z' H' := fun b o e => by
      by_cases q : b = a
      · subst q
        have e : L2.upd Z b (.frz od (.dT (ks.zip vs))) b = some o := e
        rw [upd_same] at e
        show L2.upd H b _ b = _
        rw [upd_same]; exact e
      · have e : L2.upd Z a (.frz od (.dT (ks.zip vs))) b = some o := e
        rw [upd_ne q] at e
        exact keepH b o q (S.zh b o e)
    have rr : Rep c.G Z' H' (.box false (.dil ks) ds) (.ref a) [] := ⟨a, vs, [], rfl, hl.mono eZ (fun b hb => by cases hb), fun _ => ⟨rfl, ⟨hn, od, upd_same⟩, .inr rfl⟩, fun q => nomatch q⟩
    have rest : RepS c.G Z' H' (ρ.set i none) σ (A ++ B) := q4.mono eZ fun b hb o e _ => keepH b o (fun q => n3 a List.mem_cons_self (q ▸ hb)) e
    obtain ⟨A', B', p1, p2⟩ := RepS.put (i := i) rest (by rw [List.getElem?_set_self hlt]) rr
    rw [List.set_set] at p2
    have es : σ.set i (some (V.ref a)) = σ := by
      have hs : i < σ.length := by rw [← S.rs.length]; exact hlt
      rw [List.getElem?_eq_getElem hs] at q1
      rw [← Option.some.inj q1, List.set_getElem_self]
    rw [es] at p2
    have ef : A' ++ [] ++ B' = A ++ B := by rw [List.append_nil, p1]
    rw [ef] at p2
    have sub : ∀ b, b ∈ A ++ B → b ∈ F := fun b hb => by rw [q2]; exact mem_mid.mpr (.inr hb)
    have neB : ∀ b, b ∉ F → b ≠ a := fun b h q => h (q ▸ inF)
    have tgk : ∀ P, TBx.Tb H P → TBx.Tb H' P := fun P t => t.upd ho (fun _ z => nomatch z) (fun _ _ z => nomatch z)
    have tzk : ∀ P ps, Z' P = some (.tbl ps) → Z P = some (.tbl ps) := fun P ps h => by
      by_cases q : P = a
      · rw [show Z' P = L2.upd Z a (.frz od (.dT (ks.zip vs))) P from rfl, q, upd_same] at h; cases h
      · rw [show Z' P = L2.upd Z a (.frz od (.dT (ks.zip vs))) P from rfl, upd_ne q] at h; exact h
    have tpk : ∀ q xs, H' q = some (.tup xs) → H q = some (.tup xs) := fun q xs h => tp_upd (u := .frz od (.dT (ks.zip vs))) (fun _ z => nomatch z) h
    have st : Step Z H F Z' H' (A ++ B) := ⟨eZ, zh, fun b h => by
      by_cases q : b = a
      · show L2.upd H a _ b ≠ none
        rw [q, upd_same]; exact Option.some_ne_none _
      · show L2.upd H a _ b ≠ none
        rw [upd_ne q]; exact h, fun b o e hn _ => keepH b o (neB b hn) e, fun P t _ => tgk P t, fun b hb => .inl (sub b hb), fun b hn _ z => by
        show L2.upd Z a _ b = none
        rw [upd_ne (neB b hn)]; exact z, fun q xs h => .inl (tpk q xs h), tzk⟩
    have S' : State c.G c.lk Z' H' σ (ρ.set i (some (.box false (.dil ks) ds))) (A ++ B) := ⟨zh, p2, n1, fun b hb => by
      show L2.upd Z a _ b = none
      rw [upd_ne fun (q : b = a) => n3 a List.mem_cons_self (q ▸ hb)]
      exact S.fz b (sub b hb), S.lk, ⟨fun P hP => ⟨tgk P (S.tb.1 P hP).1, by
        show L2.upd Z a _ P = none
        rw [upd_ne fun q => by
          obtain ⟨ps, e⟩ := (S.tb.1 P hP).1.ps
          rw [q, ho] at e; cases e]
        exact (S.tb.1 P hP).2⟩, fun q xs h => eZ q _ (S.tb.2.1 q xs (tpk q xs h)), fun P ps h => S.tb.2.2 P ps (tzk P ps h)⟩⟩
    refine ⟨.ref a, q1, a, od, rfl, .inr ⟨_, upd_same, ?_⟩⟩
    exact w Z' H' (A ++ B) [] _ ⟨st, S', fun q => nomatch q⟩ Fresh.nil (by simp) (it_keysT hn upd_same)
  case h_2 =>
    rename_i ks ds hi
    split at hr
    case isFalse => subst hr; exact w.elim
    subst hr
    right
    obtain ⟨v, A, F1, B, q1, q2, q3, q4⟩ := S.rs.get hi
    obtain ⟨a, vs, F', rfl, hl, h1, _⟩ := q3
    obtain ⟨_, ⟨hn, od, hz⟩, _⟩ := h1 rfl
    refine ⟨.ref a, q1, a, od, rfl, .inr ⟨_, S.zh a _ hz, ?_⟩⟩
    exact w Z H F [] _ (PostE.refl S) Fresh.nil (by simp) (it_keysT hn hz)
end
/-! sorted(d) -/
def rowsK : List (List Key) → Option (List (List Int))
  | [] => some []
  | k :: ks => (intsD (k.map kD)).bind fun r => if r.isEmpty then none else (rowsK ks).map fun rs => r :: rs
theorem rowsK_eq : ∀ {ks : List (List Key)} {rows : List (List Int)}, rowsK ks = some rows → ks = rows.map inlK ∧ ∀ r ∈ rows, r ≠ []
  | [], rows, h => by simp only [rowsK, Option.some.injEq] at h; subst h; exact ⟨rfl, by simp⟩
  | k :: ks, rows, h => by
    unfold rowsK at h
    obtain ⟨r, h1, h⟩ := Option.bind_eq_some_iff.mp h
    split at h
    · cases h
    · rename_i hne
      obtain ⟨rs, h2, rfl⟩ := Option.map_eq_some_iff.mp h
      obtain ⟨e1, e2⟩ := rowsK_eq h2
      have e3 : ∀ (k : List Key) (r : List Int), intsD (k.map kD) = some r → k = inlK r := fun k => by
        induction k with
        | nil => intro r h; simp only [List.map_nil, intsD, Option.some.injEq] at h; subst h; rfl
        | cons x k ih =>
          intro r h
          cases x with
          | inl i =>
            simp only [List.map_cons, kD, intsD] at h
            obtain ⟨r', h3, rfl⟩ := Option.map_eq_some_iff.mp h
            rw [ih r' h3]; rfl
          | inr s => simp [kD, intsD] at h
      refine ⟨by rw [e1, e3 k r h1]; rfl, fun x hx => ?_⟩
      rcases List.mem_cons.mp hx with rfl | hx
      · intro z; rw [z] at hne; exact hne rfl
      · exact e2 x hx
def rowS (r : List Int) : D := .box false .tps (r.map D.int)
def srtI (rows : List (List Int)) : List (List Int) := rows.mergeSort fun a b => decide (a ≤ b)
def dSortDT (m : DE) : DE := fun ρ => match m ρ with
  | .ok _ x e ρ1 => (match dictD x with
    | some p => (match rowsK p.1 with
      | some rows => .ok true (.box true .lst ((srtI rows).map rowS)) e ρ1
      | none => .bad)
    | none => .bad)
  | .ex c xs ρ1 => .ex c xs ρ1
  | .bad => .bad
theorem repL_rowS {G : Gx} {Z H : Hp} : ∀ {bs : List (Addr × List Int)}, (∀ b ∈ bs, Z b.1 = some (.tup (b.2.map V.int))) → RepL G Z H (bs.map fun b => rowS b.2) (bs.map fun b => V.ref b.1) []
  | [], _ => ⟨rfl, rfl⟩
  | b :: bs, h => ⟨_, _, [], [], rfl, rfl, rep_oldS (h b List.mem_cons_self) (repL_ints _), repL_rowS fun c hc => h c (List.mem_cons_of_mem _ hc)⟩
theorem e_sortDT {c : Cc} {X : Cx} {e : Expr} {m : DE} (h : PE X e (tCB rSortDT (tCons (tE c m) tNil))) : PE X e (tE c (dSortDT m)) := h.imp fun σ H Q w => by
  obtain ⟨Z, ρ, F, S, w⟩ := w
  show tE c m σ H fun x H1 => rSortDT [x] H1 Q
  generalize hr : dSortDT m ρ = r at w
  unfold dSortDT at hr
  split at hr
  case h_3 => subst hr; exact w.elim
  case h_2 =>
    rename_i ha
    subst hr
    exact tE.ex S ha w
  rename_i f1 x e1 ρ1 ha
  split at hr
  case h_2 => subst hr; exact w.elim
  rename_i p hp
  split at hr
  case h_2 => subst hr; exact w.elim
  rename_i rows hrows
  subst hr
  refine tE.ok S ha fun Z1 H1 F1 v G1 P1 R1 _ => ?_
  obtain ⟨a, vs, rfl, hl, hn, hd⟩ := rep_dict P1.sta.zh R1 hp
  obtain ⟨ek, hne⟩ := rowsK_eq hrows
  refine ⟨a, p.1.zip vs, rows, rfl, hd, ?_, hne, fun q bs hq b1 b2 => ?_⟩
  · rw [← ek]
    exact List.map_fst_zip (by omega)
  · have zh := P1.sta.zh
    have es : (srtI rows).map rowS = (bs.mergeSort (PySem.W.dataLe false (rowE (·.2)))).map fun b => rowS b.2 := by
      unfold srtI
      rw [← b1, ← List.map_mergeSort (r := PySem.W.dataLe false (rowE (·.2))) (f := fun b : Addr × List Int => b.2) (fun a _ b _ => by rw [dataLe_rowsT]), List.map_map]
      rfl
    rw [es] at w
    have nw := New.own (o := .lst ((bs.mergeSort (PySem.W.dataLe false (rowE (·.2)))).map fun b => V.ref b.1)) zh hq
    have P := P1.trans (PostE.new P1.sta nw)
    rw [Bool.or_false] at P
    exact w _ _ F1 _ [q] P (rep_newL zh hq (repL_rowS fun b hb => P1.sta.tb.2.1 _ _ (b2 b (List.mem_mergeSort.mp hb)))) fun _ => Fresh.earlier P1 (fresh_of ⟨by simp, fun b hb => by rw [List.mem_singleton.mp hb]; exact ⟨hq, z_none zh hq⟩⟩ fun a ha => P1.sta.dom ha)
end Dd
/-! a < b < c < d of ints; list + list, frozen ones too. -/
namespace Dd
open PySem L2 PyProof.Rows
def dChain3 (p q r : Int → Int → Bool) (a b k m : DE) : DE := fun ρ => match a ρ with
  | .ok _ (.int x) e1 ρ1 => if e1 = true then .bad else (match b ρ1 with
    | .ok _ (.int y) e2 ρ2 => if e2 = true then .bad else if p x y = true then (match k ρ2 with
      | .ok _ (.int z) e3 ρ3 => if e3 = true then .bad else if q y z = true then (match m ρ3 with
        | .ok _ (.int w) e4 ρ4 => if e4 = true then .bad else .ok true (.bl (r z w)) false ρ4
        | _ => .bad) else .ok true (.bl false) false ρ3
      | _ => .bad) else .ok true (.bl false) false ρ2
    | _ => .bad)
  | _ => .bad
section
variable {c : Cc} {X : Cx} {a b e f : Expr} {ma mb mc md : DE} {pos : Pos} {op op' op'' : CmpOp} {p q r : Int → Int → Bool}
theorem e_chain3 (hp : OpR X (compareOp op) (rI0 fun i j => .bl (p i j))) (hq : OpR X (compareOp op') (rI0 fun i j => .bl (q i j))) (hr : OpR X (compareOp op'') (rI0 fun i j => .bl (r i j))) (ha : PE X a (tE c ma)) (hb : PE X b (tE c mb)) (hc : PE X e (tE c mc)) (hd : PE X f (tE c md))
    (hm : lastMarks [op, op', op''] [b, e, f] = false := by with_unfolding_all rfl) : PE X (.Compare a [op, op', op''] [b, e, f] pos) (tE c (dChain3 p q r ma mb mc md)) := by
  refine ⟨fun pins s σ H Q I w => ?_⟩
  obtain ⟨Z, ρ, F, S, w⟩ := w
  generalize hres : dChain3 p q r ma mb mc md ρ = res at w
  unfold dChain3 at hres
  split at hres
  case h_2 => subst hres; exact w.elim
  rename_i f1 x e1 ρ1 h1
  split at hres
  · subst hres; exact w.elim
  rename_i he1
  have he1 : e1 = false := by simpa using he1
  subst he1
  split at hres
  case h_2 => subst hres; exact w.elim
  rename_i f2 y e2 ρ2 h2
  split at hres
  · subst hres; exact w.elim
  rename_i he2
  have he2 : e2 = false := by simpa using he2
  subst he2
  refine Compare_chain (thn (ha.run pins s σ H _ I (tE.ok (Q := fun v H1 => ∃ Z1 F1, v = .int x ∧ PostE c Z H σ ρ F false ρ1 Z1 H1 F1) S h1 fun Z1 H1 F1 v G1 P1 R1 _ => ⟨Z1, F1, R1.1, P1⟩)) fun v s1 ⟨v', H1, I1, r1, Z1, F1, e, P1⟩ => ?_) hm
  subst e
  refine chain_link (thn (hb.run pins s1 σ H1 _ I1 (tE.ok (Q := fun v H2 => ∃ Z2 F2, v = .int y ∧ PostE c Z1 H1 σ ρ1 F1 false ρ2 Z2 H2 F2) P1.sta h2 fun Z2 H2 F2 v G2 P2 R2 _ => ⟨Z2, F2, R2.1, P2⟩)) fun u s2 ⟨u', H2, I2, r2, Z2, F2, e, P2⟩ => ?_)
  subst e
  have P12 := P1.trans P2
  refine thn (hp pins s2 σ H2 _ _ v u (fun z H3 => z = .bl (p x y) ∧ H3 = H2) I2 r1 r2 ⟨x, y, rfl, rfl, rfl, rfl⟩) fun d s3 ⟨z, H3, I3, r3, e1, e2⟩ => ?_
  subst e1 e2
  cases r3
  refine wpAny_truthy_bool ?_
  cases hk : p x y with
  | false =>
    simp only [hk, Bool.false_eq_true, if_false] at hres
    subst hres
    exact ite_ff ⟨.bl false, H3, I3, rfl, w Z2 H3 F2 _ [] P12 ⟨rfl, rfl⟩ fun _ => Fresh.nil⟩
  | true =>
    simp only [hk, if_true] at hres
    refine ite_tt ?_
    split at hres
    case h_2 => subst hres; exact w.elim
    rename_i f3 z3 e3 ρ3 h3
    split at hres
    · subst hres; exact w.elim
    rename_i he3
    have he3 : e3 = false := by simpa using he3
    subst he3
    refine chain_link (thn (hc.run pins s3 σ H3 _ I3 (tE.ok (Q := fun v H4 => ∃ Z4 F4, v = .int z3 ∧ PostE c Z2 H3 σ ρ2 F2 false ρ3 Z4 H4 F4) P2.sta h3 fun Z4 H4 F4 v G4 P4 R4 _ => ⟨Z4, F4, R4.1, P4⟩)) fun w3 s4 ⟨w3', H4, I4, r4, Z4, F4, e, P4⟩ => ?_)
    subst e
    have P14 := P12.trans P4
    refine thn (hq pins s4 σ H4 _ _ u w3 (fun t H5 => t = .bl (q y z3) ∧ H5 = H4) I4 r2 r4 ⟨y, z3, rfl, rfl, rfl, rfl⟩) fun d5 s5 ⟨t, H5, I5, r5, e1, e2⟩ => ?_
    subst e1 e2
    cases r5
    refine wpAny_truthy_bool ?_
    cases hk2 : q y z3 with
    | false =>
      simp only [hk2, Bool.false_eq_true, if_false] at hres
      subst hres
      exact ite_ff ⟨.bl false, H5, I5, rfl, w Z4 H5 F4 _ [] P14 ⟨rfl, rfl⟩ fun _ => Fresh.nil⟩
    | true =>
      simp only [hk2, if_true] at hres
      refine ite_tt ?_
      split at hres
      case h_2 => subst hres; exact w.elim
      rename_i f4 w4 e4 ρ4 h4
      split at hres
      · subst hres; exact w.elim
      rename_i he4
      have he4 : e4 = false := by simpa using he4
      subst he4
      subst hres
      refine chain_last (thn (hd.run pins s5 σ H5 _ I5 (tE.ok (Q := fun v H6 => ∃ Z6 F6, v = .int w4 ∧ PostE c Z4 H5 σ ρ3 F4 false ρ4 Z6 H6 F6) P4.sta h4 fun Z6 H6 F6 v G6 P6 R6 _ => ⟨Z6, F6, R6.1, P6⟩)) fun w6 s6 ⟨w6', H6, I6, r6, Z6, F6, e, P6⟩ => ?_)
      subst e
      exact hr pins s6 σ H6 _ _ w3 w6 Q I6 r4 r6 ⟨z3, w4, rfl, rfl, w Z6 H6 F6 _ [] (P14.trans P6) ⟨rfl, rfl⟩ fun _ => Fresh.nil⟩
end
/-! list + list -/
def rCatW (K : PySem.W.Frag) : R2 := fun x y H Q => ∃ a b xs ys, x = .ref a ∧ y = .ref b ∧ SqL K H a xs ∧ SqL K H b ys ∧ xs.length + ys.length ≤ sizeLine ∧ ∀ p, H p = none → Q (.ref p) (upd H p (.lst (xs ++ ys)))
theorem op_catW {X : Cx} : OpR X (binaryOp .Add) (rCatW X.K) := by
  intro pins s σ H x y v u Q I rx ry h
  obtain ⟨a, b, xs, ys, rfl, rfl, ha, hb, hz, q⟩ := h
  cases rx
  cases ry
  obtain ⟨its, r1, p1, _⟩ := I.list ha
  obtain ⟨its2, r2, p2, _⟩ := I.list hb
  have hl := p1.isList
  have hb2 := p2.isList
  obtain ⟨⟨cls, dd, data, sl⟩, ho, hc, n, hd⟩ := id hl
  obtain ⟨⟨cls2, dd2, data2, sl2⟩, ho2, hc2, n2, hd2⟩ := id hb2
  simp only at hc hd hc2 hd2
  subst hc hd hc2 hd2
  have e : its.toArray ++ its2.toArray = (its ++ its2).toArray := by simp
  refine concat_meets ⟨_, ho, rfl⟩ ⟨_, ho2, rfl⟩ noFill_list_add seq_list_add PySem.F.slot_list_add PySem.F.entry_list_add (PySem.F.args_list_add_2 _ _) (list_addW a b its.toArray its2.toArray n n2 dd dd2 sl sl2 (by rw [List.size_toArray, List.size_toArray, ← r1.length, ← r2.length]; exact hz)) ⟨ho, ho2, ?_⟩
  rw [e]
  exact ⟨.ref _, _, I.lnew (t' := s.toks) (r1.append r2) (by rw [List.length_append]; exact hz), rfl, q _ I.fresh⟩
def fCatW : D → D → Option (Bool × D)
  | .box _ .lst ds, .box _ .lst es => if frzL ds = true ∧ frzL es = true ∧ ds.length + es.length ≤ 1000000 then some (true, .box true .lst (ds ++ es)) else none
  | _, _ => none
def fPlusW (x y : D) : Option (Bool × D) := match fPlus x y with
  | some p => some p
  | none => fCatW x y
section
variable {G : Gx}
theorem o_catW : Op2 G (rCatW G.K) fCatW := by
  intro Z H x y v w F1 F2 fr z zh r1 r2 hf Q k
  unfold fCatW at hf
  split at hf
  · rename_i o1 ds o2 es
    split at hf
    · rename_i hc
      obtain ⟨h1, h2, h3⟩ := hc
      simp only [Option.some.injEq, Prod.mk.injEq] at hf
      obtain ⟨rfl, rfl⟩ := hf
      obtain ⟨a, vs, F', rfl, hs, hl, _⟩ := rep_lst zh r1
      obtain ⟨b, ws, F'', rfl, hs2, hl2, _⟩ := rep_lst zh r2
      have e0 := hl.frz_nil h1
      subst e0
      have e1 := hl2.frz_nil h2
      subst e1
      exact ⟨a, b, vs, ws, rfl, rfl, hs, hs2, by rw [← hl.length, ← hl2.length]; exact big_le h3, fun p hp => k _ _ _ [p] (New.own zh hp) (rep_newL zh hp (hl.append hl2)) fun _ => ⟨by simp, fun c hc => by rw [List.mem_singleton.mp hc]; exact ⟨hp, z_none zh hp⟩⟩⟩
    · cases hf
  · cases hf
theorem x_addW {X : Cx} : OpR X (binaryOp .Add) (fun x y H Q => rPlus X.K x y H Q ∨ rCatW X.K x y H Q) := x_add.or op_catW
theorem m_addW : Op2 G (fun x y H Q => rPlus G.K x y H Q ∨ rCatW G.K x y H Q) fPlusW := m_add.or o_catW
end
end Dd
/-! Strict tuples and dicts, evaluated. -/
namespace Dd
open PySem L2
@[simp] theorem v_dTupS (a : DA) (ρ : Dd.Env) : dTupS a ρ = match a ρ with
  | .ok _ xs e ρ1 => if xs.length ≤ 1000000 ∧ frzL xs = true then .ok true (.box false .tps xs) e ρ1 else .bad
  | .ex c xs ρ1 => .ex c xs ρ1
  | .bad => .bad := rfl
@[simp] theorem v_plusSI (x y : Int) : fPlusS (.int x) (.int y) = some (true, .int (x + y)) := rfl
@[simp] theorem v_plusS (o o' : Bool) (ds es : List D) : fPlusS (.box o .tps ds) (.box o' .tps es) = if frzL ds = true ∧ frzL es = true ∧ ds.length + es.length ≤ 1000000 then some (true, .box false .tps (ds ++ es)) else none := rfl
@[simp] theorem v_upATs (o : Bool) (ds : List D) : upA (.box o .tps ds) = .box o .tup (upAL ds) := rfl
@[simp] theorem v_tupSOf (o : Bool) (ds : List D) : fTupSOf (.box o .lst ds) = if frzL ds = true then some (true, .box false .tps ds) else none := rfl
/-! rows as keys -/
def kk (l : List Nat) : List Key := inlK (nI l)
theorem kk_inj {a b : List Nat} (h : kk a = kk b) : a = b := by
  unfold kk inlK at h
  exact nI_inj ((List.map_inj_right (fun x y h => by injection h)).mp h)
theorem keyTo_kk (l : List Nat) : keyTo (kk l) = rowN .tps l := by
  unfold keyTo kk inlK rowN
  rw [List.map_map]
  rfl
@[simp] theorem keyD_row (l : List Nat) : keyD (rowN .tps l) = some (kk l) := by
  unfold keyD rowN kk
  simp
def addR (rows : List (List Nat)) (l : List Nat) : List (List Nat) := if l ∈ rows then rows else rows ++ [l]
theorem hasK_kk (rows : List (List Nat)) (l : List Nat) : hasK (rows.map kk) (kk l) = decide (l ∈ rows) := by
  unfold hasK
  rw [Bool.eq_iff_iff, List.any_eq_true, decide_eq_true_eq]
  constructor
  · rintro ⟨x, hx, h⟩
    obtain ⟨a, ha, rfl⟩ := List.mem_map.mp hx
    have := kk_inj (of_decide_eq_true h)
    exact this ▸ ha
  · exact fun h => ⟨kk l, List.mem_map.mpr ⟨l, h, rfl⟩, by simp⟩
theorem putKs_kk (rows : List (List Nat)) (l : List Nat) : putKs (rows.map kk) (kk l) = (addR rows l).map kk := by
  unfold putKs addR
  rw [hasK_kk]
  by_cases h : l ∈ rows <;> simp [h]
theorem putVs_c (rows : List (List Nat)) (l : List Nat) (d : D) : putVs (rows.map kk) (rows.map fun _ => d) (kk l) d = (addR rows l).map fun _ => d := by
  unfold putVs addR
  rw [hasK_kk]
  by_cases h : l ∈ rows
  · simp only [h, decide_true, if_true]
    clear h
    induction rows with
    | nil => rfl
    | cons a r ih => simp only [List.map_cons, List.zipWith_cons_cons, ih]; simp
  · simp [h]
theorem mem_addR {rows : List (List Nat)} {l x : List Nat} : x ∈ addR rows l ↔ x ∈ rows ∨ x = l := by
  unfold addR
  split
  · rename_i h
    constructor
    · exact .inl
    · rintro (h1 | rfl)
      · exact h1
      · exact h
  · simp
theorem mem_addAll {x : List Nat} : ∀ {ls rows : List (List Nat)}, x ∈ ls.foldl addR rows ↔ x ∈ rows ∨ x ∈ ls
  | [], rows => by simp
  | l :: ls, rows => by
    rw [List.foldl_cons, mem_addAll, mem_addR, List.mem_cons, or_assoc]
theorem addR_len (rows : List (List Nat)) (l : List Nat) : (addR rows l).length ≤ rows.length + 1 := by
  unfold addR
  split
  · omega
  · simp
theorem addAll_len : ∀ (ls rows : List (List Nat)), (ls.foldl addR rows).length ≤ rows.length + ls.length
  | [], rows => by simp
  | l :: ls, rows => by
    rw [List.foldl_cons, List.length_cons]
    have := addAll_len ls (addR rows l)
    have := addR_len rows l
    omega
theorem rowsK_kk : ∀ {rows : List (List Nat)}, (∀ l ∈ rows, l ≠ []) → rowsK (rows.map kk) = some (rows.map nI)
  | [], _ => rfl
  | l :: rows, h => by
    have ih := rowsK_kk (rows := rows) fun x hx => h x (List.mem_cons_of_mem _ hx)
    have e1 : (kk l).map kD = (nI l).map D.int := by unfold kk inlK; rw [List.map_map]; rfl
    have e2 : (nI l).isEmpty = false := by
      have := h l List.mem_cons_self
      cases l with
      | nil => exact absurd rfl this
      | cons a r => rfl
    simp only [List.map_cons, rowsK, e1, intsD_map, Option.bind_some, e2, Bool.false_eq_true, if_false, ih, Option.map_some]
theorem srtI_nI (rows : List (List Nat)) : (srtI (rows.map nI)).map rowS = (srtN rows).map (rowN .tps) := by
  unfold srtI srtN
  rw [← List.map_mergeSort (r := fun a b : List Nat => decide (nI a ≤ nI b)) (f := nI) (fun a _ b _ => rfl), List.map_map]
  rfl
theorem isRow_S (l : List Nat) (h : l ≠ []) : isRow (rowN .tps l) = true := by
  cases l with
  | nil => exact absurd rfl h
  | cons a l =>
    have e : nI (a :: l) = (a : Int) :: nI l := rfl
    simp only [isRow, rowN, rowD, intsD_map, e]
    simp
theorem sortA_rowsS (o : Bool) {L : List (List Nat)} (h : ∀ l ∈ L, l ≠ []) : fSortA (.box o .lst (L.map (rowN .tps))) = some (true, .box true .lst ((srtN L).map (rowN .tps))) := by
  cases L with
  | nil => simp [fSortA, fSorted, seqD, intsD, srt, srtN]
  | cons a L =>
    generalize hL : a :: L = M at *
    have h1 : fSorted (.box o .lst (M.map (rowN .tps))) = none := by
      rw [← hL]
      unfold fSorted
      split
      · rename_i t ds hs
        simp only [seqD] at hs
        split at hs
        · simp only [Option.some.injEq, Prod.mk.injEq] at hs
          rw [← hs.2]
          rfl
        · cases hs
      · rfl
    have h2 : (M.map (rowN .tps)).all isRow = true := by
      rw [List.all_eq_true]
      intro d hd
      obtain ⟨l, hl, rfl⟩ := List.mem_map.mp hd
      exact isRow_S l (h l hl)
    have h3 : srtR (M.map (rowN .tps)) = (srtN M).map (rowN .tps) := by
      refine (List.map_mergeSort fun a _ b _ => ?_).symm
      have e : ∀ l, rowI (rowN .tps l) = nI l := fun l => by simp [rowI, rowD, rowN]
      rw [e, e]
    unfold fSortA
    rw [h1]
    simp only [fSortR, h2, if_true, h3]
@[simp] theorem upA_rowS (l : List Nat) : upA (rowN .tps l) = rowN .tup l := by simp [rowN]
@[simp] theorem upA_rowP (l : List Nat) : upA (rowN .tpl l) = rowN .tup l := by simp [rowN]
@[simp] theorem upA_rowT (l : List Nat) : upA (rowN .tup l) = rowN .tup l := by simp [rowN]
@[simp] theorem upA_rowsS (L : List (List Nat)) : upAL (L.map (rowN .tps)) = L.map (rowN .tup) := by
  rw [upAL_map, List.map_map]
  exact List.map_congr_left fun l _ => upA_rowS l
theorem notin_rowsL (o : Bool) (l : List Nat) (L : List (List Nat)) : fNotInA (rowN .tup l) (.box o .lst (L.map (rowN .tup))) = some (true, .bl (!decide (l ∈ L))) := by
  have h1 : fNotIn (rowN .tup l) (.box o .lst (L.map (rowN .tup))) = none := rfl
  unfold fNotInA
  rw [h1]
  have e : (L.map rowPy).any (fun z => PyData.eqv z (rowPy l)) = decide (l ∈ L) := by
    rw [List.any_map, Bool.eq_iff_iff, List.any_eq_true, decide_eq_true_eq]
    constructor
    · rintro ⟨x, hx, h⟩
      simp only [Function.comp, eqv_rows, decide_eq_true_eq] at h
      exact h ▸ hx
    · exact fun h => ⟨l, h, by simp [eqv_rows]⟩
  simp [fInD, toPy_rowN, toPy, toPyL_rows, itemsP, sh_row, sh_lst, e, -List.any_map]
/-! lists of truth values -/
theorem blL_map {α : Type} (f : α → Bool) : ∀ l : List α, blL (l.map fun x => D.bl (f x)) = some (l.map f)
  | [] => rfl
  | a :: l => by simp [blL, blL_map f l]
theorem all_map {α : Type} (o : Bool) (f : α → Bool) (l : List α) : fAll (.box o .lst (l.map fun x => D.bl (f x))) = some (true, .bl (l.all f)) := by
  simp [fAll, blL_map, List.all_map]
/-! the least order -/
theorem range_least : ∀ (l : List Nat) (k : Nat), l.Nodup → (∀ x ∈ l, k ≤ x) → nI (List.range' k l.length) ≤ nI l
  | [], k, _, _ => List.le_refl _
  | a :: l, k, hn, h => by
    have ha := h a List.mem_cons_self
    rw [List.length_cons, List.range'_succ]
    show ((k : Int) :: nI (List.range' (k + 1) l.length)) ≤ ((a : Int) :: nI l)
    rw [List.cons_le_cons_iff]
    by_cases e : k = a
    · right
      refine ⟨by rw [e], range_least l (k + 1) (List.nodup_cons.mp hn).2 fun x hx => ?_⟩
      have h1 := h x (List.mem_cons_of_mem _ hx)
      have h2 : x ≠ a := fun q => (List.nodup_cons.mp hn).1 (q ▸ hx)
      omega
    · left; omega
theorem head_srt {L : List (List Nat)} {x : List Nat} (hx : x ∈ L) (h : ∀ l ∈ L, nI x ≤ nI l) : (srtN L).head? = some x := by
  have tr : ∀ a b c : List Nat, decide (nI a ≤ nI b) = true → decide (nI b ≤ nI c) = true → decide (nI a ≤ nI c) = true := fun a b c h1 h2 => by
    simp only [decide_eq_true_eq] at *
    exact List.le_trans h1 h2
  have to : ∀ a b : List Nat, (decide (nI a ≤ nI b) || decide (nI b ≤ nI a)) = true := fun a b => by
    simp only [Bool.or_eq_true, decide_eq_true_eq]
    exact List.le_total _ _
  have p1 : (srtN L).Pairwise (fun a b => decide (nI a ≤ nI b) = true) := List.pairwise_mergeSort tr to L
  have hm : x ∈ srtN L := (srtN_perm L).mem_iff.mpr hx
  have hall : ∀ l ∈ srtN L, nI x ≤ nI l := fun l hl => h l ((srtN_perm L).mem_iff.mp hl)
  cases hs : srtN L with
  | nil => rw [hs] at hm; cases hm
  | cons a r =>
    rw [hs] at p1 hm hall
    rw [List.head?_cons]
    rcases List.mem_cons.mp hm with e | hr
    · rw [e]
    · have h1 := (List.pairwise_cons.mp p1).1 x hr
      have h2 := hall a List.mem_cons_self
      simp only [decide_eq_true_eq] at h1
      rw [nI_inj (List.le_antisymm h1 h2)]
end Dd
/-! x.extend([..]), str(int), try with several clauses. -/
namespace Dd
open PySem L2
/-- x.extend(a fresh list) -/
def dExt (i : Nat) (m : DE) : DS := fun ρ => match ρ[i]? with
  | some (some (.box true .lst _)) => (match m ρ with
    | .ok true (.box true .lst es) _ ρ1 => (match ρ1[i]? with
      | some (some (.box true .lst ds)) => if ds.length + es.length ≤ 1000000 then .nx (ρ1.set i (some (.box true .lst (ds ++ es)))) else .bad
      | _ => .bad)
    | .ok _ _ _ _ => .bad
    | .ex c xs ρ1 => .ex c xs ρ1
    | .bad => .bad)
  | _ => .bad
section
variable {c : Cc} {X : Cx} {e : Expr} {st : Stmt} {m : DE} {i : Nat}
theorem ext_imp {D : Ends} {σ : St} {H : Hp} (w : tS c (dExt i m) D σ H) : tDrop (tBM c.G.K "list" rExtend (tVar i) (tCons (tE c m) tNil)) D σ H := by
  obtain ⟨Z, ρ, F, S, w⟩ := w
  show ∃ v, σ[i]? = some (some v) ∧ tyV c.G.K "list" v H ∧ tE c m σ H fun x H1 => rExtend v [x] H1 fun _ H2 => D.nx σ H2
  unfold dExt at w
  split at w
  · rename_i ds0 hi
    obtain ⟨a0, vs0, A0, F0, B0, g1, g2, _⟩ := S.write hi
    refine ⟨.ref a0, g1, .inl ⟨rfl, _, SqL.of g2⟩, ?_⟩
    split at w
    · rename_i es eff ρ1 ha
      split at w
      · rename_i ds hj
        split at w
        · rename_i hlen
          refine tE.ok S ha fun Z1 H1 F1 u G1 P1 R1 f1h => ?_
          have fr := f1h rfl
          obtain ⟨b, zs, G2, rfl, hR, _, h2⟩ := R1
          obtain ⟨eG, o, hb, ho⟩ := h2 rfl
          have ho : o = .lst zs := ho
          subst ho
          subst eG
          obtain ⟨a, vs, A, Fi, B, q1, q2, q3, q4, q5, q6, q7⟩ := P1.sta.write hj
          have ea : a0 = a := by
            rw [g1] at q1
            have z := Option.some.inj (Option.some.inj q1)
            exact V.ref.inj z
          subst ea
          have inFi : ∀ b ∈ Fi, b ∈ F1 := fun b hb => by rw [q3]; exact mem_mid.mpr (.inl (List.mem_cons_of_mem _ hb))
          have r2 : RepL c.G Z1 H1 (ds ++ es) (vs ++ zs) (Fi ++ G2) := q4.append hR
          have nd2 := (List.nodup_cons.mp fr.nd).2
          have sub : ∀ x ∈ G2, x ∈ b :: G2 := fun x hx => List.mem_cons_of_mem _ hx
          obtain ⟨F', S', st', hF⟩ := q7 _ _ _ r2 (List.nodup_append.mpr ⟨q5, nd2, fun b hb b2 hb2 e => fr.nf b2 (sub _ hb2) (e ▸ inFi b hb)⟩) fun x hx => by
            rcases List.mem_append.mp hx with hx | hx
            · exact ⟨P1.sta.fz x (inFi x hx), q6 x hx⟩
            · exact ⟨fr.nz x (sub _ hx), fun q => fr.nf x (sub _ hx) (by rw [q3, q]; exact mem_mid.mpr (.inl List.mem_cons_self)), fun q => fr.nf x (sub _ hx) (by rw [q3]; exact mem_mid.mpr (.inr q))⟩
          refine ⟨a0, b, vs, zs, rfl, rfl, q2, hb, by rw [← q4.length, ← hR.length]; exact big_le hlen, w Z1 _ F' σ (P1.st.call fr st' (fun x hx => ?_) fun x hx => .inr hx) S'⟩
          rcases List.mem_append.mp hx with hx | hx
          · exact .inl hx
          · exact (List.mem_append.mp hx).imp (inFi x) (sub x)
        · exact w.elim
      · exact w.elim
    · exact w.elim
    · rename_i x xs ρ1 ha
      exact tE.ex S ha fun Z' H' F' => w Z' H' F' σ
    · exact w.elim
  · exact w.elim
theorem s_ext (h : PS X st (tDrop (tBM c.G.K "list" rExtend (tVar i) (tCons (tE c m) tNil)))) : PS X st (tS c (dExt i m)) := h.imp fun _ _ _ w => ext_imp w
end
/-- str(int) -/
def fStr1 : D → Option (Bool × D)
  | .int i => if i.natAbs < 2 ^ 64 then some (true, .str (toString i)) else none
  | _ => none
theorem o_str1 {G : Gx} : Op1 G (fun x H Q => ∃ i, [x] = [.int i] ∧ i.natAbs.log2 < 1920 ∧ Q (.str (toString i)) H) fStr1 := op1_sc fun Z H x v F1 fr z zh r1 hf => by
  cases x <;> simp only [fStr1, reduceCtorEq] at hf
  rename_i i
  split at hf
  · rename_i h
    simp only [Option.some.injEq, Prod.mk.injEq] at hf
    obtain ⟨rfl, rfl⟩ := hf
    refine ⟨_, rfl, fun Q q => ⟨i, by rw [r1.1], ?_, q⟩⟩
    by_cases e : i.natAbs = 0
    · rw [e]; decide
    · exact Nat.lt_of_lt_of_le ((Nat.log2_lt e).mpr h) (by decide)
  · cases hf
/-! ### several clauses, with or without a name -/
abbrev Cl : Type := Value × Option Nat × (Addr → Value → Option Addr → TS)
def wLst (K : PySem.W.Frag) (D : Ends) : List Cl → WX
  | [] => fun _ _ _ _ => False
  | (c, o, ts) :: r => fun cls d σ H => ∃ b, PySem.W.exmOne K cls c = some b ∧ (b = true → ∀ a, H a = none → match o with
      | none => ts a cls d D σ H
      | some i => ts a cls d { nx := fun σ1 H1 => D.nx (σ1.set i none) H1, rt := D.rt, bk := fun σ1 H1 => D.bk (σ1.set i none) H1, ct := fun σ1 H1 => D.ct (σ1.set i none) H1 } (σ.set i (some (.ref a))) H) ∧ (b = false → wLst K D r cls d σ H)
inductive HdsL (X : Cx) : List ExceptHandler → List Cl → Prop
  | nil : HdsL X [] []
  | cons {x : Str} {c : Value} {ts : Addr → Value → Option Addr → TS} {s0 : Stmt} {su : List Stmt} {np p1 : Pos} {hds : List ExceptHandler} {l : List Cl} (hc : Names X x c)
      (hsu : ∀ (a : Addr) (oe : Obj) (cls : Value) (d : Option Addr) (pn : List (Addr × Obj)), Zc cls d oe → (∃ vs, oe.data = .fields vs) → PSs (X.suite a ((a, oe) :: pn)) (s0 :: su) (ts a cls d)) (r : HdsL X hds l) :
      HdsL X (.ExceptHandler (some (.Name x np)) none (s0 :: su) p1 :: hds) ((c, none, ts) :: l)
  | consN {x n : Str} {c : Value} {i : Nat} {ts : Addr → Value → Option Addr → TS} {s0 : Stmt} {su : List Stmt} {np p1 : Pos} {hds : List ExceptHandler} {l : List Cl} (hc : Names X x c)
      (hi : X.N[i]? = some n) (kin : X.env.kindOf n = some .local)
      (hsu : ∀ (a : Addr) (oe : Obj) (cls : Value) (d : Option Addr) (pn : List (Addr × Obj)), Zc cls d oe → (∃ vs, oe.data = .fields vs) → PSs (X.suite a ((a, oe) :: pn)) (s0 :: su) (ts a cls d)) (r : HdsL X hds l) :
      HdsL X (.ExceptHandler (some (.Name x np)) (some n) (s0 :: su) p1 :: hds) ((c, some i, ts) :: l)
theorem ps_try_lst {X : Cx} {body : List Stmt} {hd : ExceptHandler} {hds : List ExceptHandler} {l : List Cl} {p2 : Pos} {tb : WX → TS}
    (hst : X.stack = X.env :: X.outer) (hfm : X.env.frame = some X.env.locals) (nod : X.N.Nodup)
    (der : ∀ (W : WX) (pn : List (Addr × Obj)) (xe : Value → Shared → Prop), Takes (X.tr pn xe) W → PassesOwn (model X.prog X.w) X.A X.env xe → PSs (X.tr pn xe) body (tb W))
    (hh : HdsL X (hd :: hds) l) : PS X (.Try body (hd :: hds) [] [] p2) (fun D σ H => tb (wLst X.K D l) D σ H) := by
  refine ⟨fun ps s σ H D I w => ?_⟩
  have good := I.ok
  have fm : X.A.frames = some (X.env :: X.outer) := by rw [good.frames, hst]
  refine wpAny_Try_except ?_
  let kk : Value → Shared → Prop := fun e s1 => wpAny (model X.prog X.w) X.A (noteFrame e X.env) (fun _ s2 => wpAny (model X.prog X.w) X.A (setFlight e none) (fun _ s3 =>
    wpAny (model X.prog X.w) X.A (handleBy e X.env (hd :: hds)) (SP X ps D) X.xe s3) X.xe s2) X.xe s1
  have go := (der (wLst X.K D l) (X.pn ++ ps) kk (fun u s1 hx => by
    obtain ⟨a, B, sJ, ps1, σ1, H1, cls, d, rfl, J0, old, up1, hsky, na, os, ag, w1⟩ := hx
    have J : Inv X ps σ1 H1 sJ := J0.ofTry good
    have hsky : Sky B (X.env :: X.outer) a (Zc cls d) X.env.locals s1.heap := by rw [← hst]; exact hsky
    show wpAny (model X.prog X.w) X.A (noteFrame (.ref a) X.env) _ _ _
    refine Sky.land Zc.steady fm hfm hsky fun m3 y3 up3 => ?_
    have I3 : Inv X ps σ1 H1 { s1 with heap := m3 } := J.landed old y3.1 (up1.trans up3) os ag
    obtain ⟨e3, v3, at3, z3, f3⟩ := y3.there
    have far : a ∉ frs (X.env :: X.outer) := fun hm => by
      obtain ⟨_, o1, at1, no1⟩ := y3.2.2.1.mem hm
      rw [at3] at at1; cases at1
      exact no1 _ f3
    have farL : a ≠ X.env.locals := fun z => far (List.mem_filterMap.mpr ⟨X.env, List.mem_cons_self, by rw [hfm, z]⟩)
    have farF : a ∉ X.fs := fun hm => by
      obtain ⟨e, he, q⟩ := List.mem_filterMap.mp hm
      exact far (List.mem_filterMap.mpr ⟨e, List.mem_cons_of_mem _ he, q⟩)
    have T3 := I3.suite at3 f3 na farL farF
    have walk : ∀ {hs : List ExceptHandler} {l' : List Cl}, HdsL X hs l' → wLst X.K D l' cls d σ1 H1 → wpAny (model X.prog X.w) X.A (handleBy (.ref a) X.env hs) (SP X ps D) X.xe { s1 with heap := m3 } := by
      intro hs l' hk
      induction hk with
      | nil => exact fun z => z.elim
      | @cons x c ts s0 su np p1 hds2 l2 nam sui _ ih =>
        rintro ⟨bb, w1, w2, w3⟩
        refine wpAny_handleBy_cons (codeAny_handlers_test ?_) (fun q => by cases q)
        have lt3 : PySem.W.Looks (model X.prog X.w) m3 (typeOf (.ref a)) cls := fun A Q E s k q => wpAny_typeOf_ref (k _ _ at3) (by rw [z3.1]; exact q)
        have lm3 := PySem.W.exm_one (M := model X.prog X.w) I3.kIn lt3 w1
        have tst : ∀ {Q E : Value → Shared → Prop}, Q c { s1 with heap := m3 } → wpAny (model X.prog X.w) (X.A.mark (some (.ref a))) (eval (.Name x np) X.env) Q E { s1 with heap := m3 } := fun {Q E} q => by
          obtain ⟨n1, n2, n3 | ⟨n3, n4, n5⟩⟩ := nam
          · exact ld_glob (X := X.suite a ((a, e3) :: (X.pn ++ ps))) T3 n1 n3 q n2
          · exact ld_blt (X := X.suite a ((a, e3) :: (X.pn ++ ps))) T3 n1 n3 n4 q n5 n2
        cases bb with
        | false => exact tst (lm3.here (ih (w3 rfl)))
        | true =>
          refine tst (lm3.here (codeAny_handlers_suite (HandSPX.lands_againZ y3 fun m4 y4 up4 => ?_)))
          have I4 : Inv X ps σ1 H1 { s1 with heap := m4 } := J.landed old y4.1 ((up1.trans up3).trans up4) os ag
          obtain ⟨e4, v4, at4, z4, f4⟩ := y4.there
          have T4 := I4.suite at4 f4 na farL farF
          refine wpAny_mono ((sui a e4 cls d (X.pn ++ ps) z4 ⟨_, f4⟩).run [] _ _ H1 _ T4 (w2 rfl a na)) (fun f s6 sp => ?_) (fun _ _ z => False.elim z)
          match f, sp with
          | .next, ⟨_, _, T6, q6⟩ => exact ⟨_, _, T6.unsuite good, q6⟩
          | .brk, ⟨_, _, T6, q6⟩ => exact ⟨_, _, T6.unsuite good, q6⟩
          | .cont, ⟨_, _, T6, q6⟩ => exact ⟨_, _, T6.unsuite good, q6⟩
          | .ret _, ⟨_, _, _, T6, r6, q6⟩ => exact ⟨_, _, _, T6.unsuite good, r6, q6⟩
      | @consN x n c i ts s0 su np p1 hds2 l2 nam hi kin sui _ ih =>
        rintro ⟨bb, w1, w2, w3⟩
        have lcl : Loc X.env.scope n := .inl kin
        refine wpAny_handleBy_cons (codeAny_handlers_test ?_) (fun q => by cases q)
        have lt3 : PySem.W.Looks (model X.prog X.w) m3 (typeOf (.ref a)) cls := fun A Q E s k q => wpAny_typeOf_ref (k _ _ at3) (by rw [z3.1]; exact q)
        have lm3 := PySem.W.exm_one (M := model X.prog X.w) I3.kIn lt3 w1
        have tst : ∀ {Q E : Value → Shared → Prop}, Q c { s1 with heap := m3 } → wpAny (model X.prog X.w) (X.A.mark (some (.ref a))) (eval (.Name x np) X.env) Q E { s1 with heap := m3 } := fun {Q E} q => by
          obtain ⟨n1, n2, n3 | ⟨n3, n4, n5⟩⟩ := nam
          · exact ld_glob (X := X.suite a ((a, e3) :: (X.pn ++ ps))) T3 n1 n3 q n2
          · exact ld_blt (X := X.suite a ((a, e3) :: (X.pn ++ ps))) T3 n1 n3 n4 q n5 n2
        cases bb with
        | false => exact tst (lm3.here (ih (w3 rfl)))
        | true =>
          refine tst (lm3.here (codeAny_handlers_suite_as (HandSPX.lands_againZ y3 fun m4 y4 up4 => ?_)))
          have I4 : Inv X ps σ1 H1 { s1 with heap := m4 } := J.landed old y4.1 ((up1.trans up3).trans up4) os ag
          obtain ⟨e4, v4, at4, z4, f4⟩ := y4.there
          have T4 := I4.suite at4 f4 na farL farF
          refine store_ok (X := X.suite a ((a, e4) :: (X.pn ++ ps))) (v := .ref a) T4 nod hi lcl rfl (fun s5 T5 => ?_) (.inr kin)
          refine wpAny_mono ((sui a e4 cls d (X.pn ++ ps) z4 ⟨_, f4⟩).run [] s5 _ H1 _ T5 (w2 rfl a na)) (fun f s6 sp => ?_) (fun _ _ z => False.elim z)
          have fin : ∀ {σ6 : L2.St} {H6 : Hp} {Q : Shared → Prop}, Inv (X.suite a ((a, e4) :: (X.pn ++ ps))) [] σ6 H6 s6 → (∀ s7, Inv X ps (σ6.set i none) H6 s7 → Q s7) →
              wpAny (model X.prog X.w) X.A (do bindName X.env n .none; unbindBehindTheSuite X.env n p1) (fun _ s7 => Q s7) X.xe s6 := fun T6 hq => gone_ok (T6.unsuite good) nod hi kin hq
          match f, sp with
          | .next, ⟨_, _, T6, q6⟩ => exact fin T6 fun _ J7 => ⟨_, _, J7, q6⟩
          | .brk, ⟨_, _, T6, q6⟩ => exact fin T6 fun _ J7 => ⟨_, _, J7, q6⟩
          | .cont, ⟨_, _, T6, q6⟩ => exact fin T6 fun _ J7 => ⟨_, _, J7, q6⟩
          | .ret _, ⟨_, _, _, T6, r6, q6⟩ => exact fin T6 fun _ J7 => ⟨_, _, _, J7, r6, q6⟩
    exact walk hh w1) PassesOwn.looking).run [] s σ H D (I.toTry _) w
  refine wpAny_mono go (fun f s1 sp => ?_) (fun _ _ z => z)
  match f, sp with
  | .next, ⟨_, _, J, q⟩ => exact wpAny_execs_nil ⟨_, _, J.ofTry good, q⟩
  | .brk, ⟨_, _, J, q⟩ => exact ⟨_, _, J.ofTry good, q⟩
  | .cont, ⟨_, _, J, q⟩ => exact ⟨_, _, J.ofTry good, q⟩
  | .ret _, ⟨_, _, _, J, r, q⟩ => exact ⟨_, _, _, J.ofTry good, r, q⟩
/-- try: body / except A [as e]: .. / except B: .. : what each raised class gives back -/
def pick : List (Str × D) → Str → Option D
  | [], _ => none
  | (x, d) :: r, y => if y = x then some d else pick r y
def dTryL (body : DS) (l : List (Str × D)) (n : Nat) : DS := fun ρ => match body ρ with
  | .ex y [] ρ1 => if n ≤ ρ1.length then (match pick l y with | some d => .rt d ρ1 | none => .bad) else .bad
  | .ex _ _ _ => .bad
  | r => r
def Answers (G : Gx) (K : PySem.W.Frag) (n : Nat) (cl : List Cl) : List (Str × D) → Prop
  | [] => True
  | (y, d) :: r => (∃ C v, G.cn y = some C ∧ sv d = some v ∧ ∀ (D : Ends) (σ : L2.St) (H : Hp), n ≤ σ.length → (∀ H1, Ex H H1 → D.rt v H1) → wLst K D cl (.ref C) none σ H) ∧ Answers G K n cl r
theorem Answers.pick {G : Gx} {K : PySem.W.Frag} {n : Nat} {cl : List Cl} : ∀ {l : List (Str × D)}, Answers G K n cl l → ∀ {y : Str} {d : D}, Dd.pick l y = some d →
    ∃ C v, G.cn y = some C ∧ sv d = some v ∧ ∀ (D : Ends) (σ : L2.St) (H : Hp), n ≤ σ.length → (∀ H1, Ex H H1 → D.rt v H1) → wLst K D cl (.ref C) none σ H
  | [], _, _, _, h => by cases h
  | (x, d0) :: r, A, y, d, h => by
    unfold Dd.pick at h
    split at h
    · rename_i e
      cases h
      subst e
      exact A.1
    · exact Answers.pick A.2 h
theorem s_tryL {c : Cc} {X : Cx} {cl : List Cl} {l : List (Str × D)} {n : Nat} {body : List Stmt} {hd : ExceptHandler} {hds : List ExceptHandler} {p2 : Pos} {m : DS}
    (hst : X.stack = X.env :: X.outer) (hfm : X.env.frame = some X.env.locals) (nod : X.N.Nodup)
    (der : ∀ (W : EW) (pn : List (Addr × Obj)) (xe : Value → Shared → Prop), Takes (X.tr pn xe) (wxOf { c with W := W }) → PassesOwn (model X.prog X.w) X.A X.env xe → PSs (X.tr pn xe) body (tS { c with W := W } m))
    (hh : HdsL X (hd :: hds) cl) (ha : Answers c.G X.K n cl l) :
    PS X (.Try body (hd :: hds) [] [] p2) (tS c (dTryL m l n)) := by
  have key := ps_try_lst (X := X) (p2 := p2) (tb := fun W => tS { c with W := fun y ys σ H => ys = [] → ∀ C, c.G.cn y = some C → W (.ref C) none σ H } m) hst hfm nod
    (fun W pn xe tk po => der _ pn xe (tk.imp fun cls dd σ H z => by
      obtain ⟨y, C1, h1, h2, h3, h4⟩ := z
      rw [h2, h3]
      exact h4 rfl C1 h1) po) hh
  refine key.imp fun D σ H w => ?_
  obtain ⟨Z, ρ, F, S, w⟩ := w
  refine ⟨Z, ρ, F, S, ?_⟩
  cases hb : m ρ with
  | nx ρ1 => simp only [dTryL, hb] at w; exact w
  | bk ρ1 => simp only [dTryL, hb] at w; exact w
  | ct ρ1 => simp only [dTryL, hb] at w; exact w
  | rt d1 ρ1 => simp only [dTryL, hb] at w; exact w
  | bad => simp only [dTryL, hb] at w; exact w
  | ex y ys ρ1 =>
    cases ys with
    | cons _ _ => simp only [dTryL, hb, SOut] at w
    | nil =>
      by_cases hi1 : n ≤ ρ1.length
      · cases hp : pick l y with
        | none => simp only [dTryL, hb, hi1, if_true, hp, SOut] at w
        | some d =>
          simp only [dTryL, hb, hi1, if_true, hp] at w
          intro Z1 H1 F1 σ1 st S1 _ C1 h1
          obtain ⟨C, v, e1, e2, k⟩ := ha.pick hp
          cases e1.symm.trans h1
          refine k D σ1 H1 (by rw [← S1.rs.length]; exact hi1) fun H2 hE => ?_
          obtain ⟨Z2, nw⟩ := New.exf S1.zh hE
          exact w Z2 H2 F1 σ1 v [] (st.trans nw.step) (S1.new nw) (sv_rep e2) Fresh.nil
      · simp only [dTryL, hb, if_neg hi1, SOut] at w
/-! the clauses -/
abbrev TCl := Addr → TS
def clOf (C : Addr) (ts : Addr → TS) : Addr → Value → Option Addr → TS := fun a cls dd D σ H => cls = .ref C ∧ dd = none ∧ ts a D σ H
theorem su_of {X : Cx} {C : Addr} {su : List Stmt} {ts : Addr → TS} (h : ∀ (a : Addr) (oe : Obj) (pn : List (Addr × Obj)), Zc (.ref C) none oe → (∃ vs, oe.data = .fields vs) → PSs (X.suite a ((a, oe) :: pn)) su (ts a)) :
    ∀ (a : Addr) (oe : Obj) (cls : Value) (d : Option Addr) (pn : List (Addr × Obj)), Zc cls d oe → (∃ vs, oe.data = .fields vs) → PSs (X.suite a ((a, oe) :: pn)) su (clOf C ts a cls d) := fun a oe cls dd pn zc fl => ⟨fun pins s σ H D I w => by
  obtain ⟨e1, e2, w⟩ := w
  subst e1 e2
  exact (h a oe pn zc fl).run pins s σ H D I w⟩
section
variable {K : PySem.W.Frag} {D : Ends} {c : Value} {o : Option Nat} {ts : Addr → Value → Option Addr → TS} {r : List Cl} {C : Addr} {σ : L2.St} {H : Hp} {i : Nat} {t : Addr → TS}
theorem w_skip (h : PySem.W.exmOne K (.ref C) c = some false) (k : wLst K D r (.ref C) none σ H) : wLst K D ((c, o, ts) :: r) (.ref C) none σ H := ⟨false, h, fun z => (nomatch z), fun _ => k⟩
theorem w_here {v : V} (h : PySem.W.exmOne K (.ref C) c = some true) (k : ∀ H1, Ex H H1 → D.rt v H1) : wLst K D ((c, none, fun _ _ _ => tRet (tC v)) :: r) (.ref C) none σ H := ⟨true, h, fun _ a na => k H (Ex.refl H), fun z => nomatch z⟩
theorem w_hereN (h : PySem.W.exmOne K (.ref C) c = some true) (k : ∀ a D1, D1.rt = D.rt → H a = none → t a D1 (σ.set i (some (.ref a))) H) : wLst K D ((c, some i, clOf C t) :: r) (.ref C) none σ H := ⟨true, h, fun _ a na => ⟨rfl, rfl, k a _ rfl na⟩, fun z => nomatch z⟩
end
def tLs : List Addr → TA
  | [] => tNil
  | u :: us => tCons (tC (.ref u)) (tLs us)
theorem tLs_run {us : List Addr} {σ : L2.St} {H : Hp} {Q : List V → Hp → Prop} (q : Q (us.map V.ref) H) : tLs us σ H Q := by
  induction us generalizing Q with
  | nil => exact q
  | cons u us ih => exact ih (Q := fun xs H2 => Q (.ref u :: xs) H2) q
theorem paired_refs : ∀ us : List Addr, Paired ClsV (us.map V.ref) (us.map Value.ref)
  | [] => .nil
  | _ :: us => .cons (.own _) (paired_refs us)
abbrev tOther (K : PySem.W.Frag) (C a : Addr) (i : Nat) (us : List Addr) (v1 v2 : V) : TS :=
  tSeq (tIfS (tB (tCB (rIsET K C a) (tCons (tVar i) (tCons (tTup (tLs us)) tNil)))) (tRet (tC v1)) tNext) (tRet (tC v2))
theorem other_run {K : PySem.W.Frag} {C a : Addr} {i : Nat} {us : List Addr} {v1 v2 : V} (kt : PySem.W.kitAny K (.ref C) (us.map Value.ref) = some false) (hl : us.length ≤ 100) {D : Ends} {σ : L2.St} {H : Hp} (hi : i < σ.length) (k : ∀ H1, Ex H H1 → D.rt v2 H1) :
    tOther K C a i us v1 v2 D (σ.set i (some (.ref a))) H := by
  have g : (σ.set i (some (V.ref a)))[i]? = some (some (.ref a)) := List.getElem?_set_self hi
  refine ⟨.ref a, g, ?_⟩
  refine tLs_run ⟨Nat.le_trans (by rw [List.length_map]; exact hl) (show 100 ≤ sizeLine by decide), fun p np => ?_⟩
  refine ⟨p, _, _, false, rfl, upd_same, paired_refs us, kt, false, rfl, ?_⟩
  exact k _ (Ex.new np)
/-! evaluation -/
@[simp] theorem v_dExt (i : Nat) (m : DE) (ρ : Env) : dExt i m ρ = match ρ[i]? with
  | some (some (.box true .lst _)) => (match m ρ with
    | .ok true (.box true .lst es) _ ρ1 => (match ρ1[i]? with
      | some (some (.box true .lst ds)) => if ds.length + es.length ≤ 1000000 then .nx (ρ1.set i (some (.box true .lst (ds ++ es)))) else .bad
      | _ => .bad)
    | .ok _ _ _ _ => .bad
    | .ex c xs ρ1 => .ex c xs ρ1
    | .bad => .bad)
  | _ => .bad := rfl
@[simp] theorem v_dTryL (body : DS) (l : List (Str × D)) (n : Nat) (ρ : Env) : dTryL body l n ρ = match body ρ with
  | .ex y [] ρ1 => if n ≤ ρ1.length then (match pick l y with | some d => .rt d ρ1 | none => .bad) else .bad
  | .ex _ _ _ => .bad
  | r => r := rfl
@[simp] theorem v_str1 (i : Int) : fStr1 (.int i) = if i.natAbs < 18446744073709551616 then some (true, .str (toString i)) else none := rfl
theorem sh_ints (xs : List Int) : SeqAt.shaped (.list (xs.map .int)) = true := by
  show (PyData.canLay0 (.list (xs.map .int)) && decide (PyData.depth (.list (xs.map .int)) ≤ 64)) = true
  simp [PyData.canLay0, lay_ints, PyData.depth, PySem.W.depth_ints]
theorem eq_intsL (o o' : Bool) (xs ys : List Int) : fEq (.box o .lst (xs.map D.int)) (.box o' .lst (ys.map D.int)) = some (true, .bl (decide (xs = ys))) := by
  simp [fEq, eqV', eqDeep, toPy, toPyL_ints, sh_ints, PyData.eqv, eqvAll_ints]
theorem eq_row2 (a b : List Nat) : fEq (rowN .tup a) (rowN .tup b) = some (true, .bl (decide (a = b))) := by
  have h : eqV' (rowN .tup a) (rowN .tup b) = eqDeep (rowN .tup a) (rowN .tup b) := rfl
  simp [fEq, h, eqDeep, toPy_rowN, sh_row, eqv_rows]
end Dd
/-! A generator expression within another: tuple(tuple(..) for ..). -/
namespace GX
open PySem PySem.Spec PyProof.Rows L2 TBx
/-- tuple(elt for t in e if ..); the def's table at P may have grown behind it -/
def tTupG2 (P : Addr) (wi : TI) (gT : TG) (tt : TT) (te : Addr → Addr → TE) (vs : List Nat) : TE := fun σ H Q => wi σ H fun J H1 => Tb H1 P ∧ ∀ H2 c' Q', Grw H1 H2 → CdT H2 c' Q' → Tb H2 Q' → ∃ W : Nat → Nat → List V → Hp → Prop, (∃ m, W 0 m [] H2) ∧ ∀ i m ys H, W i m ys H →
  (J.stop i H ∧ ys.length ≤ sizeLine ∧ ∀ p, H p = none → Q (.ref p) (upd H p (.tup ys))) ∨ (J.go i H ∧ ∃ Nx : List V → Hp → Prop, (∀ ys H', Nx ys H' → ∃ m', m' < m ∧ W (i + 1) m' ys H') ∧ ∀ x H', J.yld i H x H' → gT x (wipe σ vs) H' fun σ2 H2 => wipe σ2 vs = wipe σ vs ∧ tt σ2 H2 fun b H3 =>
    if b = true then te c' Q' σ2 H3 fun y H4 => ys.length < sizeLine ∧ (True → Nx (ys ++ [y]) H4) else Nx ys H3)
theorem pe_tupleG2 {X : Cx} {c0 P0 c P : Addr} {elt tg iter : Expr} {ifs : List Expr} {scope : Scope} {own : List (Str × Nat)} {p pos gpos : Pos} {wi : TI} {gT : TG} {tt : TT} {te : Addr → Addr → TE} {k : Nat}
    (hc : X.calm = true) (nod : X.N.Nodup) (hr : Room (k + 4) X.A) (hg : Gl X "tuple") (hm : X.mg "tuple" = none) (hb : bootBuiltins "tuple" = some (.type "tuple")) (TB : GxR.TabB X.base X.mg c0 P0) (hcd : ∀ (pins : List (Addr × Obj)) (σ : L2.St) (H1 : Hp) (s1 : Shared), Inv X pins σ H1 s1 → PySem.W.CodeHd s1.heap c P) (hcode : X.env.code = .ref c) (co : scope.isCoroutine = false) (ok : BlkOk X.N X.env.scope scope own) (ncell : ∀ y ∈ scope.names, y.2 ≠ .cell) (dot : scope.names.lookup (".0" : Str) = some NameKind.local)
    (hi : PI X tg iter wi) (pg : ∀ it s H C code fp, PG (cxB X X.A.in4 elt tg iter ifs scope gpos it s H C code fp) tg gT) (pt : ∀ it s H C code fp, PTs (cxB X X.A.in4 elt tg iter ifs scope gpos it s H C code fp) ifs tt) (pe : ∀ it s H C c' Q' fp, Room k (cxB X X.A.in4 elt tg iter ifs scope gpos it s H C (.ref c') fp).A → CdT H c' Q' → PE (cxB X X.A.in4 elt tg iter ifs scope gpos it s H C (.ref c') fp) elt (te c' Q'))
    (hs : ∀ v, genFold iter X.env v = pure v := by intro _; rfl)
    (he : starEach [.GeneratorExp elt [⟨tg, iter, ifs, 0⟩] scope gpos] X.env = (false, eval (.GeneratorExp elt [⟨tg, iter, ifs, 0⟩] scope gpos) X.env) :: starEach [] X.env := by rfl) (hpl : (backTo pos (starEach [] X.env)).any (·.1) = false := by rfl) :
    PE X (.Call (.Name "tuple" p) [.GeneratorExp elt [⟨tg, iter, ifs, 0⟩] scope gpos] [] pos) (tTupG2 P wi gT tt te (own.map (·.2))) := by
  refine ⟨fun pins s σ H Q I h => ?_⟩
  refine wpAny_Call_Name_kw (ld_blt I hg hm hb ?_)
  refine PyProof.Rows.callWith_type1 ?_ he hpl
  rw [he]
  show wpAny _ _ (spliced ((false, eval (.GeneratorExp elt [⟨tg, iter, ifs, 0⟩] scope gpos) X.env) :: backTo pos (starEach [] X.env))) _ _ s
  refine Calls.spliced_cons (gen_core nod (by have := hr.dp; omega) TB hcode co ok ncell dot hi hs I h (fun _ s1 H1 I _ => hcd _ _ H1 s1 I) fun J H1 H2 it fp tn a og g code s3 s5 hR hT M => ?_)
  obtain ⟨c', Q', rfl, hcc, hQQ⟩ := M.cdt
  obtain ⟨W, ⟨m0, w0⟩, turn⟩ := hR H2 c' Q' hT hcc hQQ
  refine Calls.spliced_nil ?_
  have GF := fun s6 (L : Laid s5 s6) => fresh_gxS (gpos := gpos) (iter := iter) (A0 := X.A.in4) (Go := fun _ => True) (Gv := fun _ => True) (Qe := fun ys H => ys.length ≤ sizeLine ∧ ∀ p, H p = none → Q (.ref p) (upd H p (.tup ys))) (Ym := fun ys y H => ys.length < sizeLine) hc rfl hr.hd co M L (pg it s3 H2 s3.heap.objs.size (.ref c') fp) (pt it s3 H2 s3.heap.objs.size (.ref c') fp) (pe it s3 H2 s3.heap.objs.size c' Q' fp (over_room4 hr) hcc) (fun _ _ _ _ => trivial) (W := W) w0 turn
  have GI := M.ginv (X.A.in4.over (gLoop elt tg iter ifs scope gpos (.ref it) (gEnv X scope s3.heap.objs.size (.ref c'))) []) (over_frames (show X.A.in4.frames = _ from M.inv.ok.frames)) hr.hd
  refine call_tuple_gx (g := g) hr.hd (by have := hr.dp; omega) (fun s0 s1 v _ _ hE => ?_) M.is GI.nolimit (fun s0 v s1 hE => ?_) _ GF (fun s0 s1 hW => ?_) (fun s0 s1 s2 acc c hW sl e => ?_)
  · obtain ⟨gz, y, ys, pl, σ', H', ⟨acc, c, hv, rfl⟩, r, IG, _⟩ := hE
    obtain ⟨nm, qn, c1, c2, c3⟩ := M.isO
    exact ⟨⟨og, nm, qn, (IG.pin (a, og) (List.mem_append_right _ (List.mem_cons_of_mem _ List.mem_cons_self))).1, c1, c2, c3⟩, IG.nolimit, gz⟩
  · obtain ⟨_, y, ys, pl, σ', H', ⟨acc, c, hv, rfl⟩, r, IG, q⟩ := hE
    exact ⟨acc, c, (IG.pin (_, lstO acc c) (List.mem_append_right _ List.mem_cons_self)).1, by have := hv.length; simp only [Array.length_toList] at this; omega⟩
  · obtain ⟨ys, pl, H', ⟨acc, c, hv, rfl⟩, IG, q⟩ := hW
    exact ⟨acc, c, (IG.pin (_, lstO acc c) (List.mem_append_right _ List.mem_cons_self)).1, by have := hv.length; have := q.1; simp only [Array.length_toList] at *; omega⟩
  · obtain ⟨ys, pl, H', ⟨acc', c', hv, rfl⟩, IG, q⟩ := hW
    have e1 := (IG.pin (_, lstO acc' c') (List.mem_append_right _ List.mem_cons_self)).1
    have e2 : lstO acc c = lstO acc' c' := Option.some.inj (e.symm.trans e1)
    have e3 : acc = acc' := by
      have z : (lstO acc c).data = (lstO acc' c').data := by rw [e2]
      injection z
    subst e3
    have I2 := back_gxP M IG sl
    have hf : H' s2.heap.objs.size = none := I2.hok.fresh (Nat.le_refl _)
    refine ⟨.ref s2.heap.objs.size, upd H' s2.heap.objs.size (.tup ys), I2.laid (t' := s2.toks) (fun b u e => Heap.get?_push_of_some _ e) (Nat.le_refl _) ?_, rfl, q.2 _ hf⟩
    exact ⟨q.1, acc.toList, hv, ⟨_, Heap.get?_push_size _ rfl, rfl, 0, by first | rfl | simp [Array.toArray_toList] | exact ⟨_, rfl⟩⟩⟩
end GX
namespace Dd
open PySem L2
mutual
theorem Rep.tb {G G' : Gx} {Z H : Hp} (hK : G.K = G'.K) (hc : G.cn = G'.cn) : ∀ {d : D} {v : V} {F : List Addr}, Rep G Z H d v F → Rep G' Z H d v F
  | .non, _, _, h => h
  | .bl _, _, _, h => h
  | .int _, _, _, h => h
  | .str _, _, _, h => h
  | .box own k ds, v, F, h => by
    obtain ⟨a, vs, F', hv, hl, h1, h2⟩ := h
    refine ⟨a, vs, F', hv, RepL.tb hK hc hl, fun q => ?_, fun q => ?_⟩
    · obtain ⟨p1, p2, p3⟩ := h1 q
      refine ⟨p1, ?_, p3⟩
      cases k <;> simp only [Holds, ← hK, ← hc] at p2 ⊢ <;> exact p2
    · obtain ⟨p1, o, p2, p3⟩ := h2 q
      refine ⟨p1, o, p2, ?_⟩
      cases k <;> simp only [HoIs, ← hc] at p3 ⊢ <;> exact p3
theorem RepL.tb {G G' : Gx} {Z H : Hp} (hK : G.K = G'.K) (hc : G.cn = G'.cn) : ∀ {ds : List D} {vs : List V} {F : List Addr}, RepL G Z H ds vs F → RepL G' Z H ds vs F
  | [], _, _, h => h
  | d :: ds, vs, F, h => by
    obtain ⟨v, vs', F1, F2, e1, e2, h1, h2⟩ := h
    exact ⟨v, vs', F1, F2, e1, e2, Rep.tb hK hc h1, RepL.tb hK hc h2⟩
end
theorem RepS.tb {G G' : Gx} {Z H : Hp} (hK : G.K = G'.K) (hc : G.cn = G'.cn) : ∀ {ρ : Env} {σ : L2.St} {F : List Addr}, RepS G Z H ρ σ F → RepS G' Z H ρ σ F
  | [], _, _, h => h
  | none :: ρ, σ, F, h => by
    obtain ⟨x, σ', e1, h1⟩ := h
    exact ⟨x, σ', e1, RepS.tb hK hc h1⟩
  | some d :: ρ, σ, F, h => by
    obtain ⟨v, σ', F1, F2, e1, e2, h1, h2⟩ := h
    exact ⟨v, σ', F1, F2, e1, e2, Rep.tb hK hc h1, RepS.tb hK hc h2⟩
/-- with one table more -/
abbrev gQ (G : Gx) (Q : Addr) : Gx := { G with tb := Q :: G.tb }
abbrev cQ (c : Cc) (Q : Addr) : Cc := { c with G := gQ c.G Q }
theorem State.addQ {G : Gx} {lk : List (Nat × V)} {Z H : Hp} {σ : L2.St} {ρ : Env} {F : List Addr} {Q : Addr} (S : State G lk Z H σ ρ F) (t : TBx.Tb H Q) : State (gQ G Q) lk Z H σ ρ F := by
  refine ⟨S.zh, RepS.tb (G := G) (G' := gQ G Q) rfl rfl S.rs, S.nd, S.fz, S.lk, ⟨fun P hP => ?_, S.tb.2⟩⟩
  rcases List.mem_cons.mp hP with rfl | hP
  · refine ⟨t, ?_⟩
    cases z : Z P with
    | none => rfl
    | some o =>
      obtain ⟨ps, e⟩ := t.ps
      rw [S.zh P o z] at e
      cases e
      exact absurd z (S.tb.2.2 P ps)
  · exact S.tb.1 P hP
theorem State.dropQ {G : Gx} {lk : List (Nat × V)} {Z H : Hp} {σ : L2.St} {ρ : Env} {F : List Addr} {Q : Addr} (S : State (gQ G Q) lk Z H σ ρ F) : State G lk Z H σ ρ F :=
  ⟨S.zh, RepS.tb (G := gQ G Q) (G' := G) rfl rfl S.rs, S.nd, S.fz, S.lk, ⟨fun P hP => S.tb.1 P (List.mem_cons_of_mem _ hP), S.tb.2⟩⟩
theorem PostE.dropQ {c : Cc} {Z H Z' H' : Hp} {σ : L2.St} {ρ ρ' : Env} {F F' : List Addr} {eff : Bool} {Q : Addr} (P : PostE (cQ c Q).in Z H σ ρ F eff ρ' Z' H' F') : PostE c.in Z H σ ρ F eff ρ' Z' H' F' := ⟨P.st, State.dropQ P.sta, P.qui⟩
section
variable {c : Cc} {Z H : Hp} {σ : L2.St}
theorem tg_imp2 {P : Addr} {it : DI} {t : Tg} {test : DT} {elt : DE} {vs : List Nat} {g : TG} {Q : VK} (hP : P ∈ c.G.tb) (hg : TgOk c.G c.lk g t) (hin : TgIn g t vs) (hl : ∀ v ∈ vs, lkOk c.lk v = true) (w : tE c (dTg it t test elt vs) σ H Q) :
    GX.tTupG2 P (tI c it) g (tT c.in test) (fun _ Qt => tE (cQ c Qt).in elt) vs σ H Q := by
  obtain ⟨Z, ρ, F, S, w⟩ := w
  generalize hr : dTg it t test elt vs ρ = r at w
  unfold dTg at hr
  show tI c it σ H _
  split at hr
  · rename_i f ds eff ρ1 ha
    refine ⟨Z, ρ, F, S, ?_⟩
    rw [ha]
    intro Z1 H1 F1 Gk J P1 fk dk io
    refine ⟨(P1.sta.tb.1 P hP).1, fun H1' c' Qt tbd hcd tbQ => ?_⟩
    split at hr
    · rename_i f2 acc eff2 ρ2 hlc
      rcases Decidable.em (acc.length ≤ 1000000) with hacc | hacc
      rotate_left
      · rw [if_neg hacc] at hr
        subst hr
        exact w.elim
      rw [if_pos hacc] at hr
      subst hr
      have n0 := New.grw P1.sta.zh P1.sta.tb.2.2 tbd
      obtain ⟨Fw, Sw, subw⟩ := P1.sta.wipe hl
      let W : Nat → Nat → List V → Hp → Prop := fun i m accv H2 => m = ds.length - i ∧ i ≤ ds.length ∧ TBx.Tb H2 Qt ∧ ∃ Z2 ρi F2 acci Ga effi, State c.G c.lk Z2 H2 (wipe σ vs) ρi F2 ∧ Step Z1 H1 F1 Z2 H2 F2 ∧
        RepL c.G Z2 H2 acci accv Ga ∧ Fresh H1 F1 Z2 F2 Ga ∧ (effi = false → ρi = wipeE ρ1 vs ∧ New Z1 H1 Z2 H2 ∧ ∀ a ∈ Ga, a ∉ F1) ∧ lcLoop t test elt vs (ds.drop i) acci effi ρi = .ok f2 acc eff2 ρ2 ∧ (∀ (i : Nat) (d : D), ρi[i]? = some (some d) → i ∉ vs)
      refine ⟨W, ⟨ds.length, rfl, Nat.zero_le _, tbQ, Z1, wipeE ρ1 vs, Fw, [], [], false, Sw.new n0, (n0.step (F := F1)).sub fun a ha => .inl (subw.subset ha), ⟨rfl, rfl⟩, Fresh.nil, fun _ => ⟨rfl, n0, by simp⟩, hlc, fun i d e => wipeE_some e⟩, ?_⟩
      rintro i m accv H2 ⟨hm, hi, tq, Z2, ρi, F2, acci, Ga, effi, S2, st2, ra, fa, qa, hloop, hw⟩
      have kept : ∀ a ∈ Gk, ∀ o, H1 a = some o → (∀ ps, o ≠ .tbl ps) → H2 a = some o := fun a ha o e => st2.fr a o e (fk.nf a ha)
      by_cases hlt : i < ds.length
      · obtain ⟨go, yl⟩ := io.go Z2 H2 st2.zz S2.zh kept i _ (List.getElem?_eq_getElem hlt)
        rw [List.drop_eq_getElem_cons hlt] at hloop
        refine .inr ⟨go, fun ys H' => W (i + 1) (ds.length - (i + 1)) ys H', fun ys H' n => ⟨_, by omega, n⟩, fun x H3 hy => ?_⟩
        obtain ⟨Z3, n3, r3⟩ := yl x H3 hy S2.tb.2.1
        cases ht : t ds[i] ρi with
        | none => simp only [lcLoop, ht, reduceCtorEq] at hloop
        | some ρ3 =>
          simp only [lcLoop, ht] at hloop
          refine hin.tg x σ H3 _ ?_
          refine hg Z3 H3 _ ρi ρ3 F2 _ x _ (S2.new n3) r3 ht fun σ3 F3 S3 h3 => ?_
          intro hwσ
          have ra3 : RepL c.G Z3 H3 acci accv Ga := ra.mono n3.zz fun a _ o e => n3.hh.fr a o e
          have domA : ∀ a ∈ Ga, H2 a ≠ none := fun a h => let ⟨_, e, _⟩ := ra.dom a h; ne_none e
          have fa3 : Fresh H1 F1 Z3 F3 Ga := ⟨fa.nd, fa.nh, fun a h => (n3.nn a (domA a h)).trans (fa.nz a h), fun a h q => fa.nf a h (h3 a q)⟩
          have tq3 := n3.hh.tg Qt tq
          have nF3 : Qt ∉ F3 := fun q => by
            obtain ⟨o, e, n, _⟩ := S3.rs.dom Qt q
            obtain ⟨ps, e2⟩ := tq3.ps
            rw [e] at e2
            exact n ps (Option.some.inj e2)
          have st3 : Step Z1 H1 F1 Z3 H3 F3 := (st2.trans n3.step).sub fun a h => .inl (h3 a h)
          have dom3 : ∀ a ∈ Ga, H3 a ≠ none := fun a h => n3.dm (domA a h)
          cases htt : test ρ3 with
          | bad => simp only [htt, reduceCtorEq] at hloop
          | ex x xs ρ4 => simp only [htt, reduceCtorEq] at hloop
          | ok ft b e1 ρ4 =>
            refine tT.ok (c := c.in) S3 htt fun Z4 H4 F4 P4 => ?_
            have ra4 : RepL c.G Z4 H4 acci accv Ga := ra3.mono P4.st.zz fun a h o e => P4.st.fr a o e (fa3.nf a h)
            have fa4 : Fresh H1 F1 Z4 F4 Ga := fa3.later dom3 P4
            have dom4 : ∀ a ∈ Ga, H4 a ≠ none := fun a h => P4.st.dm a (dom3 a h)
            have st4 : Step Z1 H1 F1 Z4 H4 F4 := st3.trans P4.st
            have tq4 := P4.st.tg Qt tq3 nF3
            have quiet4 : effi = false → e1 = false → wipeE ρ4 vs = wipeE ρ1 vs ∧ New Z1 H1 Z4 H4 ∧ F4 = F3 ∧ ∀ a ∈ Ga, a ∉ F1 := fun h1 h2 => by
              obtain ⟨q1, q2, q3⟩ := qa h1
              obtain ⟨p1, p2, p3⟩ := P4.qui h2
              exact ⟨by rw [p1, hin.te _ _ _ ht, q1, wipeE_idem], (q2.trans n3).trans p3, p2, q3⟩
            cases b with
            | false =>
              rw [if_neg Bool.false_ne_true]
              simp only [htt] at hloop
              obtain ⟨F5, S5, sub5⟩ := P4.sta.wipe (vs := vs) hl
              rw [hwσ] at S5
              exact ⟨rfl, hlt, tq4, Z4, wipeE ρ4 vs, F5, acci, Ga, (effi || e1), S5, st4.sub fun a h => .inl (sub5.subset h), ra4, ⟨fa4.nd, fa4.nh, fa4.nz, fun a h q => fa4.nf a h (sub5.subset q)⟩, fun h => by
                rw [Bool.or_eq_false_iff] at h
                obtain ⟨q1, q2, _, q3⟩ := quiet4 h.1 h.2
                exact ⟨q1, q2, q3⟩, hloop, fun i d e => wipeE_some e⟩
            | true =>
              rw [if_pos rfl]
              simp only [htt] at hloop
              cases he : elt ρ4 with
              | bad => simp only [he, reduceCtorEq] at hloop
              | ex x xs ρ5 => simp only [he, reduceCtorEq] at hloop
              | ok fe x e2 ρ5 =>
                simp only [he] at hloop
                by_cases hk : (fe || frz x) = true
                · rw [if_pos hk] at hloop
                  by_cases hlen : acci.length < 1000000
                  · rw [if_pos hlen] at hloop
                    refine tE.ok (c := (cQ c Qt).in) (State.addQ P4.sta tq4) he fun Z5 H5 F5 y G5 P5q R5q f5h => ?_
                    have P5 : PostE c.in Z4 H4 σ3 ρ4 F4 e2 ρ5 Z5 H5 F5 := PostE.dropQ P5q
                    have R5 : Rep c.G Z5 H5 x y G5 := Rep.tb (G := (cQ c Qt).in.G) (G' := c.G) rfl rfl R5q
                    have tq5 : TBx.Tb H5 Qt := (P5q.sta.tb.1 Qt List.mem_cons_self).1
                    have fr5 := fresh_or hk R5 f5h
                    have ra5 : RepL c.G Z5 H5 acci accv Ga := ra4.mono P5.st.zz fun a h o e => P5.st.fr a o e (fa4.nf a h)
                    have fa5 : Fresh H1 F1 Z5 F5 Ga := fa4.later dom4 P5
                    have st5 : Step Z1 H1 F1 Z5 H5 F5 := st4.trans P5.st
                    have disj : ∀ a ∈ Ga, a ∉ G5 := fun a h q => (fr5.nh a q).elim (fa4.nf a h) (dom4 a h)
                    refine ⟨by rw [← ra5.length]; exact big_lt hlen, fun _ => ?_⟩
                    obtain ⟨F6, S6, sub6⟩ := P5.sta.wipe (vs := vs) hl
                    rw [hwσ] at S6
                    have fr6 : Fresh H1 F1 Z5 F5 G5 := fr5.step st4
                    have fAll := fa5.append fr6 disj
                    have rAll : RepL c.G Z5 H5 (acci ++ [x]) (accv ++ [y]) (Ga ++ G5) := by
                      have r1 := (ra5.append (es := [x]) (ws := [y]) (F' := G5 ++ []) ⟨y, [], G5, [], rfl, rfl, R5, rfl, rfl⟩)
                      rw [List.append_nil] at r1
                      exact r1
                    refine ⟨rfl, hlt, tq5, Z5, wipeE ρ5 vs, F6, acci ++ [x], Ga ++ G5, (effi || e1 || e2), S6, st5.sub fun a h => .inl (sub6.subset h), rAll, ⟨fAll.nd, fAll.nh, fAll.nz, fun a h q => fAll.nf a h (sub6.subset q)⟩, fun h => ?_, hloop, fun i d e => wipeE_some e⟩
                    rw [Bool.or_eq_false_iff, Bool.or_eq_false_iff] at h
                    obtain ⟨q1, q2, q3, q4⟩ := quiet4 h.1.1 h.1.2
                    obtain ⟨p1, p2, p3⟩ := P5.qui h.2
                    refine ⟨by rw [p1, q1], q2.trans p3, fun a h q => ?_⟩
                    rcases List.mem_append.mp h with h | h
                    · exact q4 a h q
                    · rcases fr5.nh a h with h2 | h2
                      · exact fr5.nf a h (by rw [p2]; exact h2)
                      · exact (st4.dm a (P1.sta.dom q)) h2
                  · rw [if_neg hlen] at hloop
                    cases hloop
                · rw [if_neg hk] at hloop
                  cases hloop
      · have ei : i = ds.length := by omega
        subst ei
        rw [List.drop_length] at hloop
        simp only [lcLoop, Res.ok.injEq] at hloop
        obtain ⟨rfl, rfl, rfl, rfl⟩ := hloop
        refine .inl ⟨io.stop Z2 H2 st2.zz S2.zh kept, by rw [← ra.length]; exact big_le hacc, fun p hp => ?_⟩
        have n := New.fro (o := .tup accv) S2.zh hp
        have rr := rep_newT S2.zh hp ra
        have nz : ∀ a ∈ Ga, (upd Z2 p (.tup accv)) a = none := fun a h => by
          have dm : H2 a ≠ none := let ⟨_, e, _⟩ := ra.dom a h; ne_none e
          rw [n.nn a dm]
          exact fa.nz a h
        cases effi with
        | true =>
          simp only [if_true] at w
          have S4 : State c.G c.lk Z2 H2 σ ρi F2 := ⟨S2.zh, S2.rs.unwipe (wipe_length σ vs) fun j d e => (wipe_ne (hw j d e)).symm, S2.nd, S2.fz, P1.sta.lk, S2.tb⟩
          have n' := PostE.new S4 n
          refine w _ _ F2 _ _ ⟨P1.st.trans (st2.trans n'.st), n'.sta, fun q => by rw [Bool.or_true] at q; cases q⟩ rr fun _ => Fresh.earlier P1 ⟨fa.nd, fa.nh, nz, fa.nf⟩
        | false =>
          obtain ⟨q1, q2, q3⟩ := qa rfl
          simp only [Bool.false_eq_true, if_false] at w
          refine w _ _ F1 _ _ (P1.trans (PostE.new P1.sta (q2.trans n))) rr fun _ => Fresh.earlier P1 ⟨fa.nd, fa.nh, nz, q3⟩
    · subst hr; exact w.elim
  · rename_i ha
    subst hr
    exact ⟨Z, ρ, F, S, by rw [ha]; exact w⟩
  · subst hr; exact w.elim
theorem e_tupG2 {X : Cx} {cd P : Addr} {elx tg iter : Expr} {ifs : List Expr} {scope : Scope} {own : List (Str × Nat)} {p pos gpos : Pos} {it : DI} {t : Tg} {test : DT} {elt : DE} {g : TG} {k : Nat}
    (hc : X.calm = true) (nod : X.N.Nodup) (hr : Room (k + 4) X.A) (hg : Gl X "tuple") (hm : X.mg "tuple" = none) (TB : GxR.TabB X.base X.mg cd P) (hP : P ∈ c.G.tb) (hcode : X.env.code = .ref cd) (ok : BlkOk X.N X.env.scope scope own) (ncell : ∀ y ∈ scope.names, y.2 ≠ .cell)
    (hi : PI X tg iter (tI c it)) (pg : ∀ it s H C code fp, PG (GX.cxB X X.A.in4 elx tg iter ifs scope gpos it s H C code fp) tg g) (htg : TgOk c.G c.lk g t) (hin : TgIn g t (own.map (·.2))) (pt : ∀ it s H C code fp, PTs (GX.cxB X X.A.in4 elx tg iter ifs scope gpos it s H C code fp) ifs (tT c.in test))
    (pe : ∀ it s H C c' Q' fp, Room k (GX.cxB X X.A.in4 elx tg iter ifs scope gpos it s H C (.ref c') fp).A → TBx.CdT H c' Q' → PE (GX.cxB X X.A.in4 elx tg iter ifs scope gpos it s H C (.ref c') fp) elx (tE (cQ c Q').in elt)) (hl : (own.map (·.2)).all (lkOk c.lk) = true := by rfl)
    (co : scope.isCoroutine = false := by rfl) (dot : scope.names.lookup (".0" : Str) = some NameKind.local := by rfl) (hs : ∀ v, genFold iter X.env v = pure v := by intro _; rfl)
    (he : starEach [.GeneratorExp elx [⟨tg, iter, ifs, 0⟩] scope gpos] X.env = (false, eval (.GeneratorExp elx [⟨tg, iter, ifs, 0⟩] scope gpos) X.env) :: starEach [] X.env := by rfl) (hpl : (backTo pos (starEach [] X.env)).any (·.1) = false := by rfl) :
    PE X (.Call (.Name "tuple" p) [.GeneratorExp elx [⟨tg, iter, ifs, 0⟩] scope gpos] [] pos) (tE c (dTg it t test elt (own.map (·.2)))) :=
  (GX.pe_tupleG2 hc nod hr hg hm bb_tuple TB (fun _ _ _ _ I => TB.code.keeps fun b u e => I.bk b u e) hcode co ok ncell dot hi pg pt pe hs he hpl).imp fun σ H Q w => tg_imp2 hP htg hin (List.all_eq_true.mp hl) w
/-- the inner one: its code object's table hangs on the outer one's -/
theorem e_tupGI {X : Cx} {c0 P0 cd P : Addr} {elx tg iter : Expr} {ifs : List Expr} {scope : Scope} {own : List (Str × Nat)} {p pos gpos : Pos} {it : DI} {t : Tg} {test : DT} {elt : DE} {g : TG} {k : Nat}
    (hc : X.calm = true) (nod : X.N.Nodup) (hr : Room (k + 4) X.A) (hg : Gl X "tuple") (hm : X.mg "tuple" = none) (TB : GxR.TabB X.base X.mg c0 P0) (hP : P ∈ c.G.tb) (hcT : TBx.CdT X.H_0 cd P) (hcode : X.env.code = .ref cd) (ok : BlkOk X.N X.env.scope scope own) (ncell : ∀ y ∈ scope.names, y.2 ≠ .cell)
    (hi : PI X tg iter (tI c it)) (pg : ∀ it s H C code fp, PG (GX.cxB X X.A.in4 elx tg iter ifs scope gpos it s H C code fp) tg g) (htg : TgOk c.G c.lk g t) (hin : TgIn g t (own.map (·.2))) (pt : ∀ it s H C code fp, PTs (GX.cxB X X.A.in4 elx tg iter ifs scope gpos it s H C code fp) ifs (tT c.in test))
    (pe : ∀ it s H C code fp, Room k (GX.cxB X X.A.in4 elx tg iter ifs scope gpos it s H C code fp).A → PE (GX.cxB X X.A.in4 elx tg iter ifs scope gpos it s H C code fp) elx (tE c.in elt)) (hl : (own.map (·.2)).all (lkOk c.lk) = true := by rfl)
    (co : scope.isCoroutine = false := by rfl) (dot : scope.names.lookup (".0" : Str) = some NameKind.local := by rfl) (hs : ∀ v, genFold iter X.env v = pure v := by intro _; rfl)
    (he : starEach [.GeneratorExp elx [⟨tg, iter, ifs, 0⟩] scope gpos] X.env = (false, eval (.GeneratorExp elx [⟨tg, iter, ifs, 0⟩] scope gpos) X.env) :: starEach [] X.env := by rfl) (hpl : (backTo pos (starEach [] X.env)).any (·.1) = false := by rfl) :
    PE X (.Call (.Name "tuple" p) [.GeneratorExp elx [⟨tg, iter, ifs, 0⟩] scope gpos] [] pos) (tE c (dTg it t test elt (own.map (·.2)))) :=
  (GX.pe_tupleG2 (te := fun _ _ => tE c.in elt) hc nod hr hg hm bb_tuple TB (fun _ _ H1 s1 I => by
    obtain ⟨ob, e⟩ := hcT
    exact (I.hok cd _ (I.base.frzs cd _ _ e)).2.1) hcode co ok ncell dot hi pg pt (fun it s H C c' Q' fp rm _ => pe it s H C (.ref c') fp rm) hs he hpl).imp fun σ H Q w => by
    have z := tg_imp hP htg hin (List.all_eq_true.mp hl) w
    obtain ⟨Z, ρ, F, S, z⟩ := z
    refine ⟨Z, ρ, F, S, ?_⟩
    cases hm : it ρ with
    | bad => rw [hm] at z; exact z
    | ex x xs ρ1 => rw [hm] at z; exact z
    | ok f ds e ρ1 =>
      rw [hm] at z
      intro Z1 H1 F1 Gk J P1 fk dk io
      obtain ⟨z1, z2⟩ := z Z1 H1 F1 Gk J P1 fk dk io
      exact ⟨z1, fun H2 c' Q' hG _ _ => z2 H2 hG⟩
/-- what needs no table of the inner one -/
theorem e_addQ {X : Cx} {e : Expr} {m : DE} {Q : Addr} (h : PE X e (tE c.in m)) : PE X e (tE (cQ c Q).in m) := h.imp fun σ H K w => by
  obtain ⟨Z, ρ, F, S, w⟩ := w
  have tq : TBx.Tb H Q := (S.tb.1 Q List.mem_cons_self).1
  have nF : Q ∉ F := fun q => by
    obtain ⟨o, e, n, _⟩ := S.rs.dom Q q
    obtain ⟨ps, e2⟩ := tq.ps
    rw [e] at e2
    exact n ps (Option.some.inj e2)
  refine ⟨Z, ρ, F, State.dropQ S, ?_⟩
  cases hm : m ρ with
  | bad => rw [hm] at w; exact w
  | ex x xs ρ1 =>
    rw [hm] at w
    exact fun Z' H' F' st S' => w Z' H' F' st (State.addQ S' (st.tg Q tq nF))
  | ok f d eff ρ1 =>
    rw [hm] at w
    intro Z' H' F' v Gf P r fr
    exact w Z' H' F' v Gf ⟨P.st, State.addQ P.sta (P.st.tg Q tq nF), P.qui⟩ (Rep.tb (G := c.in.G) (G' := (cQ c Q).in.G) rfl rfl r) fr
end
end Dd
/-! while; reversed(x); tuple * int. -/
namespace Dd
open PySem L2 RT
section
variable {c : Cc} {t : DT} {body : DS}
theorem wh_imp {fuel : Env → Nat} {D : Ends} {σ : L2.St} {H : Hp} (w : tS c (dWhile fuel t body) D σ H) : tWhile (tT c t) (tS c body) D σ H := by
  obtain ⟨Z, ρ, F, S, w⟩ := w
  let W : Nat → L2.St → Hp → Prop := fun m σ2 H2 => ∃ Z2 ρ2 F2, State c.G c.lk Z2 H2 σ2 ρ2 F2 ∧ SOut c Z2 H2 F2 D (whLoop t body m ρ2)
  refine ⟨W, ⟨fuel ρ, Z, ρ, F, S, w⟩, ?_⟩
  rintro m σ2 H2 ⟨Z2, ρ2, F2, S2, w2⟩
  cases m with
  | zero => exact w2.elim
  | succ n =>
    cases ht : t ρ2 with
    | bad => simp only [whLoop, ht, SOut] at w2
    | ex x xs ρ3 =>
      simp only [whLoop, ht] at w2
      exact tT.ex S2 ht fun Z' H' F' => w2 Z' H' F' σ2
    | ok f b e ρ3 =>
      simp only [whLoop, ht] at w2
      refine tT.ok S2 ht fun Z3 H3 F3 P3 => ?_
      cases b with
      | false =>
        rw [if_neg Bool.false_ne_true]
        exact w2 Z3 H3 F3 σ2 P3.st P3.sta
      | true =>
        rw [if_pos rfl]
        refine ⟨fun σ' H' => W n σ' H', fun σ' H' h => ⟨n, Nat.lt_succ_self _, h⟩, Z3, ρ3, F3, P3.sta, ?_⟩
        cases hb : body ρ3 with
        | nx ρ4 => simp only [hb] at w2; exact fun Z' H' F' σ' s S' => ⟨Z', ρ4, F', S', w2.trans (P3.st.trans s)⟩
        | ct ρ4 => simp only [hb] at w2; exact fun Z' H' F' σ' s S' => ⟨Z', ρ4, F', S', w2.trans (P3.st.trans s)⟩
        | bk ρ4 => simp only [hb] at w2; exact w2.trans P3.st
        | rt d ρ4 => simp only [hb] at w2; exact w2.trans P3.st
        | ex x xs ρ4 => simp only [hb] at w2; exact w2.trans P3.st
        | bad => simp only [hb] at w2; exact w2
theorem s_while {X : Cx} {e : Expr} {bs : List Stmt} {pos : Pos} (fuel : Env → Nat) (hp : PassesOwn (model X.prog X.w) X.A X.env X.xe) (ht : PT X e (tT c t)) (hb : PSs X bs (tS c body)) : PS X (.While e bs [] pos) (tS c (dWhile fuel t body)) := (ps_while hp ht hb).imp fun _ _ _ w => wh_imp w
end
/-! reversed(x), x with frozen items -/
def dRevI (m : DE) : DI := fun ρ => match dItems m ρ with
  | .ok f ds e ρ1 => .ok f ds.reverse e ρ1
  | .ex c xs ρ1 => .ex c xs ρ1
  | .bad => .bad
section
variable {G : Gx} {Z H : Hp}
theorem rev_at {ds : List D} {i : Nat} {d : D} (h : ds.reverse[i]? = some d) : i < ds.length ∧ ds[ds.length - 1 - i]? = some d := by
  have hi : i < ds.length := by
    rcases Nat.lt_or_ge i ds.length with h1 | h1
    · exact h1
    · rw [List.getElem?_eq_none (by rw [List.length_reverse]; exact h1)] at h
      cases h
  rw [List.getElem?_reverse hi] at h
  exact ⟨hi, h⟩
theorem it_revL {a : Addr} {vs : List V} {ds : List D} {Gk : List Addr} (zh : Ex Z H) (h : SqL G.K Z a vs ∨ (a ∈ Gk ∧ H a = some (.lst vs))) (r : RepL G Z H ds vs []) : IterOk G (Itv G.K a vs.length) Z H ds.reverse Gk := by
  have sq : ∀ Z2 H2, Ex Z Z2 → Ex Z2 H2 → (∀ a ∈ Gk, ∀ o, H a = some o → (∀ ps, o ≠ .tbl ps) → H2 a = some o) → SqL G.K H2 a vs := fun Z2 H2 e1 e2 k => by
    rcases h with h | ⟨h1, h2⟩
    · exact ex_l e2 (ex_l e1 h)
    · exact SqL.of (k a h1 _ h2 (fun _ z => nomatch z))
  refine ⟨fun Z2 H2 e1 e2 k i d hd => ?_, fun Z2 H2 e1 e2 k => by
    show vs.length ≤ ds.reverse.length
    rw [List.length_reverse, r.length]
    exact Nat.le_refl _⟩
  obtain ⟨hi, hd⟩ := rev_at hd
  obtain ⟨v, A, F1, B, g1, g2, g3⟩ := r.get hd
  have hs := sq Z2 H2 e1 e2 k
  rw [r.length] at g1 hi
  refine ⟨⟨hi, vs, v, hs, g1⟩, fun x H3 hy _ => ?_⟩
  obtain ⟨rfl, hx⟩ := hy
  have ev : v = x := Option.some.inj (g1.symm.trans (hx vs hs))
  subst ev
  obtain ⟨h1, rfl⟩ := List.append_eq_nil_iff.mp g2.symm
  obtain ⟨rfl, rfl⟩ := List.append_eq_nil_iff.mp h1
  exact ⟨Z2, New.refl e2, g3.mono e1 fun a ha => by cases ha⟩
theorem it_revT {a : Addr} {vs : List V} {ds : List D} {Gk : List Addr} (zh : Ex Z H) (h : SqT G.K Z a vs) (r : RepL G Z H ds vs []) : IterOk G (ItvT G.K a vs.length) Z H ds.reverse Gk := by
  refine ⟨fun Z2 H2 e1 e2 k i d hd => ?_, fun Z2 H2 e1 e2 k => by
    show vs.length ≤ ds.reverse.length
    rw [List.length_reverse, r.length]
    exact Nat.le_refl _⟩
  obtain ⟨hi, hd⟩ := rev_at hd
  obtain ⟨v, A, F1, B, g1, g2, g3⟩ := r.get hd
  have hs := ex_t e2 (ex_t e1 h)
  rw [r.length] at g1 hi
  refine ⟨⟨hi, vs, v, hs, g1⟩, fun x H3 hy _ => ?_⟩
  obtain ⟨rfl, hx⟩ := hy
  have ev : v = x := Option.some.inj (g1.symm.trans (hx vs hs))
  subst ev
  obtain ⟨h1, rfl⟩ := List.append_eq_nil_iff.mp g2.symm
  obtain ⟨rfl, rfl⟩ := List.append_eq_nil_iff.mp h1
  exact ⟨Z2, New.refl e2, g3.mono e1 fun a ha => by cases ha⟩
end
section
variable {c : Cc} {X : Cx} {tg e : Expr} {m : DE} {p pos : Pos}
theorem i_rev (hg : Gl X "reversed") (hm : X.mg "reversed" = none) (h : PE X e (tE c m)) (hs : starEach [e] X.env = (false, eval e X.env) :: starEach [] X.env := by rfl) (hK : X.K = c.G.K := by rfl) : PI X tg (.Call (.Name "reversed" p) [e] [] pos) (tI c (dRevI m)) := (pi_revA hg hm h hs).imp fun σ H R w => by
  rw [hK]
  obtain ⟨Z, ρ, F, S, w⟩ := w
  show tE c m σ H _
  generalize hr : dRevI m ρ = r at w
  unfold dRevI dItems at hr
  cases ha : m ρ with
  | bad => simp only [ha] at hr; subst hr; exact w.elim
  | ex x xs ρ1 =>
    simp only [ha] at hr
    subst hr
    exact tE.ex S ha w
  | ok f x eff ρ1 =>
    simp only [ha] at hr
    refine tE.ok S ha fun Z1 H1 F1 v G1 P1 R1 f1h => ?_
    cases x with
    | box own k ds =>
      cases k with
      | lst =>
        simp only at hr
        by_cases hk : ((f || !own) && frzL ds) = true
        · rw [if_pos hk] at hr
          subst hr
          rw [Bool.and_eq_true] at hk
          obtain ⟨a, vs, F', rfl, hs, hl, ho, hz, hF⟩ := rep_lst P1.sta.zh R1
          have e0 := hl.frz_nil hk.2
          subst e0
          refine ⟨a, vs, rfl, .inl ⟨hs, ?_⟩⟩
          cases own with
          | false =>
            obtain ⟨rfl, _, hz⟩ := hz rfl
            exact w Z1 H1 F1 [] _ P1 Fresh.nil (by simp) (it_revL P1.sta.zh (.inl hz) hl)
          | true =>
            have hF := hF rfl
            subst hF
            have hf : f = true := by simpa using hk.1
            exact w Z1 H1 F1 [a] _ P1 (f1h hf) (fun b hb => by rw [List.mem_singleton.mp hb, ho rfl]; exact Option.some_ne_none _) (it_revL P1.sta.zh (.inr ⟨List.mem_singleton_self a, ho rfl⟩) hl)
        · rw [if_neg hk] at hr
          subst hr
          exact w.elim
      | tup =>
        simp only at hr
        by_cases hk : frzL ds = true
        · rw [if_pos hk] at hr
          subst hr
          obtain ⟨_, a, vs, rfl, ht, hl⟩ := rep_tup P1.sta.zh R1
          have e0 := hl.frz_nil hk
          subst e0
          exact ⟨a, vs, rfl, .inr ⟨ex_t P1.sta.zh ht, w Z1 H1 F1 [] _ P1 Fresh.nil (by simp) (it_revT P1.sta.zh ht hl)⟩⟩
        · rw [if_neg hk] at hr
          subst hr
          exact w.elim
      | _ => simp only at hr; subst hr; exact w.elim
    | _ => simp only at hr; subst hr; exact w.elim
end
/-! tuple * int -/
section
open PySem.Spec PyProof.Rows
theorem tuple_mul1 (l : Addr) (items : Array Value) (n : Nat) (dd : Option Addr) (sl : Array (Option Value)) (u : Tok) :
    Meets (Builtin.«tuple.__mul__» ⟨[.ref l, .int 1 u], []⟩) (fun _ R s => s.heap.get? l = some { cls := .type "tuple", dict := dd, data := .seq items n, slots := sl } ∧ R (.ok (.ret (Value.ref l))) s) :=
  .of_wp fun prog w A R s h => by
    obtain ⟨hp, g, d, tk, os⟩ := s
    obtain ⟨hl, h⟩ := h
    have f1 := AutoSeq1.idx_int
    have c0 : (decide ((1 : Int) < -(2 ^ 63)) || decide ((1 : Int) ≥ 2 ^ 63)) = false := by decide
    have c1 : (items.isEmpty || (1 : Int) == 1) = true := by simp
    wp_walk using wpAny_loadPart' hl
    exact ⟨_, rfl, h⟩
theorem tuple_mul0 (l : Addr) (items : Array Value) (n : Nat) (dd : Option Addr) (sl : Array (Option Value)) (x : Int) (u : Tok) (c0 : (decide (x < -(2 ^ 63)) || decide (x ≥ 2 ^ 63)) = false) (c1 : (items.isEmpty || x == 1) = false) (c2 : (decide (x ≤ 0) || items.isEmpty) = true) :
    Meets (Builtin.«tuple.__mul__» ⟨[.ref l, .int x u], []⟩) (fun _ R s => s.heap.get? l = some { cls := .type "tuple", dict := dd, data := .seq items n, slots := sl } ∧
      R (.ok (.ret (Value.ref s.heap.objs.size))) { s with heap := s.heap.push { cls := Value.type "tuple", data := Data.seq #[] }, toks := s.toks }) :=
  .of_wp fun prog w A R s h => by
    obtain ⟨hp, g, d, tk, os⟩ := s
    obtain ⟨hl, h⟩ := h
    have f1 := AutoSeq1.idx_int
    wp_walk using wpAny_loadPart' hl
    repeat (first
      | (refine wpAny_ite_false (decide_eq_false (by rw [c0]; exact Bool.false_ne_true)) ?_; wp_walk using wpAny_loadPart' hl)
      | (refine wpAny_ite_false (decide_eq_false (by rw [c1]; exact Bool.false_ne_true)) ?_; wp_walk using wpAny_loadPart' hl)
      | (refine wpAny_ite_true (decide_eq_true c2) ?_; wp_walk using wpAny_loadPart' hl))
    exact ⟨_, rfl, h⟩
def rRep01 (K : PySem.W.Frag) : R2 := fun x y H Q => ∃ l k xs, x = .ref l ∧ y = .int k ∧ SqT K H l xs ∧ xs ≠ [] ∧ -(2 ^ 62) ≤ k ∧ k ≤ 1 ∧ (k = 1 → Q (.ref l) H) ∧ (k ≤ 0 → ∀ p, H p = none → Q (.ref p) (upd H p (.tup [])))
theorem op_rep01 {X : Cx} : OpR X (binaryOp .Mult) (rRep01 X.K) := by
  intro pins s σ H x y v u Q I rx ry h
  obtain ⟨l, k, xs, rfl, rfl, hT, hne, h1, h2, q1, q0⟩ := h
  cases rx
  obtain ⟨t, rfl⟩ := ry
  obtain ⟨its, r, ⟨⟨cls, dd, data, sl⟩, ho, hc, n, hd⟩, hs⟩ := I.tuple hT
  simp only at hc hd
  subst hc hd
  have hn : its ≠ [] := fun e => hne (by
    have hle := r.length
    rw [e] at hle
    exact List.eq_nil_of_length_eq_zero hle)
  have hi : its.toArray.isEmpty = false := by
    cases its with
    | nil => exact absurd rfl hn
    | cons a b => rfl
  by_cases hk : k = 1
  · subst hk
    exact wpAny_binaryOp_repeat_ref (T := "tuple") (U := "int") (by decide) ⟨_, ho, rfl⟩ (fun s' => typeIs_int s' 1 t) noFill_tuple_mul F.fills_int_mul F.slot_int_rmul repeat_tuple F.slot_int_index.lookup
      (call_meets F.slot_int_rmul (typeIs_int s 1 t) F.entry_int_rmul (F.args_int_rmul_2 _ _) (int_rmul_tuple 1 t l its.toArray n dd sl)
        ⟨ho, rfl, ⟨_, ho, rfl⟩, call_meets F.slot_tuple_mul ⟨_, ho, rfl⟩ F.entry_tuple_mul (F.args_tuple_mul_2 _ _) (tuple_mul1 l its.toArray n dd sl t) ⟨ho, .ref l, H, I, rfl, q1 rfl⟩⟩)
  · have c0 : (decide (k < -(2 ^ 63)) || decide (k ≥ 2 ^ 63)) = false := by
      rw [decide_eq_false (by omega), decide_eq_false (by omega)] <;> rfl
    have c1 : (its.toArray.isEmpty || k == 1) = false := by
      rw [hi, Bool.false_or]
      exact beq_eq_false_iff_ne.mpr hk
    have c2 : (decide (k ≤ 0) || its.toArray.isEmpty) = true := by
      rw [decide_eq_true (by omega)] <;> rfl
    refine wpAny_binaryOp_repeat_ref (T := "tuple") (U := "int") (by decide) ⟨_, ho, rfl⟩ (fun s' => typeIs_int s' k t) noFill_tuple_mul F.fills_int_mul F.slot_int_rmul repeat_tuple F.slot_int_index.lookup
      (call_meets F.slot_int_rmul (typeIs_int s k t) F.entry_int_rmul (F.args_int_rmul_2 _ _) (int_rmul_tuple k t l its.toArray n dd sl)
        ⟨ho, rfl, ⟨_, ho, rfl⟩, call_meets F.slot_tuple_mul ⟨_, ho, rfl⟩ F.entry_tuple_mul (F.args_tuple_mul_2 _ _) (tuple_mul0 l its.toArray n dd sl k t c0 c1 c2) ⟨ho, ?_⟩⟩)
    refine ⟨.ref s.heap.objs.size, _, I.laid (t' := s.toks) (o := .tup []) (fun b ob q => Heap.get?_push_of_some _ q) (Nat.le_refl _) ?_, rfl, q0 (by omega) _ (I.hok.fresh (Nat.le_refl _))⟩
    exact ⟨Nat.zero_le _, [], .nil, IsTup.new _ _⟩
end
def rRep (K : PySem.W.Frag) : R2 := fun x y H Q => rRepT K x y H Q ∨ rRep01 K x y H Q
theorem x_rep {X : Cx} : OpR X (binaryOp .Mult) (rRep X.K) := fun pins s σ H x y v u Q I rx ry h => h.elim (op_repT pins s σ H x y v u Q I rx ry) (op_rep01 pins s σ H x y v u Q I rx ry)
def repD (ds : List D) (k : Int) : List D := (List.replicate k.toNat ds).flatten
def fRep : D → D → Option (Bool × D)
  | .box _ .tup ds, .int k => if frzL ds = true ∧ ds ≠ [] ∧ ds.length ≤ 1000 ∧ -(2 ^ 62) ≤ k ∧ k ≤ 1000 then some (true, .box false .tup (repD ds k)) else none
  | _, _ => none
theorem repL_rep {G : Gx} {Z H : Hp} {ds : List D} {vs : List V} (r : RepL G Z H ds vs []) : ∀ n : Nat, RepL G Z H (List.replicate n ds).flatten (List.replicate n vs).flatten []
  | 0 => ⟨rfl, rfl⟩
  | n + 1 => by
    have h := r.append (repL_rep r n)
    rw [List.replicate_succ, List.replicate_succ, List.flatten_cons, List.flatten_cons]
    exact h
theorem o_rep {G : Gx} : Op2 G (rRep G.K) fRep := by
  intro Z H x y v w F1 F2 fr z zh r1 r2 hf Q k
  cases x with
  | box own kd ds =>
    cases kd with
    | tup =>
      cases y with
      | int j =>
        simp only [fRep] at hf
        split at hf
        · rename_i hh
          obtain ⟨hz, hne, hl, g1, g2⟩ := hh
          simp only [Option.some.injEq, Prod.mk.injEq] at hf
          obtain ⟨rfl, rfl⟩ := hf
          obtain ⟨_, a, vs, rfl, ht, hr⟩ := rep_tup zh r1
          have e0 := hr.frz_nil hz
          subst e0
          have hv : vs ≠ [] := fun e => hne (List.eq_nil_of_length_eq_zero (by rw [hr.length, e] <;> rfl))
          obtain rfl : w = .int j := r2.1
          by_cases h2 : 2 ≤ j
          · refine .inl ⟨a, j, vs, rfl, rfl, ex_t zh ht, hv, h2, g2, by rw [← hr.length]; exact hl, fun p hp => ?_⟩
            exact k _ _ _ [] (New.fro zh hp) (rep_newT zh hp (repL_rep hr j.toNat)) fun _ => ⟨List.nodup_nil, by simp⟩
          · refine .inr ⟨a, j, vs, rfl, rfl, ex_t zh ht, hv, g1, by omega, fun e => ?_, fun h0 p hp => ?_⟩
            · subst e
              have e1 : repD ds 1 = ds := by simp [repD]
              rw [e1] at k
              exact k Z H (.ref a) [] (New.refl zh) ⟨a, vs, [], rfl, hr, fun _ => ⟨rfl, ht, .inl rfl⟩, fun q => nomatch q⟩ fun _ => ⟨List.nodup_nil, by simp⟩
            · have e1 : repD ds j = [] := by
                unfold repD
                rw [show j.toNat = 0 by omega]
                rfl
              rw [e1] at k
              exact k _ _ _ [] (New.fro zh hp) (rep_newT (ds := []) (vs := []) zh hp ⟨rfl, rfl⟩) fun _ => ⟨List.nodup_nil, by simp⟩
        · cases hf
      | _ => cases hf
    | _ => cases y <;> cases hf
  | _ => cases y <;> cases hf
@[simp] theorem v_rep (o : Bool) (ds : List D) (k : Int) : fRep (.box o .tup ds) (.int k) = if frzL ds = true ∧ ds ≠ [] ∧ ds.length ≤ 1000 ∧ -(2 ^ 62) ≤ k ∧ k ≤ 1000 then some (true, .box false .tup (repD ds k)) else none := rfl
@[simp] theorem v_dRevI (m : DE) (ρ : Env) : dRevI m ρ = match dItems m ρ with
  | .ok f ds e ρ1 => .ok f ds.reverse e ρ1
  | .ex c xs ρ1 => .ex c xs ρ1
  | .bad => .bad := rfl
@[simp] theorem v_dWhile (f : Env → Nat) (t : DT) (b : DS) (ρ : Env) : dWhile f t b ρ = whLoop t b (f ρ) ρ := rfl
end Dd
/-! Dicts with ints as keys that hold what they own. -/
namespace Dd
open PySem L2 PyProof.Rows
def keyI : D → Option Key
  | .int i => some (.inl i)
  | _ => none
def hasI (ks : List Key) (k : Key) : Bool := ks.any fun key => decide (key = k)
def valK {α : Type} (ks : List Key) (ds : List α) (k : Key) : Option α := ((ks.zip ds).find? fun p => decide (p.1 = k)).map (·.2)
def dicD : D → Option (List Key × List D)
  | .box _ (.dic ks) ds => some (ks, ds)
  | .box _ (.dkl ks) ds => some (ks, ds)
  | _ => none
def fKIn (nt : Bool) (y x : D) : Option (Bool × D) := (dicD x).bind fun p => (keyI y).map fun k => (true, .bl (nt != hasI p.1 k))
def fKGet (x y : D) : Option (Bool × D) := match x with
  | .box false (.dkl ks) ds => if frzL ds = true then (keyI y).bind fun k => (valK ks ds k).map fun d => (true, d) else none
  | _ => none
section
variable {G : Gx} {Z H : Hp}
theorem keyI_rep {d : D} {v : V} {F : List Addr} {k : Key} (r : Rep G Z H d v F) (h : keyI d = some k) : v = kV k := by
  cases d <;> simp only [keyI, reduceCtorEq, Option.some.injEq] at h
  subst h
  exact r.1
theorem valK_some {α : Type} : ∀ {ks : List Key} {ds : List α} {k : Key}, ks.length = ds.length → (valK ks ds k).isSome = hasI ks k
  | [], _, _, _ => by simp [valK, hasI]
  | a :: ks, [], _, h => by simp at h
  | a :: ks, d :: ds, k, h => by
    have ih := valK_some (ks := ks) (ds := ds) (k := k) (by simpa using h)
    by_cases e : a = k
    · simp [valK, hasI, e]
    · have e1 : valK (a :: ks) (d :: ds) k = valK ks ds k := by simp [valK, e]
      have e2 : hasI (a :: ks) k = hasI ks k := by simp [hasI, e]
      rw [e1, e2, ih]
theorem rep_dic {x : D} {p : List Key × List D} {v : V} {F : List Addr} (zh : Ex Z H) (r : Rep G Z H x v F) (h : dicD x = some p) : ∃ a vs F', v = .ref a ∧ RepL G Z H p.2 vs F' ∧ p.1.length = vs.length ∧ Rd H a (.dK (p.1.zip vs)) := by
  unfold dicD at h
  split at h
  · rename_i own ks ds
    obtain rfl := Option.some.inj h
    obtain ⟨a, vs, F', hv, hl, h1, h2⟩ := r
    refine ⟨a, vs, F', hv, hl, ?_⟩
    cases own with
    | false => obtain ⟨_, ⟨q1, q2⟩, _⟩ := h1 rfl; exact ⟨q1, ex_rd zh q2⟩
    | true => obtain ⟨_, o, q1, q2, rfl⟩ := h2 rfl; exact ⟨q2, .inl q1⟩
  · rename_i own ks ds
    obtain rfl := Option.some.inj h
    obtain ⟨a, vs, F', hv, hl, h1, h2⟩ := r
    refine ⟨a, vs, F', hv, hl, ?_⟩
    cases own with
    | false => obtain ⟨_, ⟨q1, o, q2⟩, _⟩ := h1 rfl; exact ⟨q1, .inr ⟨o, zh a _ q2⟩⟩
    | true => obtain ⟨_, o, q1, q2⟩ := h2 rfl; exact q2.elim
  · cases h
theorem o_kIn (nt : Bool) : Op2 G (fun y x H Q => ∃ a o, x = .ref a ∧ DGet H a y o ∧ Q (.bl (nt != o.isSome)) H) (fKIn nt) := op2_sc fun Z H y x w v F1 F2 fr z zh r1 r2 hf => by
  unfold fKIn at hf
  obtain ⟨p, h1, hf⟩ := Option.bind_eq_some_iff.mp hf
  obtain ⟨k, h2, hf⟩ := Option.map_eq_some_iff.mp hf
  simp only [Prod.mk.injEq] at hf
  obtain ⟨rfl, rfl⟩ := hf
  obtain ⟨a, vs, F', rfl, hl, hn, hd⟩ := rep_dic zh r2 h1
  refine ⟨_, rfl, fun Q q => ⟨a, _, rfl, .inl ⟨_, k, hd, keyI_rep r1 h2, rfl⟩, ?_⟩⟩
  have e : (valV (p.1.zip vs) k).isSome = hasI p.1 k := valK_some (ks := p.1) (ds := vs) hn
  rw [e]
  exact q
theorem bl_kIn {nt : Bool} : BlF (fKIn nt) := fun y x fr d hf => by
  unfold fKIn at hf
  obtain ⟨p, h1, hf⟩ := Option.bind_eq_some_iff.mp hf
  obtain ⟨k, h2, hf⟩ := Option.map_eq_some_iff.mp hf
  simp only [Prod.mk.injEq] at hf
  exact ⟨_, hf.2.symm⟩
theorem valK_at : ∀ {ks : List Key} {ds : List D} {vs : List V} {k : Key} {d : D}, RepL G Z H ds vs [] → ks.length = ds.length → valK ks ds k = some d → ∃ v, valK ks vs k = some v ∧ Rep G Z H d v []
  | [], _, _, _, _, _, _, h => by simp [valK] at h
  | key :: ks, [], _, _, _, _, h, _ => by simp at h
  | key :: ks, d :: ds, vs, k, x, r, h, hx => by
    obtain ⟨v, vs', F1, F2, rfl, e2, h1, h2⟩ := r
    obtain ⟨rfl, rfl⟩ := List.append_eq_nil_iff.mp e2.symm
    by_cases e : key = k
    · simp only [valK, List.zip_cons_cons, List.find?_cons, e, decide_true, Option.map_some, Option.some.injEq] at hx
      subst hx
      exact ⟨v, by simp [valK, e], h1⟩
    · have e1 : valK (key :: ks) (d :: ds) k = valK ks ds k := by simp [valK, e]
      have e2 : valK (key :: ks) (v :: vs') k = valK ks vs' k := by simp [valK, e]
      rw [e1] at hx
      rw [e2]
      exact valK_at h2 (by simpa using h) hx
theorem o_kget : Op2 G (fun x y H Q => ∃ a v, x = .ref a ∧ DGet H a y (some v) ∧ Q v H) fKGet := by
  intro Z H x y v w F1 F2 fr z zh r1 r2 hf Q k
  unfold fKGet at hf
  split at hf
  · rename_i ks ds
    split at hf
    · rename_i hz
      obtain ⟨key, h2, hf⟩ := Option.bind_eq_some_iff.mp hf
      obtain ⟨d, h3, hf⟩ := Option.map_eq_some_iff.mp hf
      simp only [Prod.mk.injEq] at hf
      obtain ⟨rfl, rfl⟩ := hf
      obtain ⟨a, vs, F', rfl, hl, hn, hd⟩ := rep_dic (p := (ks, ds)) zh r1 rfl
      have e0 := hl.frz_nil hz
      subst e0
      obtain ⟨u, hu, ru⟩ := valK_at (ks := ks) hl (by rw [hl.length]; exact hn) h3
      refine ⟨a, u, rfl, .inl ⟨_, key, hd, keyI_rep r2 h2, ?_⟩, k Z H u [] (New.refl zh) ru fun _ => ⟨List.nodup_nil, by simp⟩⟩
      exact hu.symm
    · cases hf
  · cases hf
end
section
variable {c : Cc} {X : Cx} {o e : Expr} {mo mi mk mv : DE} {i : Nat} {pos : Pos}
theorem e_kget (hu : X.A.units + 1 < cLine) (ho : PE X o (tE c mo)) (hi : PE X e (tE c mi)) (hs : NoSl e) : PE X (.Subscript o e pos) (tE c (bind2 fKGet mo mi)) := (pe_dget hu ho hi hs).imp fun σ H Q w => bind2_imp o_kget w
/-- {} -/
theorem e_dnewK : PE X (.Dict [] [] pos) (tE c (dC (.box true (.dic []) []))) := (pe_dnewK).imp fun σ H Q w => by
  obtain ⟨Z, ρ, F, S, w⟩ := w
  show ∀ p, H p = none → Q (.ref p) (upd H p (.dK []))
  intro p hp
  have n := New.own (o := .dK []) S.zh hp
  refine w _ _ F (.ref p) [p] (PostE.new S n) ⟨p, [], [], rfl, ⟨rfl, rfl⟩, fun q => (nomatch q), fun _ => ⟨rfl, _, upd_same, rfl, rfl⟩⟩ fun _ => ?_
  exact fresh_of ⟨by simp, fun b hb => by rw [List.mem_singleton.mp hb]; exact ⟨hp, z_none S.zh hp⟩⟩ fun a ha => S.dom ha
/-- d[k] = v: a new key, v fresh -/
def dPutN (i : Nat) (mk mv : DE) : DS := fun ρ => match ρ[i]? with
  | some (some (.box true (.dic _) _)) => (match mv ρ with
    | .ok f d _ ρ1 => if (f || frz d) = true then (match mk ρ1 with
      | .ok _ kd e2 ρ2 => if e2 = true then .bad else (match keyI kd, ρ2[i]? with
        | some k, some (some (.box true (.dic ks) ds)) => if hasI ks k = false ∧ ks.length < 1000000 then .nx (ρ2.set i (some (.box true (.dic (ks ++ [k])) (ds ++ [d])))) else .bad
        | _, _ => .bad)
      | _ => .bad) else .bad
    | .ex x xs ρ1 => .ex x xs ρ1
    | .bad => .bad)
  | _ => .bad
theorem putN_imp {D : Ends} {σ : L2.St} {H : Hp} (w : tS c (dPutN i mk mv) D σ H) : sDPut (tVar i) (tE c mk) (tE c mv) D σ H := by
  obtain ⟨Z, ρ, F, S, w⟩ := w
  show tE c mv σ H fun v H1 => ∃ x, σ[i]? = some (some x) ∧ tE c mk σ H1 fun y H3 => ∃ a H4, x = .ref a ∧ DPut H3 a y v H4 ∧ D.nx σ H4
  unfold dPutN at w
  split at w
  case h_2 => exact w.elim
  rename_i ks0 ds0 hi
  obtain ⟨v0, _, _, _, g1, _⟩ := S.rs.get hi
  split at w
  case h_3 => exact w.elim
  case h_2 =>
    rename_i x xs ρ1 ha
    exact tE.ex S ha fun Z' H' F' => w Z' H' F' σ
  rename_i f1 d e1 ρ1 ha
  split at w
  case isFalse => exact w.elim
  rename_i hz
  refine tE.ok S ha fun Z1 H1 F1 u G1 P1 R1 f1h => ⟨v0, g1, ?_⟩
  have fr := fresh_or hz R1 f1h
  split at w
  case h_2 => exact w.elim
  rename_i f2 kd e2 ρ2 hb
  split at w
  · exact w.elim
  rename_i he2
  have he2 : e2 = false := by simpa using he2
  split at w
  case h_2 => exact w.elim
  rename_i k ks ds hk hj
  split at w
  case isFalse => exact w.elim
  rename_i hc
  obtain ⟨hnew, hlen⟩ := hc
  refine tE.ok P1.sta hb fun Z2 H2 F2 kv G2 P2 R2 _ => ?_
  obtain ⟨rfl, rfl, n12⟩ := P2.qui he2
  have P := P1.trans P2
  have dm : ∀ b ∈ G1, H1 b ≠ none := fun b hb => let ⟨_, h, _⟩ := R1.dom b hb; ne_none h
  have R1' : Rep c.G Z2 H2 d u G1 := R1.mono P2.st.zz fun b hb o e => P2.st.fr b o e (fr.nf b hb)
  have fr2 := fr.later dm P2
  have hkv := keyI_rep R2 hk
  subst hkv
  obtain ⟨v1, A, F3, B, q1, q2, q3, q4⟩ := P.sta.rs.get hj
  have ev : v1 = v0 := Option.some.inj (Option.some.inj (q1.symm.trans g1))
  subst ev
  obtain ⟨a, vs, F', rfl, hl, _, h2⟩ := q3
  obtain ⟨eF, oo, ho, hn, rfl⟩ := h2 rfl
  subst eF
  obtain ⟨n1, n2, n3⟩ := nodup_mid (by rw [← q2]; exact P.sta.nd)
  obtain ⟨n4, n5⟩ := List.nodup_cons.mp n2
  have inF : ∀ x ∈ a :: F', x ∈ F2 := fun x hx => by rw [q2]; exact mem_mid.mpr (.inl hx)
  have za : Z2 a = none := P.sta.fz a (inF a List.mem_cons_self)
  have nv : valV (ks.zip vs) k = none := by
    have e := valK_some (ks := ks) (ds := vs) (k := k) hn
    rw [hnew] at e
    exact Option.isSome_eq_false_iff.mp e |> Option.isNone_iff_eq_none.mp
  have ep : putK (ks.zip vs) k u = (ks ++ [k]).zip (vs ++ [u]) := by
    rw [putK_new u nv, List.zip_append hn]
    rfl
  have keep : ∀ x w, x ≠ a → H2 x = some w → L2.upd H2 a (.dK (putK (ks.zip vs) k u)) x = some w := fun x w q e => by rw [upd_ne q]; exact e
  have nG : ∀ x ∈ G1, x ≠ a := fun x hx q => fr2.nf x hx (by rw [q]; exact inF a List.mem_cons_self)
  have rl : RepL c.G Z2 H2 (ds ++ [d]) (vs ++ [u]) (F' ++ (G1 ++ [])) := hl.append ⟨u, [], G1, [], rfl, rfl, R1', rfl, rfl⟩
  rw [List.append_nil] at rl
  have rr : Rep c.G Z2 (L2.upd H2 a (.dK (putK (ks.zip vs) k u))) (.box true (.dic (ks ++ [k])) (ds ++ [d])) (.ref a) (a :: (F' ++ G1)) :=
    ⟨a, vs ++ [u], F' ++ G1, rfl, rl.mono (Ex.refl _) (fun b hb o e _ => keep b o (by
      rcases List.mem_append.mp hb with h | h
      · exact fun q => n4 (q ▸ h)
      · exact nG b h) e), fun q => (nomatch q), fun _ => ⟨rfl, _, upd_same, by rw [List.length_append, List.length_append, hn] <;> rfl, by rw [ep]⟩⟩
  obtain ⟨Fn, S', st', hF⟩ := P.sta.wr (d' := .box true (.dic (ks ++ [k])) (ds ++ [d])) (x := a) (o := .dK (putK (ks.zip vs) k u)) hj q1 q2 q4 List.mem_cons_self ho (fun _ z => nomatch z) (fun _ _ z => nomatch z) rr (List.nodup_cons.mpr ⟨fun q => by
      rcases List.mem_append.mp q with h | h
      · exact n4 h
      · exact nG a h rfl, List.nodup_append.mpr ⟨n5, fr2.nd, fun x hx y hy q => fr2.nf y hy (q ▸ inF x (List.mem_cons_of_mem _ hx))⟩⟩) fun b hb => by
    rcases List.mem_cons.mp hb with rfl | hb
    · exact ⟨za, n3 b List.mem_cons_self⟩
    · rcases List.mem_append.mp hb with h | h
      · exact ⟨P.sta.fz b (inF b (List.mem_cons_of_mem _ h)), n3 b (List.mem_cons_of_mem _ h)⟩
      · exact ⟨fr2.nz b h, fun q => fr2.nf b h (by rw [q2]; exact mem_mid.mpr (.inr q))⟩
  refine ⟨a, _, rfl, DPut.k ho ?_, w Z2 _ Fn σ (P.st.call fr2 st' (fun x hx => ?_) fun x hx => .inr hx) S'⟩
  · rw [List.length_zip, ← hn, Nat.min_self]
    exact big_lt hlen
  · rcases List.mem_append.mp hx with h | h
    · exact .inl h
    · rcases List.mem_cons.mp h with rfl | h
      · exact .inl (inF x List.mem_cons_self)
      · rcases List.mem_append.mp h with h | h
        · exact .inl (inF x (List.mem_cons_of_mem _ h))
        · exact .inr h
theorem s_putN {st : Stmt} (h : PS X st (sDPut (tVar i) (tE c mk) (tE c mv))) : PS X st (tS c (dPutN i mk mv)) := h.imp fun _ _ _ w => putN_imp w
end
/-! d[k][j] = v -/
def idxK (ks : List Key) (k : Key) : Option Nat := ks.findIdx? fun q => decide (q = k)
theorem idx_lt {ks : List Key} {k : Key} {j : Nat} (h : idxK ks k = some j) : j < ks.length := (List.findIdx?_eq_some_iff_getElem.mp h).1
theorem idx_val {α : Type} : ∀ {ks : List Key} {vs : List α} {k : Key} {j : Nat}, ks.length = vs.length → idxK ks k = some j → valK ks vs k = vs[j]?
  | [], _, _, _, _, h => by simp [idxK] at h
  | a :: ks, [], _, _, h, _ => by simp at h
  | a :: ks, v :: vs, k, j, hn, h => by
    unfold idxK at h
    rw [List.findIdx?_cons] at h
    by_cases e : a = k
    · simp only [e, decide_true, if_true, Option.some.injEq] at h
      subst h
      simp [valK, e]
    · rw [decide_eq_false e] at h
      simp only [Bool.false_eq_true, if_false] at h
      obtain ⟨j', h1, rfl⟩ := Option.map_eq_some_iff.mp h
      have e1 : valK (a :: ks) (v :: vs) k = valK ks vs k := by simp [valK, e]
      rw [e1, idx_val (by simpa using hn) h1]
      simp
/-- d[k1][k2] = v, d a dict, k1 and k2 without effect -/
def dSetK (i : Nat) (m1 m2 me : DE) : DS := fun ρ => match me ρ with
  | .ok f d e1 ρ1 => if (f || frz d) = true then (match m1 ρ1 with
    | .ok _ (.int k1) false _ => (match m2 ρ1 with
      | .ok _ (.int k2) false _ => (match ρ1[i]? with
        | some (some (.box true (.dic ks) ds)) => (match idxK ks (.inl k1) with
          | some j1 => (match ds[j1]? with
            | some (.box true .lst es) => (match ixN es.length k2 with
              | some j2 => .nx (ρ1.set i (some (.box true (.dic ks) (ds.set j1 (.box true .lst (es.set j2 d))))))
              | none => .bad)
            | _ => .bad)
          | none => .bad)
        | _ => .bad)
      | _ => .bad)
    | _ => .bad) else .bad
  | .ex c xs ρ1 => .ex c xs ρ1
  | .bad => .bad
section
variable {c : Cc} {X : Cx} {st : Stmt} {me m1 m2 : DE} {i : Nat}
theorem setK_imp {D : Ends} {σ : L2.St} {H : Hp} (w : tS c (dSetK i m1 m2 me) D σ H) : tAsg (tE c me) (gSub (tDGet (tVar i) (tE c m1)) (tE c m2) rSetL) D σ H := by
  obtain ⟨Z, ρ, F, S, w⟩ := w
  show tE c me σ H fun x H1 => ∃ v, σ[i]? = some (some v) ∧ tE c m1 σ H1 fun y H2 => ∃ a u, v = .ref a ∧ DGet H2 a y (some u) ∧ tE c m2 σ H2 fun k H4 => rSetL u k x H4 fun H5 => D.nx σ H5
  unfold dSetK at w
  split at w
  · rename_i f d eff ρ1 ha
    split at w
    · rename_i hk
      refine tE.ok S ha fun Z1 H1 F1 u G1 P1 R1 f1h => ?_
      have fr := fresh_or hk R1 f1h
      split at w
      · rename_i f2 k1 ρ2 hb
        split at w
        · rename_i f3 k2 ρ3 hc
          split at w
          · rename_i ks ds hj
            split at w
            · rename_i j1 hx1
              split at w
              · rename_i es hd
                split at w
                · rename_i j2 hx2
                  obtain ⟨v0, _, _, _, g0, _⟩ := P1.sta.rs.get hj
                  refine ⟨v0, g0, tE.quiet P1.sta hb fun Z2 H2 kv G2 n2 S2 R2 => ?_⟩
                  obtain ⟨v, A, Fs, B, g1, g2, g3, g4⟩ := S2.rs.get hj
                  have ev : v0 = v := by rw [g0] at g1; exact Option.some.inj (Option.some.inj g1)
                  subst ev
                  obtain ⟨a, vs, Fi, rfl, hl, _, hown⟩ := g3
                  obtain ⟨hF, oo, ho, hn, rfl⟩ := hown rfl
                  obtain ⟨w0, A2, F3, B2, p1, p2, p3, p4⟩ := hl.splitm hd
                  obtain ⟨a2, ws, F4, rfl, hs2, hl2, ho2, _, hF2⟩ := rep_lst S2.zh p3
                  have ho2 := ho2 rfl
                  have hF2 := hF2 rfl
                  subst hF hF2
                  have ix1 : valK ks vs (.inl k1) = some (.ref a2) := (idx_val hn hx1).trans p1
                  refine ⟨a, .ref a2, rfl, .inl ⟨_, .inl k1, .inl ho, R2.1, ix1.symm⟩, tE.quiet S2 hc fun Z3 H3 kw G3 n3 S3 R3 => ?_⟩
                  have h3 : ∀ b ∈ F1, ∀ o, H2 b = some o → (∀ ps, o ≠ .tbl ps) → H3 b = some o := fun b _ o e t => n3.hh.fr b o e t
                  obtain ⟨w2, A3, F5, B3, q1, q2, q3, q4⟩ := hl2.splitm (List.getElem?_eq_getElem (ixN_seq hx2).2.1)
                  have dm : ∀ b ∈ G1, H1 b ≠ none := fun b hb => let ⟨_, h, _⟩ := R1.dom b hb; ne_none h
                  have n23 := n2.trans n3
                  have z3 : ∀ b ∈ G1, Z3 b = none := fun b hb => (n23.nn b (dm b hb)).trans (fr.nz b hb)
                  obtain ⟨m1, m2, m3⟩ := nodup_mid (by rw [← g2]; exact S3.nd)
                  obtain ⟨m4, m5⟩ := List.nodup_cons.mp m2
                  rw [p2] at m4 m5
                  obtain ⟨m6, m7, m8⟩ := nodup_mid m5
                  obtain ⟨m9, m10⟩ := List.nodup_cons.mp m7
                  rw [q2] at m9 m10
                  obtain ⟨m11, m12, m13⟩ := nodup_mid m10
                  have inF : ∀ b, b ∈ a :: (A2 ++ (a2 :: F4) ++ B2) → b ∈ F1 := fun b hb => by rw [g2, p2]; exact mem_mid.mpr (.inl hb)
                  have nG : ∀ b ∈ G1, b ∉ a :: (A2 ++ (a2 :: F4) ++ B2) := fun b hb q => fr.nf b hb (inF b q)
                  have ne12 : a ≠ a2 := fun q => m4 (by rw [q]; exact mem_mid.mpr (.inl List.mem_cons_self))
                  have o2 : H3 a2 = some (.lst ws) := n3.hh.fr a2 _ ho2 (fun _ z => nomatch z)
                  have o1 : H3 a = some (.dK (ks.zip vs)) := n3.hh.fr a _ ho (fun _ z => nomatch z)
                  have keep : ∀ b o, b ≠ a2 → H2 b = some o → (∀ ps, o ≠ .tbl ps) → L2.upd H3 a2 (.lst (ws.set j2 u)) b = some o := fun b o q e t => by rw [upd_ne q]; exact n3.hh.fr b o e t
                  have R1' : Rep c.G Z3 (L2.upd H3 a2 (.lst (ws.set j2 u))) d u G1 := R1.mono n23.zz fun b hb o e t => by
                    rw [upd_ne fun q => nG b hb (by rw [q]; exact List.mem_cons_of_mem _ (mem_mid.mpr (.inl List.mem_cons_self)))]
                    exact n23.hh.fr b o e t
                  have r2 : RepL c.G Z3 (L2.upd H3 a2 (.lst (ws.set j2 u))) (es.set j2 d) (ws.set j2 u) (A3 ++ G1 ++ B3) := q4 _ _ d u G1 n3.zz (fun b hb o e t => keep b o (fun q => m9 (by rw [← q]; exact mem_mid.mpr (.inr hb))) e t) R1'
                  have r3 : Rep c.G Z3 (L2.upd H3 a2 (.lst (ws.set j2 u))) (.box true .lst (es.set j2 d)) (.ref a2) (a2 :: (A3 ++ G1 ++ B3)) := ⟨a2, _, _, rfl, r2, fun q => (nomatch q), fun _ => ⟨rfl, _, upd_same, rfl⟩⟩
                  have r4 := p4 _ _ _ _ _ n3.zz (fun b hb o e t => keep b o (fun q => m8 a2 List.mem_cons_self (q ▸ hb)) e t) r3
                  have evs : vs.set j1 (.ref a2) = vs := by
                    have hj1 : j1 < vs.length := by rw [← hn]; exact idx_lt hx1
                    rw [List.getElem?_eq_getElem hj1] at p1
                    rw [← Option.some.inj p1, List.set_getElem_self]
                  rw [evs] at r4
                  have rr : Rep c.G Z3 (L2.upd H3 a2 (.lst (ws.set j2 u))) (.box true (.dic ks) (ds.set j1 (.box true .lst (es.set j2 d)))) (.ref a) (a :: (A2 ++ (a2 :: (A3 ++ G1 ++ B3)) ++ B2)) := ⟨a, _, _, rfl, r4, fun q => (nomatch q), fun _ => ⟨rfl, _, by rw [upd_ne ne12]; exact o1, hn, rfl⟩⟩
                  have sub : ∀ b ∈ a :: (A2 ++ (a2 :: (A3 ++ G1 ++ B3)) ++ B2), b ∈ G1 ∨ b ∈ a :: (A2 ++ (a2 :: F4) ++ B2) := fun b hb => by
                    rw [q2]
                    simp only [List.mem_cons, List.mem_append] at hb ⊢
                    grind
                  have nd1 : (A3 ++ G1 ++ B3).Nodup := nodup_put m11 fr.nd fun b hb q => nG b hb (by rw [q2]; exact List.mem_cons_of_mem _ (mem_mid.mpr (.inl (List.mem_cons_of_mem _ (mem_mid.mpr (.inr q))))))
                  have nd2 : (a2 :: (A3 ++ G1 ++ B3)).Nodup := List.nodup_cons.mpr ⟨fun q => by
                    rcases mem_mid.mp q with h | h
                    · exact nG a2 h (List.mem_cons_of_mem _ (mem_mid.mpr (.inl List.mem_cons_self)))
                    · exact m9 (mem_mid.mpr (.inr h)), nd1⟩
                  have nd3 : (A2 ++ (a2 :: (A3 ++ G1 ++ B3)) ++ B2).Nodup := nodup_put m6 nd2 fun b hb q => by
                    rcases List.mem_cons.mp hb with h | h
                    · exact m8 a2 List.mem_cons_self (h ▸ q)
                    · rcases mem_mid.mp h with h | h
                      · exact nG b h (List.mem_cons_of_mem _ (mem_mid.mpr (.inr q)))
                      · exact m8 b (List.mem_cons_of_mem _ (by rw [q2]; exact mem_mid.mpr (.inr h))) q
                  have nd4 : (a :: (A2 ++ (a2 :: (A3 ++ G1 ++ B3)) ++ B2)).Nodup := List.nodup_cons.mpr ⟨fun q => by
                    rcases sub a (List.mem_cons_of_mem _ q) with h | h
                    · exact nG a h List.mem_cons_self
                    · rcases mem_mid.mp q with h | h
                      · rcases List.mem_cons.mp h with h | h
                        · exact ne12 h
                        · rcases mem_mid.mp h with h | h
                          · exact nG a h List.mem_cons_self
                          · exact m4 (mem_mid.mpr (.inl (List.mem_cons_of_mem _ (by rw [q2]; exact mem_mid.mpr (.inr h)))))
                      · exact m4 (mem_mid.mpr (.inr h)), nd3⟩
                  have inA : a2 ∈ a :: (A2 ++ (a2 :: F4) ++ B2) := List.mem_cons_of_mem _ (mem_mid.mpr (.inl List.mem_cons_self))
                  rw [p2] at g2
                  have S3rest : RepS c.G Z3 H3 (ρ1.set i none) σ (A ++ B) := g4.mono n3.zz fun b hb o e t => n3.hh.fr b o e t
                  obtain ⟨F', S', st', hF'⟩ := S3.wr hj g1 g2 S3rest inA o2 (fun _ z => nomatch z) (fun _ _ z => nomatch z) rr nd4 fun b hb => by
                    rcases sub b hb with h | h
                    · exact ⟨z3 b h, fun q => fr.nf b h (by rw [g2]; exact mem_mid.mpr (.inr q))⟩
                    · exact ⟨S3.fz b (inF b h), m3 b (by rw [p2]; exact h)⟩
                  have fr2 : Fresh H F Z3 F1 G1 := ⟨fr.nd, fr.nh, z3, fr.nf⟩
                  have st3 : Step Z H F Z3 H3 F1 := P1.st.trans n23.step
                  refine ⟨a2, ws, k2, j2, rfl, R3.1, o2, by rw [← hl2.length]; exact hx2, w Z3 _ F' σ (st3.call fr2 st' (fun b hb => ?_) fun b hb => ?_) S'⟩
                  · rcases List.mem_append.mp hb with hb | hb
                    · exact .inl hb
                    · rcases sub b hb with h | h
                      · exact .inr h
                      · exact .inl (inF b h)
                  · exact .inr hb
                · exact w.elim
              · exact w.elim
            · exact w.elim
          · exact w.elim
        · exact w.elim
      · exact w.elim
    · exact w.elim
  · rename_i x xs ρ1 ha
    exact tE.ex S ha fun Z' H' F' => w Z' H' F' σ
  · exact w.elim
theorem s_setK (h : PS X st (tAsg (tE c me) (gSub (tDGet (tVar i) (tE c m1)) (tE c m2) rSetL))) : PS X st (tS c (dSetK i m1 m2 me)) := h.imp fun _ _ _ w => setK_imp w
end
/-! [k for k in d]: the dict is locked for good, what it holds is frozen -/
def dKeysK (i : Nat) : DI := fun ρ => match ρ[i]? with
  | some (some (.box true (.dic ks) ds)) => .ok true (ks.map kD) true (ρ.set i (some (.box false (.dkl ks) (fzL ds))))
  | some (some (.box false (.dkl ks) ds)) => .ok true (ks.map kD) false ρ
  | _ => .bad
theorem rep_kD {G : Gx} {Z H : Hp} (k : Key) : Rep G Z H (kD k) (kV k) [] := by
  cases k with
  | inl i => exact ⟨rfl, rfl⟩
  | inr s => exact ⟨rfl, rfl⟩
theorem it_keysK {G : Gx} {Z H : Hp} {a : Addr} {od : Obj} {ks : List Key} {vs : List V} {Gk : List Addr} (hn : ks.length = vs.length) (hz : Z a = some (.frz od (.dK (ks.zip vs)))) : IterOk G (Itk a od (ks.zip vs)) Z H (ks.map kD) Gk := by
  have hl : (ks.zip vs).length = ks.length := by rw [List.length_zip, ← hn, Nat.min_self]
  refine ⟨fun Z2 H2 e1 e2 k i d hd => ?_, fun Z2 H2 e1 e2 k => ⟨e2 _ _ (e1 _ _ hz), by rw [hl, List.length_map]; exact Nat.le_refl _⟩⟩
  obtain ⟨hi, hd2⟩ := List.getElem?_eq_some_iff.mp hd
  rw [List.length_map] at hi
  refine ⟨⟨e2 _ _ (e1 _ _ hz), by rw [hl]; exact hi⟩, fun x H3 hy tp => ?_⟩
  obtain ⟨rfl, k, v, hk, rfl⟩ := hy
  obtain ⟨hi2, hk2⟩ := List.getElem?_eq_some_iff.mp hk
  rw [List.getElem_zip] at hk2
  have ek : ks[i] = k := congrArg Prod.fst hk2
  rw [List.getElem_map, ek] at hd2
  subst hd2
  exact ⟨Z2, New.refl e2, rep_kD k⟩
section
variable {c : Cc} {X : Cx} {tg e : Expr} {i : Nat}
theorem i_keysK (he : PE X e (tVar i)) : PI X tg e (tI c (dKeysK i)) := (pi_lockOr (pi_keys (tg := tg) he)).imp fun σ H R w => by
  obtain ⟨Z, ρ, F, S, w⟩ := w
  generalize hr : dKeysK i ρ = r at w
  unfold dKeysK at hr
  split at hr
  case h_3 => subst hr; exact w.elim
  case h_1 =>
    rename_i ks ds hi
    subst hr
    left
    obtain ⟨v, A, F1, B, q1, q2, q3, q4⟩ := S.rs.get hi
    obtain ⟨a, vs, F', rfl, hl, _, h2⟩ := q3
    obtain ⟨eF, oo, ho, hn, rfl⟩ := h2 rfl
    subst eF
    have za : Z a = none := S.fz a (by rw [q2]; exact mem_mid.mpr (.inl List.mem_cons_self))
    have inF : a ∈ F := by rw [q2]; exact mem_mid.mpr (.inl List.mem_cons_self)
    obtain ⟨n1, n2, n3⟩ := nodup_mid (by rw [← q2]; exact S.nd)
    refine ⟨a, _, ho, True.intro, fun od => ?_⟩
    have hlt : i < ρ.length := by
      rcases Nat.lt_or_ge i ρ.length with h | h
      · exact h
      · rw [List.getElem?_eq_none h] at hi; cases hi
    obtain ⟨n4, n5⟩ := List.nodup_cons.mp n2
    let Z' : Hp := fun b => if b = a then some (.frz od (.dK (ks.zip vs))) else if b ∈ F' then H b else Z b
    let H' : Hp := L2.upd H a (.frz od (.dK (ks.zip vs)))
    have za1 : Z' a = some (.frz od (.dK (ks.zip vs))) := if_pos rfl
    have za2 : ∀ b, b ≠ a → b ∈ F' → Z' b = H b := fun b h1 h2 => (if_neg h1).trans (if_pos h2)
    have za3 : ∀ b, b ≠ a → b ∉ F' → Z' b = Z b := fun b h1 h2 => (if_neg h1).trans (if_neg h2)
    have zF' : ∀ b ∈ F', Z b = none := fun b hb => S.fz b (by rw [q2]; exact mem_mid.mpr (.inl (List.mem_cons_of_mem _ hb)))
    have keepH : ∀ b o, b ≠ a → H b = some o → H' b = some o := fun b o q e => by show L2.upd H a _ b = _; rw [upd_ne q]; exact e
    have eZ : Ex Z Z' := fun b o e => by
      rw [za3 b (fun q => by rw [q, za] at e; cases e) (fun q => by rw [zF' b q] at e; cases e)]
      exact e
    have zh : Ex Z' H' := fun b o e => by
      by_cases q : b = a
      · subst q
        rw [za1] at e
        show L2.upd H b _ b = _
        rw [upd_same]; exact e
      · by_cases q2 : b ∈ F'
        · rw [za2 b q q2] at e
          exact keepH b o q e
        · rw [za3 b q q2] at e
          exact keepH b o q (S.zh b o e)
    have rr : Rep c.G Z' H' (.box false (.dkl ks) (fzL ds)) (.ref a) [] := ⟨a, vs, [], rfl, hl.freeze eZ (fun b hb o e => by rw [za2 b (fun q => n4 (q ▸ hb)) hb]; exact e), fun _ => ⟨rfl, ⟨hn, od, za1⟩, .inr rfl⟩, fun q => nomatch q⟩
    have rest : RepS c.G Z' H' (ρ.set i none) σ (A ++ B) := q4.mono eZ fun b hb o e _ => keepH b o (fun q => n3 a List.mem_cons_self (q ▸ hb)) e
    obtain ⟨A', B', p1, p2⟩ := RepS.put (i := i) rest (by rw [List.getElem?_set_self hlt]) rr
    rw [List.set_set] at p2
    have es : σ.set i (some (V.ref a)) = σ := by
      have hs : i < σ.length := by rw [← S.rs.length]; exact hlt
      rw [List.getElem?_eq_getElem hs] at q1
      rw [← Option.some.inj q1, List.set_getElem_self]
    rw [es] at p2
    have ef : A' ++ [] ++ B' = A ++ B := by rw [List.append_nil, p1]
    rw [ef] at p2
    have sub : ∀ b, b ∈ A ++ B → b ∈ F := fun b hb => by rw [q2]; exact mem_mid.mpr (.inr hb)
    have neB : ∀ b, b ∉ F → b ≠ a := fun b h q => h (q ▸ inF)
    have tgk : ∀ P, TBx.Tb H P → TBx.Tb H' P := fun P t => t.upd ho (fun _ z => nomatch z) (fun _ _ z => nomatch z)
    have nta : ∀ b ∈ F', ∀ ps, H b ≠ some (.tbl ps) := fun b hb ps e => by
      obtain ⟨o, e2, n, _⟩ := hl.dom b hb
      rw [e] at e2
      exact n ps (Option.some.inj e2).symm
    have tzk : ∀ P ps, Z' P = some (.tbl ps) → Z P = some (.tbl ps) := fun P ps h => by
      by_cases q : P = a
      · rw [q, za1] at h; cases h
      · by_cases q2 : P ∈ F'
        · rw [za2 P q q2] at h; exact absurd h (nta P q2 ps)
        · rw [za3 P q q2] at h; exact h
    have tpk : ∀ q xs, H' q = some (.tup xs) → H q = some (.tup xs) := fun q xs h => tp_upd (u := .frz od (.dK (ks.zip vs))) (fun _ z => nomatch z) h
    have st : Step Z H F Z' H' (A ++ B) := ⟨eZ, zh, fun b h => by
      by_cases q : b = a
      · show L2.upd H a _ b ≠ none
        rw [q, upd_same]; exact Option.some_ne_none _
      · show L2.upd H a _ b ≠ none
        rw [upd_ne q]; exact h, fun b o e hn _ => keepH b o (neB b hn) e, fun P t _ => tgk P t, fun b hb => .inl (sub b hb), fun b hn _ z => by
        rw [za3 b (neB b hn) fun q => hn (by rw [q2]; exact mem_mid.mpr (.inl (List.mem_cons_of_mem _ q)))]; exact z, fun q xs h => .inl (tpk q xs h), tzk⟩
    have S' : State c.G c.lk Z' H' σ (ρ.set i (some (.box false (.dkl ks) (fzL ds)))) (A ++ B) := ⟨zh, p2, n1, fun b hb => by
      rw [za3 b (fun (q : b = a) => n3 a List.mem_cons_self (q ▸ hb)) fun q => n3 b (List.mem_cons_of_mem _ q) hb]
      exact S.fz b (sub b hb), S.lk, ⟨fun P hP => ⟨tgk P (S.tb.1 P hP).1, by
        obtain ⟨ps, e⟩ := (S.tb.1 P hP).1.ps
        rw [za3 P (fun q => by rw [q, ho] at e; cases e) fun q => nta P q ps e]
        exact (S.tb.1 P hP).2⟩, fun q xs h => eZ q _ (S.tb.2.1 q xs (tpk q xs h)), fun P ps h => S.tb.2.2 P ps (tzk P ps h)⟩⟩
    refine ⟨.ref a, q1, a, od, rfl, .inl ⟨_, upd_same, ?_⟩⟩
    exact w Z' H' (A ++ B) [] _ ⟨st, S', fun q => nomatch q⟩ Fresh.nil (by simp) (it_keysK hn za1)
  case h_2 =>
    rename_i ks ds hi
    subst hr
    right
    obtain ⟨v, A, F1, B, q1, q2, q3, q4⟩ := S.rs.get hi
    obtain ⟨a, vs, F', rfl, hl, h1, _⟩ := q3
    obtain ⟨_, ⟨hn, od, hz⟩, _⟩ := h1 rfl
    refine ⟨.ref a, q1, a, od, rfl, .inl ⟨_, S.zh a _ hz, ?_⟩⟩
    exact w Z H F [] _ (PostE.refl S) Fresh.nil (by simp) (it_keysK hn hz)
end
end Dd
namespace Lw
open PySem L2 Dd
def topS (i : Nat) : Stmt := PySem.Challenge.pw_sheetlines_k38_columns_behind_deeds.main.body.getD i (.Pass ⟨0, 0, 0, 0⟩)
abbrev st__law_start : Stmt := topS 26
theorem sc__law_start : FnScope ["script", "cells", "first", "plain", "cell"] ["script"] (defScope st__law_start) := ⟨rfl, rfl, rfl, by decide +kernel, rfl, by decide +kernel, by decide +kernel⟩
def m__law_start : DS := (dSeq (dAsg 1 (dLc (dItems (dFz 0)) (tgN 4) dYes (bind1 fInt1 (dVar 4)) [4])) (dSeq (dAsg 2 (dC (.int 0))) (dSeq (dIf (dAnd (dT (bind2 fGt (bind1 fLen (dVar 1)) (dC (.int 0)))) (dT (bind2 fGe (bind2 fIx (dVar 1) (dC (.int 0))) (bind2 fPow (dC (.int 10)) (dC (.int 18)))))) (dAsg 2 (bind2 fIx (dVar 1) (dC (.int 0)))) dPass) (dSeq (dAsg 3 (dAndV (bind2 fGt (bind1 fLen (dVar 1)) (dC (.int 1))) (bind2 fEq (bind2 fMod (bind1 fInt1 (bind2 fIx (dVar 1) (dC (.int 1)))) (dC (.int 2))) (dC (.int 0))))) (dRet (dLst (dCons (dFz 1) (dCons (dC (.int 0)) (dCons (dFz 2) (dCons (dFz 3) (dCons (bind2 fPlus (dC (.int 12345)) (bind1 fLen (dVar 1))) dNil)))))))))))
def F__law_start : DF := runD false 5 m__law_start

abbrev st__law_alike : Stmt := topS 28
theorem sc__law_alike : FnScope ["told", "due", "k"] ["told", "due"] (defScope st__law_alike) := ⟨rfl, rfl, rfl, by decide +kernel, rfl, by decide +kernel, by decide +kernel⟩
def m__law_alike (F : DF) : DS := (dSeq (dIf (dT (bind2 fIs (dVar 1) (dC .non))) (dRet (bind2 fIs (dVar 0) (dC .non))) dPass) (dSeq (dIf (dT (bind1 (fIsi .tup) (dVar 1))) (dSeq (dIf (dOr (dNot (dT (bind1 (fIsi .tup) (dVar 0)))) (dT (bind2 fNe (bind1 fLen (dVar 0)) (bind1 fLen (dVar 1))))) (dRet (dC (.bl false))) dPass) (dRet (bind1 fAll (dLc (dRange1 (dCons (bind1 fLen (dVar 1)) dNil)) (tgN 2) dYes (dCall (F) (dCons (bind2 fIx (dVar 0) (dVar 2)) (dCons (bind2 fIx (dVar 1) (dVar 2)) dNil))) [2])))) dPass) (dSeq (dIf (dT (bind1 (fIsi .bool) (dVar 1))) (dRet (dAndV (bind1 (fIsi .bool) (dVar 0)) (bind2 fEq (dVar 0) (dVar 1)))) dPass) (dSeq (dIf (dT (bind1 (fIsi .int) (dVar 1))) (dRet (dAndV (bind1 (fIsi .int) (dVar 0)) (dAndV (dNotV (bind1 (fIsi .bool) (dVar 0))) (bind2 fEq (dVar 0) (dVar 1))))) dPass) (dRet (dAndV (bind1 (fIsi .str) (dVar 0)) (bind2 fEq (dVar 0) (dVar 1))))))))
def F__law_alike : Nat → DF
  | 0 => fun _ => .bad
  | n + 1 => runD false 3 (m__law_alike (F__law_alike n))

abbrev st__law_take : Stmt := topS 27
theorem sc__law_take : FnScope ["state", "many", "cells", "at", "cell", "mixed", "back"] ["state", "many"] (defScope st__law_take) := ⟨rfl, rfl, rfl, by decide +kernel, rfl, by decide +kernel, by decide +kernel⟩
def m__law_take : DS := (dSeq (dIf (dT (bind2 fGt (bind2 fIx (dVar 0) (dC (.int 2))) (dC (.int 0)))) (dSeq (dAsg 6 (bind2 fMod (bind1 fInt1 (bind2 fIx (dVar 0) (dC (.int 2)))) (dVar 1))) (dSeq (dSetI 0 (dC (.int 2)) (bind2 fDivW (bind2 fIx (dVar 0) (dC (.int 2))) (dVar 1))) (dRet (dMv 6)))) dPass) (dSeq (dAsg 2 (bind2 fIx (dVar 0) (dC (.int 0)))) (dSeq (dAsg 3 (bind2 fIx (dVar 0) (dC (.int 1)))) (dSeq (dSetI 0 (dC (.int 1)) (bind2 fPlus (dVar 3) (dC (.int 1)))) (dSeq (dAsg 4 (dC (.int 0))) (dSeq (dIf (dT (bind2 fGt (bind1 fLen (dVar 2)) (dC (.int 0)))) (dAsg 4 (bind2 fIx (dVar 2) (bind2 fMod (bind1 fInt1 (dVar 3)) (bind1 fLen (dVar 2))))) dPass) (dSeq (dIf (dAnd (dT (bind2 fIx (dVar 0) (dC (.int 3)))) (dT (bind2 fLt (dVar 3) (bind1 fLen (dVar 2))))) (dRet (bind2 fMod (bind1 fInt1 (dVar 4)) (dVar 1))) dPass) (dSeq (dAsg 5 (bind2 fMod (bind1 fInt1 (bind2 fPlus (bind2 fPlus (bind2 fPlus (bind2 fMul (bind2 fIx (dVar 0) (dC (.int 4))) (dC (.int 48271))) (dVar 4)) (bind2 fMul (dC (.int 7)) (dVar 3))) (dC (.int 1)))) (dC (.int 2147483647)))) (dSeq (dSetI 0 (dC (.int 4)) (dFz 5)) (dRet (bind2 fMod (bind1 fInt1 (bind2 fDivW (bind2 fMod (bind1 fInt1 (bind2 fPlus (bind2 fMul (dVar 5) (dVar 5)) (bind2 fMul (dC (.int 69621)) (dVar 5)))) (dC (.int 2147483629))) (dC (.int 5)))) (dVar 1))))))))))))
def F__law_take : DF := runD true 7 m__law_take

abbrev st_is_int : Stmt := topS 5
theorem sc_is_int : FnScope ["value"] ["value"] (defScope st_is_int) := ⟨rfl, rfl, rfl, by decide +kernel, rfl, by decide +kernel, by decide +kernel⟩
def m_is_int : DS := (dRet (dAndV (bind1 (fIsi .int) (dVar 0)) (dNotV (bind1 (fIsi .bool) (dVar 0)))))
def F_is_int : DF := runD false 1 m_is_int

abbrev st_check_count : Stmt := topS 18
theorem sc_check_count : FnScope ["value", "least", "most"] ["value", "least", "most"] (defScope st_check_count) := ⟨rfl, rfl, rfl, by decide +kernel, rfl, by decide +kernel, by decide +kernel⟩
def m_check_count : DS := (dIf (dOr (dNot (dT (dCall F_is_int (dCons (dFz 0) dNil)))) (dNot (dT (dChain fLe fLe (dVar 1) (dVar 0) (dVar 2))))) (dRaise "BadNumber") dPass)
def F_check_count : DF := runD false 3 m_check_count

abbrev st_is_deed : Stmt := topS 22
theorem sc_is_deed : FnScope ["value", "line", "side", "way"] ["value"] (defScope st_is_deed) := ⟨rfl, rfl, rfl, by decide +kernel, rfl, by decide +kernel, by decide +kernel⟩
def m_is_deed : DS := (dSeq (dIf (dOr (dNot (dT (bind1 (fIsi .tup) (dVar 0)))) (dT (bind2 fNe (bind1 fLen (dVar 0)) (dC (.int 3))))) (dRet (dC (.bl false))) dPass) (dSeq (dAsgT [1, 2, 3] (dFz 0)) (dSeq (dIf (dOr (dNot (dT (dCall F_is_int (dCons (dFz 1) dNil)))) (dOr (dNot (dT (bind1 (fIsi .str) (dVar 2)))) (dNot (dT (bind1 (fIsi .str) (dVar 3)))))) (dRet (dC (.bl false))) dPass) (dRet (dAndV (bind2 fInA (dVar 2) (dTup (dCons (dC (.str "left")) (dCons (dC (.str "right")) dNil)))) (bind2 fInA (dVar 3) (dTup (dCons (dC (.str "up")) (dCons (dC (.str "down")) dNil)))))))))
def F_is_deed : DF := runD false 4 m_is_deed

abbrev st_check_deeds : Stmt := topS 23
theorem sc_check_deeds : FnScope ["value", "deed"] ["value"] (defScope st_check_deeds) := ⟨rfl, rfl, rfl, by decide +kernel, rfl, by decide +kernel, by decide +kernel⟩
def m_check_deeds : DS := (dSeq (dIf (dOr (dNot (dT (bind1 (fIsiT [.lst, .tup]) (dVar 0)))) (dT (bind2 fGt (bind1 fLen (dVar 0)) (dC (.int 8))))) (dRaise "BadDeeds") dPass) (dIf (dNot (dT (dQ true (dItems (dFz 0)) (tgN 1) dYes (dCall F_is_deed (dCons (dFz 1) dNil)) [1]))) (dRaise "BadDeeds") dPass))
def F_check_deeds : DF := runD false 2 m_check_deeds

abbrev st_flat_strip : Stmt := topS 12
theorem sc_flat_strip : FnScope ["n", "panel"] ["n"] (defScope st_flat_strip) := ⟨rfl, rfl, rfl, by decide +kernel, rfl, by decide +kernel, by decide +kernel⟩
def m_flat_strip : DS := (dRet (dTg (dRange1 (dCons (dFz 0) dNil)) (tgN 1) dYes (dTup (dCons (dFz 1) dNil)) [1]))
def F_flat_strip : DF := runD false 2 m_flat_strip

abbrev st_panel_of : Stmt := topS 11
theorem sc_panel_of : FnScope ["face"] ["face"] (defScope st_panel_of) := ⟨rfl, rfl, rfl, by decide +kernel, rfl, by decide +kernel, by decide +kernel⟩
def m_panel_of : DS := (dSeq (dIf (dT (bind2 fGe (dVar 0) (dC (.int 0)))) (dRet (dMv 0)) dPass) (dRet (bind2 fSub (bind1 fNeg (dC (.int 1))) (dVar 0))))
def F_panel_of : DF := runD false 1 m_panel_of

abbrev st_panels_in : Stmt := topS 16
theorem sc_panels_in : FnScope ["columns", "column", "face"] ["columns"] (defScope st_panels_in) := ⟨rfl, rfl, rfl, by decide +kernel, rfl, by decide +kernel, by decide +kernel⟩
def m_panels_in : DS := (dRet (dTg (dItems (dFz 0)) (tgN 1) dYes (dTg (dItems (dFz 1)) (tgN 2) dYes (dCall F_panel_of (dCons (dFz 2) dNil)) [2]) [1]))
def F_panels_in : DF := runD false 3 m_panels_in

abbrev st_laid_on : Stmt := topS 14
theorem sc_laid_on : FnScope ["under", "above", "below", "upper"] ["under", "above"] (defScope st_laid_on) := ⟨rfl, rfl, rfl, by decide +kernel, rfl, by decide +kernel, by decide +kernel⟩
def m_laid_on : DS := (dRet (dTg (dZip (dCons (dFz 0) (dCons (dFz 1) dNil))) (tgT [2, 3]) dYes (bind2 fPlus (dVar 2) (dVar 3)) [2, 3]))
def F_laid_on : DF := runD false 4 m_laid_on

abbrev st_turned_over : Stmt := topS 13
theorem sc_turned_over : FnScope ["columns", "turned", "column", "face"] ["columns"] (defScope st_turned_over) := ⟨rfl, rfl, rfl, by decide +kernel, rfl, by decide +kernel, by decide +kernel⟩
def m_turned_over : DS := (dSeq (dAsg 1 (dLst dNil)) (dSeq (dFor (dRevI (dFz 0)) (tgN 2) (dApp 1 (dTg (dRevI (dFz 2)) (tgN 3) dYes (bind2 fSub (bind1 fNeg (dC (.int 1))) (dVar 3)) [3]))) (dRet (bind1 fTupOf (dVar 1)))))
def F_turned_over : DF := runD false 4 m_turned_over

abbrev st_folded : Stmt := topS 15
theorem sc_folded : FnScope ["columns", "line", "side", "way", "width", "moved", "rest"] ["columns", "line", "side", "way"] (defScope st_folded) := ⟨rfl, rfl, rfl, by decide +kernel, rfl, by decide +kernel, by decide +kernel⟩
def m_folded : DS := (dSeq (dIf (dT (bind2 fEq (dVar 2) (dC (.str "left")))) (dSeq (dAsg 5 (dCall F_turned_over (dCons (dSl (dVar 0) dNo (dAt (dVar 1))) dNil))) (dAsg 6 (dSl (dVar 0) (dAt (dVar 1)) dNo))) (dSeq (dAsg 5 (dCall F_turned_over (dCons (dSl (dVar 0) (dAt (dVar 1)) dNo) dNil))) (dAsg 6 (dSl (dVar 0) dNo (dAt (dVar 1)))))) (dSeq (dAsg 4 (bind2 fMax2 (bind1 fLen (dVar 5)) (bind1 fLen (dVar 6)))) (dSeq (dIf (dT (bind2 fEq (dVar 2) (dC (.str "left")))) (dSeq (dAsg 5 (bind2 fPlus (dVar 5) (bind2 fRep (dTup (dCons (dTup dNil) dNil)) (bind2 fSub (dVar 4) (bind1 fLen (dVar 5)))))) (dAsg 6 (bind2 fPlus (dVar 6) (bind2 fRep (dTup (dCons (dTup dNil) dNil)) (bind2 fSub (dVar 4) (bind1 fLen (dVar 6))))))) (dSeq (dAsg 5 (bind2 fPlus (bind2 fRep (dTup (dCons (dTup dNil) dNil)) (bind2 fSub (dVar 4) (bind1 fLen (dVar 5)))) (dVar 5))) (dAsg 6 (bind2 fPlus (bind2 fRep (dTup (dCons (dTup dNil) dNil)) (bind2 fSub (dVar 4) (bind1 fLen (dVar 6)))) (dVar 6))))) (dSeq (dIf (dT (bind2 fEq (dVar 3) (dC (.str "up")))) (dRet (dCall F_laid_on (dCons (dFz 6) (dCons (dFz 5) dNil)))) dPass) (dRet (dCall F_laid_on (dCons (dFz 5) (dCons (dFz 6) dNil))))))))
def F_folded : DF := runD false 7 m_folded

abbrev st_simple : Stmt := topS 24
theorem sc_simple : FnScope ["n", "deeds", "columns", "line", "side", "way"] ["n", "deeds"] (defScope st_simple) := ⟨rfl, rfl, rfl, by decide +kernel, rfl, by decide +kernel, by decide +kernel⟩
def m_simple : DS := (dSeq (dDrop (dCall F_check_count (dCons (dFz 0) (dCons (dC (.int 1)) (dCons (dC (.int 9)) dNil))))) (dSeq (dDrop (dCall F_check_deeds (dCons (dFz 1) dNil))) (dSeq (dAsg 2 (dCall F_flat_strip (dCons (dFz 0) dNil))) (dSeq (dFor (dItems (dFz 1)) (tgT [3, 4, 5]) (dSeq (dIf (dNot (dT (dChain fLe fLt (dC (.int 1)) (dVar 3) (bind1 fLen (dVar 2))))) (dRaise "BadDeeds") dPass) (dAsg 2 (dCall F_folded (dCons (dFz 2) (dCons (dFz 3) (dCons (dFz 4) (dCons (dFz 5) dNil)))))))) (dRet (dCall F_panels_in (dCons (dFz 2) dNil)))))))
def F_simple : DF := runD false 6 m_simple

abbrev st__law_place : Stmt := topS 29
theorem sc__law_place : FnScope ["columns", "deed", "spots", "at", "rows", "spot", "turned", "pile", "pair"] ["columns", "deed"] (defScope st__law_place) := ⟨rfl, rfl, rfl, by decide +kernel, rfl, by decide +kernel, by decide +kernel⟩
def m__law_place : DS := (dSeq (dAsg 2 (dC (.box true (.dic []) []))) (dSeq (dFor (dRange1 (dCons (bind1 fLen (dVar 0)) dNil)) (tgN 3) (dSeq (dAsg 6 (bind2 fLt (dVar 3) (bind2 fIx (dVar 1) (dC (.int 0))))) (dSeq (dIf (dT (bind2 fEq (bind2 fIx (dVar 1) (dC (.int 1))) (dC (.str "right")))) (dAsg 6 (dNotV (dVar 6))) dPass) (dSeq (dAsg 5 (dFz 3)) (dSeq (dAsg 7 (bind1 fLstOf (bind2 fIx (dVar 0) (dVar 3)))) (dSeq (dIf (dT (dVar 6)) (dSeq (dAsg 5 (bind2 fSub (bind2 fSub (bind2 fMul (dC (.int 2)) (bind2 fIx (dVar 1) (dC (.int 0)))) (dC (.int 1))) (dVar 3))) (dAsg 7 (bind1 fRev (dVar 7)))) dPass) (dSeq (dIf (dT (bind2 (fKIn true) (dVar 5) (dVar 2))) (dPutN 2 (dVar 5) (dLst (dCons (dLst dNil) (dCons (dLst dNil) dNil)))) dPass) (dSetK 2 (dVar 5) (bind1 fInt1 (dVar 6)) (dFz 7))))))))) (dSeq (dAsg 4 (dLst dNil)) (dSeq (dFor (dItems (bind1 fSortA (dLc (dKeysK 2) (tgN 5) dYes (dFz 5) [5]))) (tgN 5) (dSeq (dAsg 8 (bind2 fKGet (dVar 2) (dVar 5))) (dIf (dT (bind2 fEq (bind2 fIx (dVar 1) (dC (.int 2))) (dC (.str "up")))) (dApp 4 (bind1 fTupOf (bind2 fPlusW (bind2 fIx (dVar 8) (dC (.int 0))) (bind2 fIx (dVar 8) (dC (.int 1)))))) (dApp 4 (bind1 fTupOf (bind2 fPlusW (bind2 fIx (dVar 8) (dC (.int 1))) (bind2 fIx (dVar 8) (dC (.int 0))))))))) (dRet (bind1 fTupOf (dVar 4)))))))
def F__law_place : DF := runD false 9 m__law_place

abbrev st_law : Stmt := topS 30
theorem sc_law : FnScope ["script", "state", "panels", "columns", "deeds", "behind", "k", "handed", "line", "panel"] ["script"] (defScope st_law) := ⟨rfl, rfl, rfl, by decide +kernel, rfl, by decide +kernel, by decide +kernel⟩
def m_law : DS := (dSeq (dAsg 1 (dCall F__law_start (dCons (dFz 0) dNil))) (dSeq (dAsg 2 (bind2 fPlus (dC (.int 1)) (dCallL F__law_take 1 (dCons (dC (.int 9)) dNil)))) (dSeq (dAsg 3 (bind1 fTupOf (dLc (dRange1 (dCons (dFz 2) dNil)) (tgN 9) dYes (dTup (dCons (dFz 9) dNil)) [9]))) (dSeq (dAsg 4 (dLst dNil)) (dSeq (dAsg 5 (dLst (dCons (dFz 3) dNil))) (dSeq (dFor (dRange1 (dCons (dCallL F__law_take 1 (dCons (dC (.int 9)) dNil)) dNil)) (tgN 6) (dIf (dT (bind2 fGt (bind1 fLen (dVar 3)) (dC (.int 1)))) (dSeq (dAsg 8 (bind2 fPlus (dC (.int 1)) (dCallL F__law_take 1 (dCons (bind2 fSub (bind1 fLen (dVar 3)) (dC (.int 1))) dNil)))) (dSeq (dIf (dT (bind2 fEq (dCallL F__law_take 1 (dCons (dC (.int 3)) dNil)) (dC (.int 0)))) (dAsg 8 (bind2 fIx (dTup (dCons (dC (.int 1)) (dCons (bind2 fSub (bind1 fLen (dVar 3)) (dC (.int 1))) dNil))) (dCallL F__law_take 1 (dCons (dC (.int 2)) dNil)))) dPass) (dSeq (dApp 4 (dTup (dCons (dFz 8) (dCons (bind2 fIx (dTup (dCons (dC (.str "left")) (dCons (dC (.str "right")) dNil))) (dCallL F__law_take 1 (dCons (dC (.int 2)) dNil))) (dCons (bind2 fIx (dTup (dCons (dC (.str "up")) (dCons (dC (.str "down")) dNil))) (dCallL F__law_take 1 (dCons (dC (.int 2)) dNil))) dNil))))) (dSeq (dAsg 3 (dCall F__law_place (dCons (dFz 3) (dCons (bind2 fIx (dVar 4) (bind1 fNeg (dC (.int 1)))) dNil)))) (dApp 5 (dFz 3)))))) dPass)) (dSeq (dFor (dRange1 (dCons (bind1 fLen (dVar 5)) dNil)) (tgN 6) (dSeq (dAsg 7 (dSl (dVar 4) dNo (dAt (dVar 6)))) (dSeq (dIf (dT (bind2 fEq (dCallL F__law_take 1 (dCons (dC (.int 2)) dNil)) (dC (.int 0)))) (dAsg 7 (bind1 fTupOf (dSl (dVar 4) dNo (dAt (dVar 6))))) dPass) (dSeq (dIf (dOr (dNot (dT (dCall (F__law_alike 6) (dCons (dCall F_simple (dCons (dFz 2) (dCons (dFz 7) dNil))) (dCons (bind2 fIx (dVar 5) (dVar 6)) dNil))))) (dT (bind2 fNe (bind1 fLstOf (dVar 7)) (dSl (dVar 4) dNo (dAt (dVar 6)))))) (dRet (dC (.bl false))) dPass) (dIf (dAnd (dT (bind2 fLt (dVar 2) (dC (.int 9)))) (dNot (dT (dCall (F__law_alike 6) (dCons (bind2 fIx (dCall F_simple (dCons (bind2 fPlus (dVar 2) (dC (.int 1))) (dCons (dTup dNil) dNil))) (bind1 fNeg (dC (.int 1)))) (dCons (dTup (dCons (dFz 2) dNil)) dNil)))))) (dRet (dC (.bl false))) dPass))))) (dRet (dCall (F__law_alike 6) (dCons (dCall (dPerm [1, 0] F_simple) (dCons (dFz 4) (dCons (dFz 2) dNil))) (dCons (dFz 3) dNil)))))))))))
def F_law : DF := runD false 10 m_law

abbrev tbs (tb : Nat → Addr) : List Addr := [tb 0, tb 1, tb 2, tb 3, tb 4]
structure Txt (K : PySem.W.Frag) (mg : Str → Option Value) (base : Heap) (a : Nat → Addr) (fd : Nat → FuncData) (cd tb : Nat → Addr) : Prop where
  f__law_start : Fun K "_law_start" "_law_start" st__law_start (a 0) (fd 0)
  g__law_start : mg "_law_start" = some (.ref (a 0))
  b__law_start : Binds K (fd 0) ["script"] []
  f__law_alike : Fun K "_law_alike" "_law_alike" st__law_alike (a 1) (fd 1)
  g__law_alike : mg "_law_alike" = some (.ref (a 1))
  b__law_alike : Binds K (fd 1) ["told", "due"] []
  f__law_take : Fun K "_law_take" "_law_take" st__law_take (a 2) (fd 2)
  g__law_take : mg "_law_take" = some (.ref (a 2))
  b__law_take : Binds K (fd 2) ["state", "many"] []
  f_is_int : Fun K "is_int" "is_int" st_is_int (a 3) (fd 3)
  g_is_int : mg "is_int" = some (.ref (a 3))
  b_is_int : Binds K (fd 3) ["value"] []
  f_check_count : Fun K "check_count" "check_count" st_check_count (a 4) (fd 4)
  g_check_count : mg "check_count" = some (.ref (a 4))
  b_check_count : Binds K (fd 4) ["value", "least", "most"] []
  f_is_deed : Fun K "is_deed" "is_deed" st_is_deed (a 5) (fd 5)
  g_is_deed : mg "is_deed" = some (.ref (a 5))
  b_is_deed : Binds K (fd 5) ["value"] []
  f_check_deeds : Fun K "check_deeds" "check_deeds" st_check_deeds (a 6) (fd 6)
  g_check_deeds : mg "check_deeds" = some (.ref (a 6))
  b_check_deeds : Binds K (fd 6) ["value"] []
  cc_check_deeds : (fd 6).code = .ref (cd 0)
  tb_check_deeds : GxR.TabB base mg (cd 0) (tb 0)
  f_flat_strip : Fun K "flat_strip" "flat_strip" st_flat_strip (a 7) (fd 7)
  g_flat_strip : mg "flat_strip" = some (.ref (a 7))
  b_flat_strip : Binds K (fd 7) ["n"] []
  cc_flat_strip : (fd 7).code = .ref (cd 1)
  tb_flat_strip : GxR.TabB base mg (cd 1) (tb 1)
  f_panel_of : Fun K "panel_of" "panel_of" st_panel_of (a 8) (fd 8)
  g_panel_of : mg "panel_of" = some (.ref (a 8))
  b_panel_of : Binds K (fd 8) ["face"] []
  f_panels_in : Fun K "panels_in" "panels_in" st_panels_in (a 9) (fd 9)
  g_panels_in : mg "panels_in" = some (.ref (a 9))
  b_panels_in : Binds K (fd 9) ["columns"] []
  cc_panels_in : (fd 9).code = .ref (cd 2)
  tb_panels_in : GxR.TabB base mg (cd 2) (tb 2)
  f_laid_on : Fun K "laid_on" "laid_on" st_laid_on (a 10) (fd 10)
  g_laid_on : mg "laid_on" = some (.ref (a 10))
  b_laid_on : Binds K (fd 10) ["under", "above"] []
  cc_laid_on : (fd 10).code = .ref (cd 3)
  tb_laid_on : GxR.TabB base mg (cd 3) (tb 3)
  f_turned_over : Fun K "turned_over" "turned_over" st_turned_over (a 11) (fd 11)
  g_turned_over : mg "turned_over" = some (.ref (a 11))
  b_turned_over : Binds K (fd 11) ["columns"] []
  cc_turned_over : (fd 11).code = .ref (cd 4)
  tb_turned_over : GxR.TabB base mg (cd 4) (tb 4)
  f_folded : Fun K "folded" "folded" st_folded (a 12) (fd 12)
  g_folded : mg "folded" = some (.ref (a 12))
  b_folded : Binds K (fd 12) ["columns", "line", "side", "way"] []
  f_simple : Fun K "simple" "simple" st_simple (a 13) (fd 13)
  g_simple : mg "simple" = some (.ref (a 13))
  b_simple : Binds K (fd 13) ["n", "deeds"] []
  f__law_place : Fun K "_law_place" "_law_place" st__law_place (a 14) (fd 14)
  g__law_place : mg "_law_place" = some (.ref (a 14))
  b__law_place : Binds K (fd 14) ["columns", "deed"] []
  f_law : Fun K "law" "law" st_law (a 15) (fd 15)
  g_law : mg "law" = some (.ref (a 15))
  b_law : Binds K (fd 15) ["script"] []
  e_BadDeeds : ExcT K mg "BadDeeds" (a 16)
  x_BadDeeds : PySem.W.excIn K (a 16) [.type "ValueError", .type "Exception", .type "BaseException", .type "object"] "ValueError.__new__" = true
  c_BadDeeds : (gxT K mg (tbs tb)).cn "BadDeeds" = some (a 16)
  e_BadNumber : ExcT K mg "BadNumber" (a 17)
  x_BadNumber : PySem.W.excIn K (a 17) [.type "ValueError", .type "Exception", .type "BaseException", .type "object"] "ValueError.__new__" = true
  c_BadNumber : (gxT K mg (tbs tb)).cn "BadNumber" = some (a 17)
  n_all : mg "all" = none
  n_bool : mg "bool" = none
  n_int : mg "int" = none
  n_isinstance : mg "isinstance" = none
  n_len : mg "len" = none
  n_list : mg "list" = none
  n_max : mg "max" = none
  n_range : mg "range" = none
  n_reversed : mg "reversed" = none
  n_sorted : mg "sorted" = none
  n_str : mg "str" = none
  n_tuple : mg "tuple" = none
  n_zip : mg "zip" = none
  k_DOWN : ∃ t, mg "DOWN" = some (.str "down" t)
  k_LEFT : ∃ t, mg "LEFT" = some (.str "left" t)
  k_MOST_DEEDS : ∃ t, mg "MOST_DEEDS" = some (.int 8 t)
  k_MOST_PANELS : ∃ t, mg "MOST_PANELS" = some (.int 9 t)
  k_RIGHT : ∃ t, mg "RIGHT" = some (.str "right" t)
  k_UP : ∃ t, mg "UP" = some (.str "up" t)
section
variable {P : Program} {w : World} {K : PySem.W.Frag} {mg : Str → Option Value} {base : Heap} {a : Nat → Addr} {fd : Nat → FuncData} {cd tb : Nat → Addr}
theorem ok__law_start (T : Txt K mg base a fd cd tb) : FnOk P w K mg base (L2.CX P w) 1 (a 0) (fd 0) ["script"] (spD (gxT K mg (tbs tb)) 1 false F__law_start) :=
  fn0 T.f__law_start sc__law_start (fun cdv A outer s H E hr => by
  have tk := @tk_fn P w K mg base "_law_start" (a 0) ["script", "cells", "first", "plain", "cell"] (gxT K mg (tbs tb)) [] cdv A outer s H E (defScope st__law_start)
  exact (show PSs _ _ (tS _ m__law_start) from
    (b_cons (s_lc (i := 1) (own := [("cell", 4)]) rfl sc__law_start.nd rfl rfl (sw_true rfl rfl rfl (by decide +kernel)) (i_items (e_fz (pv 0))) (blkOk_by (own := [("cell", 4)]) (N := ["script", "cells", "first", "plain", "cell"]) (sc := defScope st__law_start) (by decide +kernel)) (fun _ _ _ _ _ => (pg_name (i := 4) sc__law_start.nd rfl (.inl rfl))) (tgN_ok (by rfl)) (tgIn_N (by decide)) (fun _ _ _ _ _ => ts_nil) (fun _ _ _ _ _ => (e_b1 (pe_callTy call_int1 (by rfl) T.n_int bb_int (pa_cons (e_var (pv 4)) pa_nil)) o_int1)))
    (b_cons (s_asg (i := 2) sc__law_start.nd rfl (.inl rfl) e_int)
    (b_cons (s_if (PW.pt (w_and (t_cmp op_gt o_gt (bl_cmp _) (e_b1 (pe_callB call_len (by rfl) T.n_len bb_len (pa_cons (e_var (pv 1)) pa_nil)) o_len) e_int (nomark _)) (w_and1 (t_cmp op_ge o_ge (bl_cmp _) (e_ix ix_seq o_ix (e_var (pv 1)) e_int (fun _ _ => rfl)) (e_op op_pow o_pow e_int e_int) (nomark _)))))
    (b_one (s_asg (i := 2) sc__law_start.nd rfl (.inl rfl) (e_ix ix_seq o_ix (e_var (pv 1)) e_int (fun _ _ => rfl))))
    b_nil)
    (b_cons (s_asg (i := 3) sc__law_start.nd rfl (.inl rfl) (e_and (e_cmp op_gt o_gt (e_b1 (pe_callB call_len (by rfl) T.n_len bb_len (pa_cons (e_var (pv 1)) pa_nil)) o_len) e_int (nomark _)) (e_one (e_cmp (x_eq hr) o_eq (e_op op_mod o_mod (e_b1 (pe_callTy call_int1 (by rfl) T.n_int bb_int (pa_cons (e_ix ix_seq o_ix (e_var (pv 1)) e_int (fun _ _ => rfl)) pa_nil)) o_int1) e_int) e_int (nomark _)))))
    (b_one (s_ret (e_lst (a_cons (e_fz (pv 1)) (a_cons e_int (a_cons (e_fz (pv 2)) (a_cons (e_fz (pv 3)) (a_cons (e_op x_add m_add e_int (e_b1 (pe_callB call_len (by rfl) T.n_len bb_len (pa_cons (e_var (pv 1)) pa_nil)) o_len)) a_nil))))))))))))))

theorem ok__law_alike (T : Txt K mg base a fd cd tb) : ∀ n : Nat, FnOk P w K mg base (L2.CX P w) (1 + n) (a 1) (fd 1) ["told", "due"] (spD (gxT K mg (tbs tb)) 2 false (F__law_alike n))
  | 0 => fn_bad rfl
  | n + 1 => by
    have IH := ok__law_alike T n
    exact fn0 T.f__law_alike sc__law_alike (fun cdv A outer s H E hr => by
  have tk := @tk_fn P w K mg base "_law_alike" (a 1) ["told", "due", "k"] (gxT K mg (tbs tb)) [] cdv A outer s H E (defScope st__law_alike)
  exact (show PSs _ _ (tS _ (m__law_alike (F__law_alike n))) from
    (b_cons (s_if (t_cmp op_isN o_is bl_is (e_var (pv 1)) e_non (nomark _))
    (b_one (s_ret (e_cmp op_isN o_is (e_var (pv 0)) e_non (nomark _))))
    b_nil)
    (b_cons (s_if (t_any (e_isi .tup (pe_callB call_isi (by rfl) T.n_isinstance bb_isinstance (pa_cons (e_var (pv 1)) (pa_cons (pe_bltn (by rfl) T.n_tuple bb_tuple rfl) pa_nil)))))
    (b_cons (s_if (PW.pt (w_or (t_not (t_any (e_isi .tup (pe_callB call_isi (by rfl) T.n_isinstance bb_isinstance (pa_cons (e_var (pv 0)) (pa_cons (pe_bltn (by rfl) T.n_tuple bb_tuple rfl) pa_nil)))))) (w_or1 (t_cmp (x_ne hr) o_ne bl_ne (e_b1 (pe_callB call_len (by rfl) T.n_len bb_len (pa_cons (e_var (pv 0)) pa_nil)) o_len) (e_b1 (pe_callB call_len (by rfl) T.n_len bb_len (pa_cons (e_var (pv 1)) pa_nil)) o_len) (nomark _)))))
    (b_one (s_ret e_bl))
    b_nil)
    (b_one (s_ret (e_b1 (pe_callB (cr_all rfl) (by rfl) T.n_all bb_all (pa_cons (e_lc (own := [("k", 2)]) rfl sc__law_alike.nd (i_range1 (by rfl) T.n_range (a_cons (e_b1 (pe_callB call_len (by rfl) T.n_len bb_len (pa_cons (e_var (pv 1)) pa_nil)) o_len) a_nil)) (blkOk_by (own := [("k", 2)]) (N := ["told", "due", "k"]) (sc := defScope st__law_alike) (by decide +kernel)) (fun _ _ _ _ _ => (pg_name (i := 2) sc__law_alike.nd rfl (.inl rfl))) (tgN_ok (by rfl)) (tgIn_N (by decide)) (fun _ _ _ _ _ => ts_nil) (fun _ _ _ _ _ => (e_call IH (hr.mono (Nat.le_refl _)) (by rfl) T.g__law_alike T.f__law_alike.kp T.b__law_alike tk_in (a_cons (e_ix ix_seq o_ix (e_var (pv 0)) (e_var (pv 2)) (fun _ _ => rfl)) (a_cons (e_ix ix_seq o_ix (e_var (pv 1)) (e_var (pv 2)) (fun _ _ => rfl)) a_nil)) (len_cons (len_cons len_nil))))) pa_nil)) o_all))))
    b_nil)
    (b_cons (s_if (t_any (e_isi .bool (pe_callB call_isi (by rfl) T.n_isinstance bb_isinstance (pa_cons (e_var (pv 1)) (pa_cons (pe_bltn (by rfl) T.n_bool bb_bool rfl) pa_nil)))))
    (b_one (s_ret (e_and (e_isi .bool (pe_callB call_isi (by rfl) T.n_isinstance bb_isinstance (pa_cons (e_var (pv 0)) (pa_cons (pe_bltn (by rfl) T.n_bool bb_bool rfl) pa_nil)))) (e_one (e_cmp (x_eq hr) o_eq (e_var (pv 0)) (e_var (pv 1)) (nomark _))))))
    b_nil)
    (b_cons (s_if (t_any (e_isi .int (pe_callB call_isi (by rfl) T.n_isinstance bb_isinstance (pa_cons (e_var (pv 1)) (pa_cons (pe_bltn (by rfl) T.n_int bb_int rfl) pa_nil)))))
    (b_one (s_ret (e_and (e_isi .int (pe_callB call_isi (by rfl) T.n_isinstance bb_isinstance (pa_cons (e_var (pv 0)) (pa_cons (pe_bltn (by rfl) T.n_int bb_int rfl) pa_nil)))) (e_and (e_not (e_isi .bool (pe_callB call_isi (by rfl) T.n_isinstance bb_isinstance (pa_cons (e_var (pv 0)) (pa_cons (pe_bltn (by rfl) T.n_bool bb_bool rfl) pa_nil))))) (e_one (e_cmp (x_eq hr) o_eq (e_var (pv 0)) (e_var (pv 1)) (nomark _)))))))
    b_nil)
    (b_one (s_ret (e_and (e_isi .str (pe_callB call_isi (by rfl) T.n_isinstance bb_isinstance (pa_cons (e_var (pv 0)) (pa_cons (pe_bltn (by rfl) T.n_str bb_str rfl) pa_nil)))) (e_one (e_cmp (x_eq hr) o_eq (e_var (pv 0)) (e_var (pv 1)) (nomark _))))))))))))

theorem ok__law_take (T : Txt K mg base a fd cd tb) : FnOk P w K mg base (L2.CX P w) 1 (a 2) (fd 2) ["state", "many"] (spD (gxT K mg (tbs tb)) 2 true F__law_take) :=
  fn1 T.f__law_take sc__law_take (by decide) (fun v0 cdv A outer s H E hr => by
  have tk := @tk_fn P w K mg base "_law_take" (a 2) ["state", "many", "cells", "at", "cell", "mixed", "back"] (gxT K mg (tbs tb)) [(0, v0)] cdv A outer s H E (defScope st__law_take)
  exact (show PSs _ _ (tS _ m__law_take) from
    (b_cons (s_if (t_cmp op_gt o_gt (bl_cmp _) (e_ix ix_seq o_ix (e_var (pv 0)) e_int (fun _ _ => rfl)) e_int (nomark _))
    (b_cons (s_asg (i := 6) sc__law_take.nd rfl (.inl rfl) (e_op op_mod o_mod (e_b1 (pe_callTy call_int1 (by rfl) T.n_int bb_int (pa_cons (e_ix ix_seq o_ix (e_var (pv 0)) e_int (fun _ _ => rfl)) pa_nil)) o_int1) (e_var (pv 1))))
    (b_cons (s_setI (ps_asg (e_op op_fdivW m_div (e_ix ix_seq o_ix (e_var (pv 0)) e_int (fun _ _ => rfl)) (e_var (pv 1))) (pg_sub (pv 0) e_int set_list)))
    (b_one (s_ret (e_mv (pv 6))))))
    b_nil)
    (b_cons (s_asg (i := 2) sc__law_take.nd rfl (.inl rfl) (e_ix ix_seq o_ix (e_var (pv 0)) e_int (fun _ _ => rfl)))
    (b_cons (s_asg (i := 3) sc__law_take.nd rfl (.inl rfl) (e_ix ix_seq o_ix (e_var (pv 0)) e_int (fun _ _ => rfl)))
    (b_cons (s_setI (ps_asg (e_op x_add m_add (e_var (pv 3)) e_int) (pg_sub (pv 0) e_int set_list)))
    (b_cons (s_asg (i := 4) sc__law_take.nd rfl (.inl rfl) e_int)
    (b_cons (s_if (t_cmp op_gt o_gt (bl_cmp _) (e_b1 (pe_callB call_len (by rfl) T.n_len bb_len (pa_cons (e_var (pv 2)) pa_nil)) o_len) e_int (nomark _))
    (b_one (s_asg (i := 4) sc__law_take.nd rfl (.inl rfl) (e_ix ix_seq o_ix (e_var (pv 2)) (e_op op_mod o_mod (e_b1 (pe_callTy call_int1 (by rfl) T.n_int bb_int (pa_cons (e_var (pv 3)) pa_nil)) o_int1) (e_b1 (pe_callB call_len (by rfl) T.n_len bb_len (pa_cons (e_var (pv 2)) pa_nil)) o_len)) (fun _ _ => rfl))))
    b_nil)
    (b_cons (s_if (PW.pt (w_and (t_any (e_ix ix_seq o_ix (e_var (pv 0)) e_int (fun _ _ => rfl))) (w_and1 (t_cmp op_lt o_lt (bl_cmp _) (e_var (pv 3)) (e_b1 (pe_callB call_len (by rfl) T.n_len bb_len (pa_cons (e_var (pv 2)) pa_nil)) o_len) (nomark _)))))
    (b_one (s_ret (e_op op_mod o_mod (e_b1 (pe_callTy call_int1 (by rfl) T.n_int bb_int (pa_cons (e_var (pv 4)) pa_nil)) o_int1) (e_var (pv 1)))))
    b_nil)
    (b_cons (s_asg (i := 5) sc__law_take.nd rfl (.inl rfl) (e_op op_mod o_mod (e_b1 (pe_callTy call_int1 (by rfl) T.n_int bb_int (pa_cons (e_op x_add m_add (e_op x_add m_add (e_op x_add m_add (e_op op_mul o_mul (e_ix ix_seq o_ix (e_var (pv 0)) e_int (fun _ _ => rfl)) e_int) (e_var (pv 4))) (e_op op_mul o_mul e_int (e_var (pv 3)))) e_int) pa_nil)) o_int1) e_int))
    (b_cons (s_setI (ps_asg (e_fz (pv 5)) (pg_sub (pv 0) e_int set_list)))
    (b_one (s_ret (e_op op_mod o_mod (e_b1 (pe_callTy call_int1 (by rfl) T.n_int bb_int (pa_cons (e_op op_fdivW m_div (e_op op_mod o_mod (e_b1 (pe_callTy call_int1 (by rfl) T.n_int bb_int (pa_cons (e_op x_add m_add (e_op op_mul o_mul (e_var (pv 5)) (e_var (pv 5))) (e_op op_mul o_mul e_int (e_var (pv 5)))) pa_nil)) o_int1) e_int) e_int) pa_nil)) o_int1) (e_var (pv 1))))))))))))))))

theorem ok_is_int (T : Txt K mg base a fd cd tb) : FnOk P w K mg base (L2.CX P w) 1 (a 3) (fd 3) ["value"] (spD (gxT K mg (tbs tb)) 1 false F_is_int) :=
  fn0 T.f_is_int sc_is_int (fun cdv A outer s H E hr => by
  have tk := @tk_fn P w K mg base "is_int" (a 3) ["value"] (gxT K mg (tbs tb)) [] cdv A outer s H E (defScope st_is_int)
  exact (show PSs _ _ (tS _ m_is_int) from
    (b_one (s_ret (e_and (e_isi .int (pe_callB call_isi (by rfl) T.n_isinstance bb_isinstance (pa_cons (e_var (pv 0)) (pa_cons (pe_bltn (by rfl) T.n_int bb_int rfl) pa_nil)))) (e_one (e_not (e_isi .bool (pe_callB call_isi (by rfl) T.n_isinstance bb_isinstance (pa_cons (e_var (pv 0)) (pa_cons (pe_bltn (by rfl) T.n_bool bb_bool rfl) pa_nil)))))))))))

theorem ok_check_count (T : Txt K mg base a fd cd tb) : FnOk P w K mg base (L2.CX P w) 2 (a 4) (fd 4) ["value", "least", "most"] (spD (gxT K mg (tbs tb)) 3 false F_check_count) :=
  fn0 T.f_check_count sc_check_count (fun cdv A outer s H E hr => by
  have tk := @tk_fn P w K mg base "check_count" (a 4) ["value", "least", "most"] (gxT K mg (tbs tb)) [] cdv A outer s H E (defScope st_check_count)
  exact (show PSs _ _ (tS _ m_check_count) from
    (b_one (s_if (PW.pt (w_or (t_not (t_any (e_call (ok_is_int T) (hr.mono (by decide)) (by rfl) T.g_is_int T.f_is_int.kp T.b_is_int tk (a_cons (e_fz (pv 0)) a_nil) (len_cons len_nil)))) (w_or1 (t_not (t_chain op_le op_le (b_int _) (b_int _) (bl_cmp _) (e_var (pv 1)) (e_var (pv 0)) (e_var (pv 2)))))))
    (b_one (s_raise rfl tk (pmk_own PySem.F.excBase_ValueError T.x_BadNumber T.e_BadNumber.g T.e_BadNumber.k (raises_own T.e_BadNumber.b T.e_BadNumber.t) (by rfl)) (fun _ _ _ h => h) (T.c_BadNumber)))
    b_nil))))

theorem ok_is_deed (T : Txt K mg base a fd cd tb) : FnOk P w K mg base (L2.CX P w) 2 (a 5) (fd 5) ["value"] (spD (gxT K mg (tbs tb)) 1 false F_is_deed) :=
  fn0 T.f_is_deed sc_is_deed (fun cdv A outer s H E hr => by
  have tk := @tk_fn P w K mg base "is_deed" (a 5) ["value", "line", "side", "way"] (gxT K mg (tbs tb)) [] cdv A outer s H E (defScope st_is_deed)
  exact (show PSs _ _ (tS _ m_is_deed) from
    (b_cons (s_if (PW.pt (w_or (t_not (t_any (e_isi .tup (pe_callB call_isi (by rfl) T.n_isinstance bb_isinstance (pa_cons (e_var (pv 0)) (pa_cons (pe_bltn (by rfl) T.n_tuple bb_tuple rfl) pa_nil)))))) (w_or1 (t_cmp (x_ne hr) o_ne bl_ne (e_b1 (pe_callB call_len (by rfl) T.n_len bb_len (pa_cons (e_var (pv 0)) pa_nil)) o_len) e_int (nomark _)))))
    (b_one (s_ret e_bl))
    b_nil)
    (b_cons (s_asgT rfl (e_fz (pv 0)) (show PGs _ _ (gNames [1, 2, 3]) from (pgs_cons (pg_name (i := 1) sc_is_deed.nd rfl (.inl rfl)) (pgs_cons (pg_name (i := 2) sc_is_deed.nd rfl (.inl rfl)) (pgs_cons (pg_name (i := 3) sc_is_deed.nd rfl (.inl rfl)) pgs_nil)))) rfl)
    (b_cons (s_if (PW.pt (w_or (t_not (t_any (e_call (ok_is_int T) (hr.mono (by decide)) (by rfl) T.g_is_int T.f_is_int.kp T.b_is_int tk (a_cons (e_fz (pv 1)) a_nil) (len_cons len_nil)))) (w_or (t_not (t_any (e_isi .str (pe_callB call_isi (by rfl) T.n_isinstance bb_isinstance (pa_cons (e_var (pv 2)) (pa_cons (pe_bltn (by rfl) T.n_str bb_str rfl) pa_nil)))))) (w_or1 (t_not (t_any (e_isi .str (pe_callB call_isi (by rfl) T.n_isinstance bb_isinstance (pa_cons (e_var (pv 3)) (pa_cons (pe_bltn (by rfl) T.n_str bb_str rfl) pa_nil))))))))))
    (b_one (s_ret e_bl))
    b_nil)
    (b_one (s_ret (e_and (e_cmp (x_inA hr.u65) o_inA (e_var (pv 2)) (e_tup (a_cons (e_globS T.k_LEFT (by rfl)) (a_cons (e_globS T.k_RIGHT (by rfl)) a_nil))) (by with_unfolding_all rfl)) (e_one (e_cmp (x_inA hr.u65) o_inA (e_var (pv 3)) (e_tup (a_cons (e_globS T.k_UP (by rfl)) (a_cons (e_globS T.k_DOWN (by rfl)) a_nil))) (by with_unfolding_all rfl)))))))))))

theorem ok_check_deeds (T : Txt K mg base a fd cd tb) : FnOk P w K mg base (L2.CX P w) 7 (a 6) (fd 6) ["value"] (spD (gxT K mg (tbs tb)) 1 false F_check_deeds) :=
  fn0C T.f_check_deeds T.cc_check_deeds sc_check_deeds (fun A outer s H E hr => by
  have tk := @tk_fn P w K mg base "check_deeds" (a 6) ["value", "deed"] (gxT K mg (tbs tb)) [] (.ref (cd 0)) A outer s H E (defScope st_check_deeds)
  exact (show PSs _ _ (tS _ m_check_deeds) from
    (b_cons (s_if (PW.pt (w_or (t_not (t_any (e_isiT [.lst, .tup] (pe_callB call_isiT (by rfl) T.n_isinstance bb_isinstance (pa_cons (e_var (pv 0)) (pa_cons (pe_tup (pa_cons (pe_bltn (by rfl) T.n_list bb_list rfl) (pa_cons (pe_bltn (by rfl) T.n_tuple bb_tuple rfl) pa_nil))) pa_nil)))))) (w_or1 (t_cmp op_gt o_gt (bl_cmp _) (e_b1 (pe_callB call_len (by rfl) T.n_len bb_len (pa_cons (e_var (pv 0)) pa_nil)) o_len) (e_globI T.k_MOST_DEEDS (by rfl)) (nomark _)))))
    (b_one (s_raise rfl tk (pmk_own PySem.F.excBase_ValueError T.x_BadDeeds T.e_BadDeeds.g T.e_BadDeeds.k (raises_own T.e_BadDeeds.b T.e_BadDeeds.t) (by rfl)) (fun _ _ _ h => h) (T.c_BadDeeds)))
    b_nil)
    (b_one (s_if (t_not (t_any (e_allG (own := [("deed", 1)]) (k := 4) rfl sc_check_deeds.nd (hr.mono (by decide)) (by rfl) T.n_all T.tb_check_deeds List.mem_cons_self rfl (blkOk_by (own := [("deed", 1)]) (N := ["value", "deed"]) (sc := defScope st_check_deeds) (by decide +kernel)) (by decide +kernel) (i_items (e_fz (pv 0))) (fun _ _ _ _ _ _ => (pg_name (i := 1) sc_check_deeds.nd rfl (.inl rfl))) (tgN_ok (by rfl)) (tgIn_N (by decide)) (fun _ _ _ _ _ _ => ts_nil) (fun _ _ _ _ _ _ hr => (e_call (ok_is_deed T) (hr.mono (by decide)) (by rfl) T.g_is_deed T.f_is_deed.kp T.b_is_deed tk_in (a_cons (e_fz (pv 1)) a_nil) (len_cons len_nil))))))
    (b_one (s_raise rfl tk (pmk_own PySem.F.excBase_ValueError T.x_BadDeeds T.e_BadDeeds.g T.e_BadDeeds.k (raises_own T.e_BadDeeds.b T.e_BadDeeds.t) (by rfl)) (fun _ _ _ h => h) (T.c_BadDeeds)))
    b_nil)))))

theorem ok_flat_strip (T : Txt K mg base a fd cd tb) : FnOk P w K mg base (L2.CX P w) 5 (a 7) (fd 7) ["n"] (spD (gxT K mg (tbs tb)) 1 false F_flat_strip) :=
  fn0C T.f_flat_strip T.cc_flat_strip sc_flat_strip (fun A outer s H E hr => by
  have tk := @tk_fn P w K mg base "flat_strip" (a 7) ["n", "panel"] (gxT K mg (tbs tb)) [] (.ref (cd 1)) A outer s H E (defScope st_flat_strip)
  exact (show PSs _ _ (tS _ m_flat_strip) from
    (b_one (s_ret (e_tupG (own := [("panel", 1)]) (k := 0) rfl sc_flat_strip.nd (hr.mono (by decide)) (by rfl) T.n_tuple T.tb_flat_strip (List.mem_cons_of_mem _ List.mem_cons_self) rfl (blkOk_by (own := [("panel", 1)]) (N := ["n", "panel"]) (sc := defScope st_flat_strip) (by decide +kernel)) (by decide +kernel) (i_range1 (by rfl) T.n_range (a_cons (e_fz (pv 0)) a_nil)) (fun _ _ _ _ _ _ => (pg_name (i := 1) sc_flat_strip.nd rfl (.inl rfl))) (tgN_ok (by rfl)) (tgIn_N (by decide)) (fun _ _ _ _ _ _ => ts_nil) (fun _ _ _ _ _ _ hr => (e_tup (a_cons (e_fz (pv 1)) a_nil))))))))

theorem ok_panel_of (T : Txt K mg base a fd cd tb) : FnOk P w K mg base (L2.CX P w) 1 (a 8) (fd 8) ["face"] (spD (gxT K mg (tbs tb)) 1 false F_panel_of) :=
  fn0 T.f_panel_of sc_panel_of (fun cdv A outer s H E hr => by
  have tk := @tk_fn P w K mg base "panel_of" (a 8) ["face"] (gxT K mg (tbs tb)) [] cdv A outer s H E (defScope st_panel_of)
  exact (show PSs _ _ (tS _ m_panel_of) from
    (b_cons (s_if (t_cmp op_ge o_ge (bl_cmp _) (e_var (pv 0)) e_int (nomark _))
    (b_one (s_ret (e_mv (pv 0))))
    b_nil)
    (b_one (s_ret (e_op op_sub o_sub (e_un un_neg o_neg e_int) (e_var (pv 0))))))))

theorem ok_panels_in (T : Txt K mg base a fd cd tb) : FnOk P w K mg base (L2.CX P w) 12 (a 9) (fd 9) ["columns"] (spD (gxT K mg (tbs tb)) 1 false F_panels_in) :=
  fn0C T.f_panels_in T.cc_panels_in sc_panels_in (fun A outer s H E hr => by
  have tk := @tk_fn P w K mg base "panels_in" (a 9) ["columns", "column", "face"] (gxT K mg (tbs tb)) [] (.ref (cd 2)) A outer s H E (defScope st_panels_in)
  exact (show PSs _ _ (tS _ m_panels_in) from
    (b_one (s_ret (e_tupG2 (own := [("column", 1)]) (k := 7) rfl sc_panels_in.nd (hr.mono (by decide)) (by rfl) T.n_tuple T.tb_panels_in (List.mem_cons_of_mem _ (List.mem_cons_of_mem _ List.mem_cons_self)) rfl (blkOk_by (own := [("column", 1)]) (N := ["columns", "column", "face"]) (sc := defScope st_panels_in) (by decide +kernel)) (by decide +kernel) (i_items (e_fz (pv 0))) (fun _ _ _ _ _ _ => (pg_name (i := 1) sc_panels_in.nd rfl (.inl rfl))) (tgN_ok (by rfl)) (tgIn_N (by decide)) (fun _ _ _ _ _ _ => ts_nil) (fun _ _ _ _ _ _ _ hr hcI => (e_tupGI (own := [("face", 2)]) (k := 3) rfl sc_panels_in.nd (hr.mono (by decide)) (by rfl) T.n_tuple T.tb_panels_in List.mem_cons_self hcI rfl (blkOk_by (own := [("face", 2)]) (N := ["columns", "column", "face"]) (sc := ({ kind := .function, names := [(".0", .local), ("column", .local), ("tuple", .globalImplicit)], isGenerator := true, isCoroutine := false } : Scope)) (by decide +kernel)) (by decide +kernel) (i_items (e_fz (pv 1))) (fun _ _ _ _ _ _ => (pg_name (i := 2) sc_panels_in.nd rfl (.inl rfl))) (tgN_ok (by rfl)) (tgIn_N (by decide)) (fun _ _ _ _ _ _ => ts_nil) (fun _ _ _ _ _ _ hr => e_addQ (e_call (ok_panel_of T) (hr.mono (by decide)) (by rfl) T.g_panel_of T.f_panel_of.kp T.b_panel_of tk_in (a_cons (e_fz (pv 2)) a_nil) (len_cons len_nil))))))))))

theorem ok_laid_on (T : Txt K mg base a fd cd tb) : FnOk P w K mg base (L2.CX P w) 5 (a 10) (fd 10) ["under", "above"] (spD (gxT K mg (tbs tb)) 2 false F_laid_on) :=
  fn0C T.f_laid_on T.cc_laid_on sc_laid_on (fun A outer s H E hr => by
  have tk := @tk_fn P w K mg base "laid_on" (a 10) ["under", "above", "below", "upper"] (gxT K mg (tbs tb)) [] (.ref (cd 3)) A outer s H E (defScope st_laid_on)
  exact (show PSs _ _ (tS _ m_laid_on) from
    (b_one (s_ret (e_tupG (own := [("below", 2), ("upper", 3)]) (k := 0) rfl sc_laid_on.nd (hr.mono (by decide)) (by rfl) T.n_tuple T.tb_laid_on (List.mem_cons_of_mem _ (List.mem_cons_of_mem _ (List.mem_cons_of_mem _ List.mem_cons_self))) rfl (blkOk_by (own := [("below", 2), ("upper", 3)]) (N := ["under", "above", "below", "upper"]) (sc := defScope st_laid_on) (by decide +kernel)) (by decide +kernel) (i_zip (by rfl) T.n_zip (a_cons (e_fz (pv 0)) (a_cons (e_fz (pv 1)) a_nil))) (fun _ _ _ _ _ _ => (pg_tup rfl (show PGs _ _ (gNames [2, 3]) from (pgs_cons (pg_name (i := 2) sc_laid_on.nd rfl (.inl rfl)) (pgs_cons (pg_name (i := 3) sc_laid_on.nd rfl (.inl rfl)) pgs_nil))))) (tgT_ok rfl (by rfl)) (tgIn_T (by decide)) (fun _ _ _ _ _ _ => ts_nil) (fun _ _ _ _ _ _ hr => (e_op x_add m_add (e_var (pv 2)) (e_var (pv 3)))))))))

theorem ok_turned_over (T : Txt K mg base a fd cd tb) : FnOk P w K mg base (L2.CX P w) 5 (a 11) (fd 11) ["columns"] (spD (gxT K mg (tbs tb)) 1 false F_turned_over) :=
  fn0C T.f_turned_over T.cc_turned_over sc_turned_over (fun A outer s H E hr => by
  have tk := @tk_fn P w K mg base "turned_over" (a 11) ["columns", "turned", "column", "face"] (gxT K mg (tbs tb)) [] (.ref (cd 4)) A outer s H E (defScope st_turned_over)
  exact (show PSs _ _ (tS _ m_turned_over) from
    (b_cons (s_asg (i := 1) sc_turned_over.nd rfl (.inl rfl) (e_lst a_nil))
    (b_cons (s_for po_fn rfl (i_rev (by rfl) T.n_reversed (e_fz (pv 0))) (pg_name (i := 2) sc_turned_over.nd rfl (.inl rfl)) (tgN_ok (by rfl))
    (b_one (s_app (ps_expr (pe_bm PySem.F.plainAttrs_list PySem.F.slot_list_append PySem.F.type_list_append mt_append (pv 1) (pa_cons (e_tupG (own := [("face", 3)]) (k := 0) rfl sc_turned_over.nd (hr.mono (by decide)) (by rfl) T.n_tuple T.tb_turned_over (List.mem_cons_of_mem _ (List.mem_cons_of_mem _ (List.mem_cons_of_mem _ (List.mem_cons_of_mem _ List.mem_cons_self)))) rfl (blkOk_by (own := [("face", 3)]) (N := ["columns", "turned", "column", "face"]) (sc := defScope st_turned_over) (by decide +kernel)) (by decide +kernel) (i_rev (by rfl) T.n_reversed (e_fz (pv 2))) (fun _ _ _ _ _ _ => (pg_name (i := 3) sc_turned_over.nd rfl (.inl rfl))) (tgN_ok (by rfl)) (tgIn_N (by decide)) (fun _ _ _ _ _ _ => ts_nil) (fun _ _ _ _ _ _ hr => (e_op op_sub o_sub (e_un un_neg o_neg e_int) (e_var (pv 3))))) pa_nil))))))
    (b_one (s_ret (e_b1 (pe_callTy call_tuple_of (by rfl) T.n_tuple bb_tuple (pa_cons (e_var (pv 1)) pa_nil)) o_tupOf)))))))

theorem ok_folded (T : Txt K mg base a fd cd tb) : FnOk P w K mg base (L2.CX P w) 6 (a 12) (fd 12) ["columns", "line", "side", "way"] (spD (gxT K mg (tbs tb)) 4 false F_folded) :=
  fn0 T.f_folded sc_folded (fun cdv A outer s H E hr => by
  have tk := @tk_fn P w K mg base "folded" (a 12) ["columns", "line", "side", "way", "width", "moved", "rest"] (gxT K mg (tbs tb)) [] cdv A outer s H E (defScope st_folded)
  exact (show PSs _ _ (tS _ m_folded) from
    (b_cons (s_if (t_cmp (x_eq hr) o_eq bl_eq (e_var (pv 2)) (e_globS T.k_LEFT (by rfl)) (nomark _))
    (b_cons (s_asg (i := 5) sc_folded.nd rfl (.inl rfl) (e_call (ok_turned_over T) (hr.mono (by decide)) (by rfl) T.g_turned_over T.f_turned_over.kp T.b_turned_over tk (a_cons (e_sl (e_var (pv 0)) o_no (o_at (e_var (pv 1)))) a_nil) (len_cons len_nil)))
    (b_one (s_asg (i := 6) sc_folded.nd rfl (.inl rfl) (e_sl (e_var (pv 0)) (o_at (e_var (pv 1))) o_no))))
    (b_cons (s_asg (i := 5) sc_folded.nd rfl (.inl rfl) (e_call (ok_turned_over T) (hr.mono (by decide)) (by rfl) T.g_turned_over T.f_turned_over.kp T.b_turned_over tk (a_cons (e_sl (e_var (pv 0)) (o_at (e_var (pv 1))) o_no) a_nil) (len_cons len_nil)))
    (b_one (s_asg (i := 6) sc_folded.nd rfl (.inl rfl) (e_sl (e_var (pv 0)) o_no (o_at (e_var (pv 1))))))))
    (b_cons (s_asg (i := 4) sc_folded.nd rfl (.inl rfl) (e_b2 (pe_callB (call_max2 rfl) (by rfl) T.n_max bb_max (pa_cons (e_b1 (pe_callB call_len (by rfl) T.n_len bb_len (pa_cons (e_var (pv 5)) pa_nil)) o_len) (pa_cons (e_b1 (pe_callB call_len (by rfl) T.n_len bb_len (pa_cons (e_var (pv 6)) pa_nil)) o_len) pa_nil))) o_max2))
    (b_cons (s_if (t_cmp (x_eq hr) o_eq bl_eq (e_var (pv 2)) (e_globS T.k_LEFT (by rfl)) (nomark _))
    (b_cons (s_asg (i := 5) sc_folded.nd rfl (.inl rfl) (e_op x_add m_add (e_var (pv 5)) (e_op x_rep o_rep (e_tup (a_cons (e_tup a_nil) a_nil)) (e_op op_sub o_sub (e_var (pv 4)) (e_b1 (pe_callB call_len (by rfl) T.n_len bb_len (pa_cons (e_var (pv 5)) pa_nil)) o_len)))))
    (b_one (s_asg (i := 6) sc_folded.nd rfl (.inl rfl) (e_op x_add m_add (e_var (pv 6)) (e_op x_rep o_rep (e_tup (a_cons (e_tup a_nil) a_nil)) (e_op op_sub o_sub (e_var (pv 4)) (e_b1 (pe_callB call_len (by rfl) T.n_len bb_len (pa_cons (e_var (pv 6)) pa_nil)) o_len)))))))
    (b_cons (s_asg (i := 5) sc_folded.nd rfl (.inl rfl) (e_op x_add m_add (e_op x_rep o_rep (e_tup (a_cons (e_tup a_nil) a_nil)) (e_op op_sub o_sub (e_var (pv 4)) (e_b1 (pe_callB call_len (by rfl) T.n_len bb_len (pa_cons (e_var (pv 5)) pa_nil)) o_len))) (e_var (pv 5))))
    (b_one (s_asg (i := 6) sc_folded.nd rfl (.inl rfl) (e_op x_add m_add (e_op x_rep o_rep (e_tup (a_cons (e_tup a_nil) a_nil)) (e_op op_sub o_sub (e_var (pv 4)) (e_b1 (pe_callB call_len (by rfl) T.n_len bb_len (pa_cons (e_var (pv 6)) pa_nil)) o_len))) (e_var (pv 6)))))))
    (b_cons (s_if (t_cmp (x_eq hr) o_eq bl_eq (e_var (pv 3)) (e_globS T.k_UP (by rfl)) (nomark _))
    (b_one (s_ret (e_call (ok_laid_on T) (hr.mono (by decide)) (by rfl) T.g_laid_on T.f_laid_on.kp T.b_laid_on tk (a_cons (e_fz (pv 6)) (a_cons (e_fz (pv 5)) a_nil)) (len_cons (len_cons len_nil)))))
    b_nil)
    (b_one (s_ret (e_call (ok_laid_on T) (hr.mono (by decide)) (by rfl) T.g_laid_on T.f_laid_on.kp T.b_laid_on tk (a_cons (e_fz (pv 5)) (a_cons (e_fz (pv 6)) a_nil)) (len_cons (len_cons len_nil)))))))))))

theorem ok_simple (T : Txt K mg base a fd cd tb) : FnOk P w K mg base (L2.CX P w) 13 (a 13) (fd 13) ["n", "deeds"] (spD (gxT K mg (tbs tb)) 2 false F_simple) :=
  fn0 T.f_simple sc_simple (fun cdv A outer s H E hr => by
  have tk := @tk_fn P w K mg base "simple" (a 13) ["n", "deeds", "columns", "line", "side", "way"] (gxT K mg (tbs tb)) [] cdv A outer s H E (defScope st_simple)
  exact (show PSs _ _ (tS _ m_simple) from
    (b_cons (s_drop (e_call (ok_check_count T) (hr.mono (by decide)) (by rfl) T.g_check_count T.f_check_count.kp T.b_check_count tk (a_cons (e_fz (pv 0)) (a_cons e_int (a_cons (e_globI T.k_MOST_PANELS (by rfl)) a_nil))) (len_cons (len_cons (len_cons len_nil)))))
    (b_cons (s_drop (e_call (ok_check_deeds T) (hr.mono (by decide)) (by rfl) T.g_check_deeds T.f_check_deeds.kp T.b_check_deeds tk (a_cons (e_fz (pv 1)) a_nil) (len_cons len_nil)))
    (b_cons (s_asg (i := 2) sc_simple.nd rfl (.inl rfl) (e_call (ok_flat_strip T) (hr.mono (by decide)) (by rfl) T.g_flat_strip T.f_flat_strip.kp T.b_flat_strip tk (a_cons (e_fz (pv 0)) a_nil) (len_cons len_nil)))
    (b_cons (s_for po_fn rfl (i_items (e_fz (pv 1))) (pg_tup rfl (show PGs _ _ (gNames [3, 4, 5]) from (pgs_cons (pg_name (i := 3) sc_simple.nd rfl (.inl rfl)) (pgs_cons (pg_name (i := 4) sc_simple.nd rfl (.inl rfl)) (pgs_cons (pg_name (i := 5) sc_simple.nd rfl (.inl rfl)) pgs_nil))))) (tgT_ok rfl (by rfl))
    (b_cons (s_if (t_not (t_chain op_le op_lt (b_int _) (b_int _) (bl_cmp _) e_int (e_var (pv 3)) (e_b1 (pe_callB call_len (by rfl) T.n_len bb_len (pa_cons (e_var (pv 2)) pa_nil)) o_len)))
    (b_one (s_raise rfl tk (pmk_own PySem.F.excBase_ValueError T.x_BadDeeds T.e_BadDeeds.g T.e_BadDeeds.k (raises_own T.e_BadDeeds.b T.e_BadDeeds.t) (by rfl)) (fun _ _ _ h => h) (T.c_BadDeeds)))
    b_nil)
    (b_one (s_asg (i := 2) sc_simple.nd rfl (.inl rfl) (e_call (ok_folded T) (hr.mono (by decide)) (by rfl) T.g_folded T.f_folded.kp T.b_folded tk (a_cons (e_fz (pv 2)) (a_cons (e_fz (pv 3)) (a_cons (e_fz (pv 4)) (a_cons (e_fz (pv 5)) a_nil)))) (len_cons (len_cons (len_cons (len_cons len_nil)))))))))
    (b_one (s_ret (e_call (ok_panels_in T) (hr.mono (by decide)) (by rfl) T.g_panels_in T.f_panels_in.kp T.b_panels_in tk (a_cons (e_fz (pv 2)) a_nil) (len_cons len_nil))))))))))

theorem ok__law_place (T : Txt K mg base a fd cd tb) : FnOk P w K mg base (L2.CX P w) 1 (a 14) (fd 14) ["columns", "deed"] (spD (gxT K mg (tbs tb)) 2 false F__law_place) :=
  fn0 T.f__law_place sc__law_place (fun cdv A outer s H E hr => by
  have tk := @tk_fn P w K mg base "_law_place" (a 14) ["columns", "deed", "spots", "at", "rows", "spot", "turned", "pile", "pair"] (gxT K mg (tbs tb)) [] cdv A outer s H E (defScope st__law_place)
  exact (show PSs _ _ (tS _ m__law_place) from
    (b_cons (s_asg (i := 2) sc__law_place.nd rfl (.inl rfl) e_dnewK)
    (b_cons (s_for po_fn rfl (i_range1 (by rfl) T.n_range (a_cons (e_b1 (pe_callB call_len (by rfl) T.n_len bb_len (pa_cons (e_var (pv 0)) pa_nil)) o_len) a_nil)) (pg_name (i := 3) sc__law_place.nd rfl (.inl rfl)) (tgN_ok (by rfl))
    (b_cons (s_asg (i := 6) sc__law_place.nd rfl (.inl rfl) (e_cmp op_lt o_lt (e_var (pv 3)) (e_ix ix_seq o_ix (e_var (pv 1)) e_int (fun _ _ => rfl)) (nomark _)))
    (b_cons (s_if (t_cmp (x_eq hr) o_eq bl_eq (e_ix ix_seq o_ix (e_var (pv 1)) e_int (fun _ _ => rfl)) e_str (nomark _))
    (b_one (s_asg (i := 6) sc__law_place.nd rfl (.inl rfl) (e_not (e_var (pv 6)))))
    b_nil)
    (b_cons (s_asg (i := 5) sc__law_place.nd rfl (.inl rfl) (e_fz (pv 3)))
    (b_cons (s_asg (i := 7) sc__law_place.nd rfl (.inl rfl) (e_b1 (pe_callTy call_list_of (by rfl) T.n_list bb_list (pa_cons (e_ix ix_seq o_ix (e_var (pv 0)) (e_var (pv 3)) (fun _ _ => rfl)) pa_nil)) o_lstOf))
    (b_cons (s_if (t_any (e_var (pv 6)))
    (b_cons (s_asg (i := 5) sc__law_place.nd rfl (.inl rfl) (e_op op_sub o_sub (e_op op_sub o_sub (e_op op_mul o_mul e_int (e_ix ix_seq o_ix (e_var (pv 1)) e_int (fun _ _ => rfl))) e_int) (e_var (pv 3))))
    (b_one (s_asg (i := 7) sc__law_place.nd rfl (.inl rfl) (e_rev (e_var (pv 7))))))
    b_nil)
    (b_cons (s_if (t_cmp (op_dNotIn hr.u1) (o_kIn true) bl_kIn (e_var (pv 5)) (e_var (pv 2)) (by with_unfolding_all rfl))
    (b_one (s_putN (ps_dput hr.u1 (pv 2) (e_var (pv 5)) (e_lst (a_cons (e_lst a_nil) (a_cons (e_lst a_nil) a_nil))) (by rfl))))
    b_nil)
    (b_one (s_setK (ps_asg (e_fz (pv 7)) (pg_sub (pe_dget hr.u1 (pv 2) (e_var (pv 5)) (fun _ _ => rfl)) (e_b1 (pe_callTy call_int1 (by rfl) T.n_int bb_int (pa_cons (e_var (pv 6)) pa_nil)) o_int1) set_list)))))))))))
    (b_cons (s_asg (i := 4) sc__law_place.nd rfl (.inl rfl) (e_lst a_nil))
    (b_cons (s_for po_fn rfl (i_items (e_b1 (pe_callB (x_sortA hr.u65) (by rfl) T.n_sorted bb_sorted (pa_cons (e_lc (own := [("spot", 5)]) rfl sc__law_place.nd (i_keysK (pv 2)) (blkOk_by (own := [("spot", 5)]) (N := ["columns", "deed", "spots", "at", "rows", "spot", "turned", "pile", "pair"]) (sc := defScope st__law_place) (by decide +kernel)) (fun _ _ _ _ _ => (pg_name (i := 5) sc__law_place.nd rfl (.inl rfl))) (tgN_ok (by rfl)) (tgIn_N (by decide)) (fun _ _ _ _ _ => ts_nil) (fun _ _ _ _ _ => (e_fz (pv 5)))) pa_nil)) o_sortA)) (pg_name (i := 5) sc__law_place.nd rfl (.inl rfl)) (tgN_ok (by rfl))
    (b_cons (s_asg (i := 8) sc__law_place.nd rfl (.inl rfl) (e_kget hr.u1 (e_var (pv 2)) (e_var (pv 5)) (fun _ _ => rfl)))
    (b_one (s_if (t_cmp (x_eq hr) o_eq bl_eq (e_ix ix_seq o_ix (e_var (pv 1)) e_int (fun _ _ => rfl)) e_str (nomark _))
    (b_one (s_app (ps_expr (pe_bm PySem.F.plainAttrs_list PySem.F.slot_list_append PySem.F.type_list_append mt_append (pv 4) (pa_cons (e_b1 (pe_callTy call_tuple_of (by rfl) T.n_tuple bb_tuple (pa_cons (e_op x_addW m_addW (e_ix ix_seq o_ix (e_var (pv 8)) e_int (fun _ _ => rfl)) (e_ix ix_seq o_ix (e_var (pv 8)) e_int (fun _ _ => rfl))) pa_nil)) o_tupOf) pa_nil)))))
    (b_one (s_app (ps_expr (pe_bm PySem.F.plainAttrs_list PySem.F.slot_list_append PySem.F.type_list_append mt_append (pv 4) (pa_cons (e_b1 (pe_callTy call_tuple_of (by rfl) T.n_tuple bb_tuple (pa_cons (e_op x_addW m_addW (e_ix ix_seq o_ix (e_var (pv 8)) e_int (fun _ _ => rfl)) (e_ix ix_seq o_ix (e_var (pv 8)) e_int (fun _ _ => rfl))) pa_nil)) o_tupOf) pa_nil)))))))))
    (b_one (s_ret (e_b1 (pe_callTy call_tuple_of (by rfl) T.n_tuple bb_tuple (pa_cons (e_var (pv 4)) pa_nil)) o_tupOf)))))))))

theorem ok_law (T : Txt K mg base a fd cd tb) : FnOk P w K mg base (L2.CX P w) 14 (a 15) (fd 15) ["script"] (spD (gxT K mg (tbs tb)) 1 false F_law) :=
  fn0 T.f_law sc_law (fun cdv A outer s H E hr => by
  have tk := @tk_fn P w K mg base "law" (a 15) ["script", "state", "panels", "columns", "deeds", "behind", "k", "handed", "line", "panel"] (gxT K mg (tbs tb)) [] cdv A outer s H E (defScope st_law)
  exact (show PSs _ _ (tS _ m_law) from
    (b_cons (s_asg (i := 1) sc_law.nd rfl (.inl rfl) (e_call (ok__law_start T) (hr.mono (by decide)) (by rfl) T.g__law_start T.f__law_start.kp T.b__law_start tk (a_cons (e_fz (pv 0)) a_nil) (len_cons len_nil)))
    (b_cons (s_asg (i := 2) sc_law.nd rfl (.inl rfl) (e_op x_add m_add e_int (e_callL (ok__law_take T) (hr.mono (by decide)) (by rfl) T.g__law_take T.f__law_take.kp T.b__law_take tk (pv 1) (a_cons e_int a_nil) (len_cons len_nil))))
    (b_cons (s_asg (i := 3) sc_law.nd rfl (.inl rfl) (e_b1 (pe_callTy call_tuple_of (by rfl) T.n_tuple bb_tuple (pa_cons (e_lc (own := [("panel", 9)]) rfl sc_law.nd (i_range1 (by rfl) T.n_range (a_cons (e_fz (pv 2)) a_nil)) (blkOk_by (own := [("panel", 9)]) (N := ["script", "state", "panels", "columns", "deeds", "behind", "k", "handed", "line", "panel"]) (sc := defScope st_law) (by decide +kernel)) (fun _ _ _ _ _ => (pg_name (i := 9) sc_law.nd rfl (.inl rfl))) (tgN_ok (by rfl)) (tgIn_N (by decide)) (fun _ _ _ _ _ => ts_nil) (fun _ _ _ _ _ => (e_tup (a_cons (e_fz (pv 9)) a_nil)))) pa_nil)) o_tupOf))
    (b_cons (s_asg (i := 4) sc_law.nd rfl (.inl rfl) (e_lst a_nil))
    (b_cons (s_asg (i := 5) sc_law.nd rfl (.inl rfl) (e_lst (a_cons (e_fz (pv 3)) a_nil)))
    (b_cons (s_for po_fn rfl (i_range1 (by rfl) T.n_range (a_cons (e_callL (ok__law_take T) (hr.mono (by decide)) (by rfl) T.g__law_take T.f__law_take.kp T.b__law_take tk (pv 1) (a_cons e_int a_nil) (len_cons len_nil)) a_nil)) (pg_name (i := 6) sc_law.nd rfl (.inl rfl)) (tgN_ok (by rfl))
    (b_one (s_if (t_cmp op_gt o_gt (bl_cmp _) (e_b1 (pe_callB call_len (by rfl) T.n_len bb_len (pa_cons (e_var (pv 3)) pa_nil)) o_len) e_int (nomark _))
    (b_cons (s_asg (i := 8) sc_law.nd rfl (.inl rfl) (e_op x_add m_add e_int (e_callL (ok__law_take T) (hr.mono (by decide)) (by rfl) T.g__law_take T.f__law_take.kp T.b__law_take tk (pv 1) (a_cons (e_op op_sub o_sub (e_b1 (pe_callB call_len (by rfl) T.n_len bb_len (pa_cons (e_var (pv 3)) pa_nil)) o_len) e_int) a_nil) (len_cons len_nil))))
    (b_cons (s_if (t_cmp (x_eq hr) o_eq bl_eq (e_callL (ok__law_take T) (hr.mono (by decide)) (by rfl) T.g__law_take T.f__law_take.kp T.b__law_take tk (pv 1) (a_cons e_int a_nil) (len_cons len_nil)) e_int (nomark _))
    (b_one (s_asg (i := 8) sc_law.nd rfl (.inl rfl) (e_ix ix_seq o_ix (e_tup (a_cons e_int (a_cons (e_op op_sub o_sub (e_b1 (pe_callB call_len (by rfl) T.n_len bb_len (pa_cons (e_var (pv 3)) pa_nil)) o_len) e_int) a_nil))) (e_callL (ok__law_take T) (hr.mono (by decide)) (by rfl) T.g__law_take T.f__law_take.kp T.b__law_take tk (pv 1) (a_cons e_int a_nil) (len_cons len_nil)) (fun _ _ => rfl))))
    b_nil)
    (b_cons (s_app (ps_expr (pe_bm PySem.F.plainAttrs_list PySem.F.slot_list_append PySem.F.type_list_append mt_append (pv 4) (pa_cons (e_tup (a_cons (e_fz (pv 8)) (a_cons (e_ix ix_seq o_ix (e_tup (a_cons e_str (a_cons e_str a_nil))) (e_callL (ok__law_take T) (hr.mono (by decide)) (by rfl) T.g__law_take T.f__law_take.kp T.b__law_take tk (pv 1) (a_cons e_int a_nil) (len_cons len_nil)) (fun _ _ => rfl)) (a_cons (e_ix ix_seq o_ix (e_tup (a_cons e_str (a_cons e_str a_nil))) (e_callL (ok__law_take T) (hr.mono (by decide)) (by rfl) T.g__law_take T.f__law_take.kp T.b__law_take tk (pv 1) (a_cons e_int a_nil) (len_cons len_nil)) (fun _ _ => rfl)) a_nil)))) pa_nil))))
    (b_cons (s_asg (i := 3) sc_law.nd rfl (.inl rfl) (e_call (ok__law_place T) (hr.mono (by decide)) (by rfl) T.g__law_place T.f__law_place.kp T.b__law_place tk (a_cons (e_fz (pv 3)) (a_cons (e_ix ix_seq o_ix (e_var (pv 4)) (e_un un_neg o_neg e_int) (fun _ _ => rfl)) a_nil)) (len_cons (len_cons len_nil))))
    (b_one (s_app (ps_expr (pe_bm PySem.F.plainAttrs_list PySem.F.slot_list_append PySem.F.type_list_append mt_append (pv 5) (pa_cons (e_fz (pv 3)) pa_nil)))))))))
    b_nil)))
    (b_cons (s_for po_fn rfl (i_range1 (by rfl) T.n_range (a_cons (e_b1 (pe_callB call_len (by rfl) T.n_len bb_len (pa_cons (e_var (pv 5)) pa_nil)) o_len) a_nil)) (pg_name (i := 6) sc_law.nd rfl (.inl rfl)) (tgN_ok (by rfl))
    (b_cons (s_asg (i := 7) sc_law.nd rfl (.inl rfl) (e_sl (e_var (pv 4)) o_no (o_at (e_var (pv 6)))))
    (b_cons (s_if (t_cmp (x_eq hr) o_eq bl_eq (e_callL (ok__law_take T) (hr.mono (by decide)) (by rfl) T.g__law_take T.f__law_take.kp T.b__law_take tk (pv 1) (a_cons e_int a_nil) (len_cons len_nil)) e_int (nomark _))
    (b_one (s_asg (i := 7) sc_law.nd rfl (.inl rfl) (e_b1 (pe_callTy call_tuple_of (by rfl) T.n_tuple bb_tuple (pa_cons (e_sl (e_var (pv 4)) o_no (o_at (e_var (pv 6)))) pa_nil)) o_tupOf)))
    b_nil)
    (b_cons (s_if (PW.pt (w_or (t_not (t_any (e_call (ok__law_alike T 6) (hr.mono (by decide)) (by rfl) T.g__law_alike T.f__law_alike.kp T.b__law_alike tk (a_cons (e_call (ok_simple T) (hr.mono (by decide)) (by rfl) T.g_simple T.f_simple.kp T.b_simple tk (a_cons (e_fz (pv 2)) (a_cons (e_fz (pv 7)) a_nil)) (len_cons (len_cons len_nil))) (a_cons (e_ix ix_seq o_ix (e_var (pv 5)) (e_var (pv 6)) (fun _ _ => rfl)) a_nil)) (len_cons (len_cons len_nil))))) (w_or1 (t_cmp (x_ne hr) o_ne bl_ne (e_b1 (pe_callTy call_list_of (by rfl) T.n_list bb_list (pa_cons (e_var (pv 7)) pa_nil)) o_lstOf) (e_sl (e_var (pv 4)) o_no (o_at (e_var (pv 6)))) (nomark _)))))
    (b_one (s_ret e_bl))
    b_nil)
    (b_one (s_if (PW.pt (w_and (t_cmp op_lt o_lt (bl_cmp _) (e_var (pv 2)) e_int (nomark _)) (w_and1 (t_not (t_any (e_call (ok__law_alike T 6) (hr.mono (by decide)) (by rfl) T.g__law_alike T.f__law_alike.kp T.b__law_alike tk (a_cons (e_ix ix_seq o_ix (e_call (ok_simple T) (hr.mono (by decide)) (by rfl) T.g_simple T.f_simple.kp T.b_simple tk (a_cons (e_op x_add m_add (e_var (pv 2)) e_int) (a_cons (e_tup a_nil) a_nil)) (len_cons (len_cons len_nil))) (e_un un_neg o_neg e_int) (fun _ _ => rfl)) (a_cons (e_tup (a_cons (e_fz (pv 2)) a_nil)) a_nil)) (len_cons (len_cons len_nil))))))))
    (b_one (s_ret e_bl))
    b_nil))))))
    (b_one (s_ret (e_call (ok__law_alike T 6) (hr.mono (by decide)) (by rfl) T.g__law_alike T.f__law_alike.kp T.b__law_alike tk (a_cons (e_callK [1, 0] (ok_simple T) (hr.mono (by decide)) (by rfl) T.g_simple T.f_simple.kp (T.f_simple.bindsK (fun _ _ _ _ _ _ us hl => match us, hl with | [_, _], _ => rfl)) rfl tk (k_cons (e_fz (pv 4)) (k_cons (e_fz (pv 2)) k_nil)) (len_cons (len_cons len_nil)) (fun ws hl => match ws, hl with | [_, _], _ => rfl)) (a_cons (e_fz (pv 3)) a_nil)) (len_cons (len_cons len_nil))))))))))))))

end
end Lw
namespace Lw
open PySem L2 Dd
/-! what the law draws from the script -/
structure S where
  cells : List Int
  here : Int
  first : Int
  plain : Bool
  mixed : Int
def S.d (s : S) : D := .box true .lst [.box false .lst (s.cells.map D.int), .int s.here, .int s.first, .bl s.plain, .int s.mixed]
def S.cell (s : S) : Int := if 0 < s.cells.length then (s.cells[(s.here % (s.cells.length : Int)).toNat]?).getD 0 else 0
def S.mix (s : S) : Int := (s.mixed * 48271 + s.cell + 7 * s.here + 1) % 2147483647
def S.take (s : S) (m : Int) : Int := if 0 < s.first then s.first % m else if s.plain = true ∧ s.here < (s.cells.length : Int) then s.cell % m else ((s.mix * s.mix + 69621 * s.mix) % 2147483629 / 5) % m
def S.next (s : S) (m : Int) : S := if 0 < s.first then { s with first := s.first / m } else if s.plain = true ∧ s.here < (s.cells.length : Int) then { s with here := s.here + 1 } else { s with here := s.here + 1, mixed := s.mix }
theorem S.cell_at (s : S) (h : 0 < s.cells.length) : atI (s.cells.map D.int) (s.here % (s.cells.length : Int)) = some (D.int s.cell) := by
  have h1 : 0 ≤ s.here % (s.cells.length : Int) := Int.emod_nonneg _ (by omega)
  have h2 : s.here % (s.cells.length : Int) < s.cells.length := Int.emod_lt_of_pos _ (by omega)
  have h3 : (s.here % (s.cells.length : Int)).toNat < s.cells.length := by omega
  rw [show s.here % (s.cells.length : Int) = (((s.here % (s.cells.length : Int)).toNat : Nat) : Int) by omega]
  refine atI_nat ?_
  rw [List.getElem?_map]
  unfold S.cell
  rw [if_pos h, List.getElem?_eq_getElem h3] <;> rfl
theorem S.mix_nn (s : S) : 0 ≤ s.mix := Int.emod_nonneg _ (by decide)
theorem S.mix_lt (s : S) : s.mix < 2147483647 := Int.emod_lt_of_pos _ (by decide)
theorem S.take_nn (s : S) {m : Int} (h : 0 < m) : 0 ≤ s.take m := by
  unfold S.take
  split
  · exact Int.emod_nonneg _ (by omega)
  · split <;> exact Int.emod_nonneg _ (by omega)
theorem S.take_lt (s : S) {m : Int} (h : 0 < m) : s.take m < m := by
  unfold S.take
  split
  · exact Int.emod_lt_of_pos _ h
  · split <;> exact Int.emod_lt_of_pos _ h
theorem take_eq (s : S) (m : Int) (h : 0 < m) (h3 : m < 18446744073709551616) : F__law_take [s.d, .int m] = .ok (.int (s.take m)) [(s.next m).d] := by
  have h2 : m.natAbs < 18446744073709551616 := by omega
  have hm := s.mix_nn
  have hm2 := s.mix_lt
  have q1 : okMul s.mix s.mix = true := by
    simp only [okMul, Bool.or_eq_true, decide_eq_true_eq]
    omega
  have q2 : ∀ i j : Int, j.natAbs < 2 ^ 64 → okMul i j = true := fun i j z => by
    simp only [okMul, Bool.or_eq_true, decide_eq_true_eq]
    exact .inr z
  have q2' : ∀ i j : Int, i.natAbs < 2 ^ 64 → okMul i j = true := fun i j z => by
    simp only [okMul, Bool.or_eq_true, decide_eq_true_eq]
    exact .inl z
  have q3 : ∀ c, c = s.cell → (s.mixed * 48271 + c + 7 * s.here + 1) % 2147483647 = s.mix := fun c e => by rw [e] <;> rfl
  have q4 : okMul 69621 s.mix = true := q2' _ _ (by decide)
  have q5 : okMul 7 s.here = true := q2' _ _ (by decide)
  have q6 : okMul s.mixed 48271 = true := q2 _ _ (by decide)
  have q7 := q3 _ rfl
  by_cases hf : 0 < s.first
  · simp [F__law_take, m__law_take, S.d, hf, h, h2, S.take, S.next]
  · by_cases hc : 0 < s.cells.length
    · have q8 := s.cell_at hc
      by_cases hq : s.plain = true ∧ s.here < (s.cells.length : Int)
      · simp [F__law_take, m__law_take, S.d, hf, h, hc, hq.1, hq.2, q8, S.take, S.next]
      · cases hp : s.plain with
        | true =>
          have hn : ¬ s.here < (s.cells.length : Int) := fun z => hq ⟨hp, z⟩
          simp [F__law_take, m__law_take, S.d, hf, h, hc, hp, hn, q8, S.take, S.next, q1, q4, q5, q6, q7]
        | false => simp [F__law_take, m__law_take, S.d, hf, h, hc, hp, q8, S.take, S.next, q1, q4, q5, q6, q7]
    · have e : s.cells = [] := List.length_eq_zero_iff.mp (by omega)
      have q8 : s.cell = 0 := by
        unfold S.cell
        rw [if_neg hc]
      rw [q8, Int.add_zero] at q7
      cases hp : s.plain with
      | false => simp [F__law_take, m__law_take, S.d, hf, h, e, hp, S.take, S.next, q1, q4, q5, q6, q7]
      | true =>
        by_cases hn : s.here < (0 : Int)
        · simp [F__law_take, m__law_take, S.d, hf, h, e, hp, hn, q8, S.take, S.next, q1, q4, q5, q6, q7]
        · simp [F__law_take, m__law_take, S.d, hf, h, e, hp, hn, S.take, S.next, q1, q4, q5, q6, q7]
/-- as it begins -/
theorem start_eq (ns : List Int) (hl : ns.length ≤ 63) : ∃ s : S, F__law_start [D.fl (ns.map D.int)] = .ok s.d [] := by
  have hf : frzL (ns.map D.int) = true := frzL_ints ns
  obtain ⟨e, ρ', h1, h2⟩ := lc_do (it := dItems (dFz 0)) (t := tgN 4) (test := dYes) (elt := bind1 fInt1 (dVar 4)) (vs := [4]) (ρ := [some (D.fl (ns.map D.int)), none, none, none, none]) (ρ1 := [some (D.fl (ns.map D.int)), none, none, none, none]) (f := true) (e := false) ns D.int (fun n => some (.int n))
    (fun ρ => ρ = [some (D.fl (ns.map D.int)), none, none, none, none]) (by simp) (by omega) rfl (fun n _ ρ h => by
      subst h
      refine ⟨_, rfl, .inr ⟨false, _, true, .int n, false, _, rfl, rfl, rfl, rfl, rfl⟩⟩)
  have h3 : ρ' = [some (D.fl (ns.map D.int)), none, none, none, none] := by
    rcases h2 with h | h <;> exact h
  subst h3
  have fm : ns.filterMap (fun n => some (D.int n)) = ns.map D.int := by
    induction ns with
    | nil => rfl
    | cons a r ih => simp
  rw [fm] at h1
  have pw : (10 : Int) ^ 18 = 1000000000000000000 := by decide
  match ns, h1 with
  | [], h1 =>
    simp only [List.map_nil] at h1
    exact ⟨⟨[], 0, 0, false, 12345⟩, by simp [F__law_start, m__law_start, h1, S.d, -v_dLc]⟩
  | [x], h1 =>
    simp only [List.map_cons, List.map_nil] at h1
    by_cases hx : (1000000000000000000 : Int) ≤ x
    · exact ⟨⟨[x], 0, x, false, 12346⟩, by simp [F__law_start, m__law_start, h1, S.d, -v_dLc, hx, fPow, fEq]⟩
    · exact ⟨⟨[x], 0, 0, false, 12346⟩, by simp [F__law_start, m__law_start, h1, S.d, -v_dLc, hx, fPow, fEq]⟩
  | x :: y :: r, h1 =>
    simp only [List.map_cons] at h1
    by_cases hx : (1000000000000000000 : Int) ≤ x
    · exact ⟨⟨x :: y :: r, 0, x, decide (y % 2 = 0), 12345 + ((r.length : Int) + 1 + 1)⟩, by simp [F__law_start, m__law_start, h1, S.d, -v_dLc, hx, fPow, fEq, eqV', sv, show (0:Int) < (r.length : Int) + 1 + 1 by omega, show (1:Int) < (r.length : Int) + 1 + 1 by omega]⟩
    · exact ⟨⟨x :: y :: r, 0, 0, decide (y % 2 = 0), 12345 + ((r.length : Int) + 1 + 1)⟩, by simp [F__law_start, m__law_start, h1, S.d, -v_dLc, hx, fPow, fEq, eqV', sv, show (0:Int) < (r.length : Int) + 1 + 1 by omega, show (1:Int) < (r.length : Int) + 1 + 1 by omega]⟩
/-! plain data, alike to itself -/
def pl : Nat → D → Bool
  | 0, _ => false
  | n + 1, d => match d with
    | .box o .tup ds => !o && (decide (ds.length ≤ 1000000) && ds.all (pl n))
    | .box _ _ _ => false
    | _ => true
theorem pl_frz : ∀ (n : Nat) (d : D), pl n d = true → frz d = true
  | 0, _, h => nomatch h
  | n + 1, d, h => by
    match d, h with
    | .non, _ => rfl
    | .bl _, _ => rfl
    | .int _, _ => rfl
    | .str _, _ => rfl
    | .box false .tup ds, h =>
      simp [pl] at h
      have q : ∀ l : List D, (∀ x ∈ l, pl n x = true) → frzL l = true := fun l => by
        induction l with
        | nil => intro _; rfl
        | cons a l ih => intro z; simp [pl_frz n a (z a List.mem_cons_self), ih fun x hx => z x (List.mem_cons_of_mem _ hx)]
      simp [q ds h.2]
theorem alike_refl (n : Nat) : ∀ d : D, pl n d = true → F__law_alike n [d, d] = .ok (.bl true) [] := by
  induction n with
  | zero => intro _ h; exact nomatch h
  | succ n IH =>
    intro d h
    show runD false 3 (m__law_alike (F__law_alike n)) [d, d] = _
    match d, h with
    | .non, _ => simp [m__law_alike]
    | .bl b, _ => simp [m__law_alike, fEq, eqV', isi]
    | .int _, _ => simp [m__law_alike, fEq, eqV', isi]
    | .str _, _ => simp [m__law_alike, fEq, eqV', isi]
    | .box false .tup ds, h =>
      simp [pl] at h
      have hz := pl_frz (n + 1) (.box false .tup ds) (by simp [pl, h.1] <;> exact h.2)
      have fr : frzL ds = true := by simpa using hz
      obtain ⟨e, ρ', h1, h2⟩ := lc_do (it := dRange1 (dCons (bind1 fLen (dVar 1)) dNil)) (t := tgN 2) (test := dYes) (elt := dCall (F__law_alike n) (dCons (bind2 fIx (dVar 0) (dVar 2)) (dCons (bind2 fIx (dVar 1) (dVar 2)) dNil))) (vs := [2])
        (ρ := [some (.box false .tup ds), some (.box false .tup ds), none]) (ρ1 := [some (.box false .tup ds), some (.box false .tup ds), none]) (f := true) (e := false) (List.range ds.length) (fun i => D.int (0 + (i : Int))) (fun _ => some (.bl true))
        (fun ρ => ρ = [some (.box false .tup ds), some (.box false .tup ds), none]) (by
          have c : okR (ds.length : Int) = true := decide_eq_true (by have := h.1; omega)
          simp [c, rangeD]) (by simpa using h.1) rfl (fun i hi ρ hρ => by
          subst hρ
          have hi : i < ds.length := List.mem_range.mp hi
          have ha : atI ds (i : Int) = some ds[i] := atI_nat (List.getElem?_eq_getElem hi)
          have hp : pl n ds[i] = true := h.2 _ (List.getElem_mem hi)
          have hf := pl_frz n _ hp
          have ih := IH _ hp
          refine ⟨[some (.box false .tup ds), some (.box false .tup ds), some (D.int (0 + (i : Int)))], rfl, .inr ⟨false, _, true, .bl true, false, [some (.box false .tup ds), some (.box false .tup ds), some (D.int (0 + (i : Int)))], rfl, rfl, ?_, rfl, rfl⟩⟩
          simp [ha, hf, ih])
      have h3 : ρ' = [some (.box false .tup ds), some (.box false .tup ds), none] := by
        rcases h2 with h | h <;> exact h
      subst h3
      have al : ∀ l : List Nat, blL (l.filterMap fun _ => some (D.bl true)) = some (l.map fun _ => true) := fun l => by
        induction l with
        | nil => rfl
        | cons a l ih => simp at ih; simp [blL, ih]
      have al2 : ∀ l : List Nat, (l.map fun _ => true).all id = true := fun l => by
        induction l with
        | nil => rfl
        | cons a l ih => simp
      simp [m__law_alike, isi, fNe, eqV', -v_dLc, h1, fAll]
      have z := al (List.range ds.length)
      simp at z
      simp [z]
def p_law_0 : DS := (dAsg 1 (dCall F__law_start (dCons (dFz 0) dNil)))
def p_law_1 : DS := (dAsg 2 (bind2 fPlus (dC (.int 1)) (dCallL F__law_take 1 (dCons (dC (.int 9)) dNil))))
def p_law_2 : DS := (dAsg 3 (bind1 fTupOf (dLc (dRange1 (dCons (dFz 2) dNil)) (tgN 9) dYes (dTup (dCons (dFz 9) dNil)) [9])))
def p_law_3 : DS := (dAsg 4 (dLst dNil))
def p_law_4 : DS := (dAsg 5 (dLst (dCons (dFz 3) dNil)))
def p_law_5bt_0 : DS := (dAsg 8 (bind2 fPlus (dC (.int 1)) (dCallL F__law_take 1 (dCons (bind2 fSub (bind1 fLen (dVar 3)) (dC (.int 1))) dNil))))
def p_law_5bt_1 : DS := (dIf (dT (bind2 fEq (dCallL F__law_take 1 (dCons (dC (.int 3)) dNil)) (dC (.int 0)))) (dAsg 8 (bind2 fIx (dTup (dCons (dC (.int 1)) (dCons (bind2 fSub (bind1 fLen (dVar 3)) (dC (.int 1))) dNil))) (dCallL F__law_take 1 (dCons (dC (.int 2)) dNil)))) dPass)
def p_law_5bt_2 : DS := (dApp 4 (dTup (dCons (dFz 8) (dCons (bind2 fIx (dTup (dCons (dC (.str "left")) (dCons (dC (.str "right")) dNil))) (dCallL F__law_take 1 (dCons (dC (.int 2)) dNil))) (dCons (bind2 fIx (dTup (dCons (dC (.str "up")) (dCons (dC (.str "down")) dNil))) (dCallL F__law_take 1 (dCons (dC (.int 2)) dNil))) dNil)))))
def p_law_5bt_3 : DS := (dAsg 3 (dCall F__law_place (dCons (dFz 3) (dCons (bind2 fIx (dVar 4) (bind1 fNeg (dC (.int 1)))) dNil))))
def p_law_5bt_4 : DS := (dApp 5 (dFz 3))
def p_law_5bt : DS := (dSeq (p_law_5bt_0) (dSeq (p_law_5bt_1) (dSeq (p_law_5bt_2) (dSeq (p_law_5bt_3) (p_law_5bt_4)))))
def p_law_5b : DS := (dIf (dT (bind2 fGt (bind1 fLen (dVar 3)) (dC (.int 1)))) (p_law_5bt) dPass)
def p_law_5 : DS := (dFor (dRange1 (dCons (dCallL F__law_take 1 (dCons (dC (.int 9)) dNil)) dNil)) (tgN 6) (p_law_5b))
def p_law_6b_0 : DS := (dAsg 7 (dSl (dVar 4) dNo (dAt (dVar 6))))
def p_law_6b_1 : DS := (dIf (dT (bind2 fEq (dCallL F__law_take 1 (dCons (dC (.int 2)) dNil)) (dC (.int 0)))) (dAsg 7 (bind1 fTupOf (dSl (dVar 4) dNo (dAt (dVar 6))))) dPass)
def p_law_6b_2 : DS := (dIf (dOr (dNot (dT (dCall (F__law_alike 6) (dCons (dCall F_simple (dCons (dFz 2) (dCons (dFz 7) dNil))) (dCons (bind2 fIx (dVar 5) (dVar 6)) dNil))))) (dT (bind2 fNe (bind1 fLstOf (dVar 7)) (dSl (dVar 4) dNo (dAt (dVar 6)))))) (dRet (dC (.bl false))) dPass)
def p_law_6b_3 : DS := (dIf (dAnd (dT (bind2 fLt (dVar 2) (dC (.int 9)))) (dNot (dT (dCall (F__law_alike 6) (dCons (bind2 fIx (dCall F_simple (dCons (bind2 fPlus (dVar 2) (dC (.int 1))) (dCons (dTup dNil) dNil))) (bind1 fNeg (dC (.int 1)))) (dCons (dTup (dCons (dFz 2) dNil)) dNil)))))) (dRet (dC (.bl false))) dPass)
def p_law_6b : DS := (dSeq (p_law_6b_0) (dSeq (p_law_6b_1) (dSeq (p_law_6b_2) (p_law_6b_3))))
def p_law_6 : DS := (dFor (dRange1 (dCons (bind1 fLen (dVar 5)) dNil)) (tgN 6) (p_law_6b))
def p_law_7 : DS := (dRet (dCall (F__law_alike 6) (dCons (dCall (dPerm [1, 0] F_simple) (dCons (dFz 4) (dCons (dFz 2) dNil))) (dCons (dFz 3) dNil))))
def p_law : DS := (dSeq (p_law_0) (dSeq (p_law_1) (dSeq (p_law_2) (dSeq (p_law_3) (dSeq (p_law_4) (dSeq (p_law_5) (dSeq (p_law_6) (p_law_7))))))))
theorem m_law_eq : m_law = p_law := rfl
def p__law_place_0 : DS := (dAsg 2 (dC (.box true (.dic []) [])))
def p__law_place_1b_0 : DS := (dAsg 6 (bind2 fLt (dVar 3) (bind2 fIx (dVar 1) (dC (.int 0)))))
def p__law_place_1b_1 : DS := (dIf (dT (bind2 fEq (bind2 fIx (dVar 1) (dC (.int 1))) (dC (.str "right")))) (dAsg 6 (dNotV (dVar 6))) dPass)
def p__law_place_1b_2 : DS := (dAsg 5 (dFz 3))
def p__law_place_1b_3 : DS := (dAsg 7 (bind1 fLstOf (bind2 fIx (dVar 0) (dVar 3))))
def p__law_place_1b_4t_0 : DS := (dAsg 5 (bind2 fSub (bind2 fSub (bind2 fMul (dC (.int 2)) (bind2 fIx (dVar 1) (dC (.int 0)))) (dC (.int 1))) (dVar 3)))
def p__law_place_1b_4t_1 : DS := (dAsg 7 (bind1 fRev (dVar 7)))
def p__law_place_1b_4t : DS := (dSeq (p__law_place_1b_4t_0) (p__law_place_1b_4t_1))
def p__law_place_1b_4 : DS := (dIf (dT (dVar 6)) (p__law_place_1b_4t) dPass)
def p__law_place_1b_5 : DS := (dIf (dT (bind2 (fKIn true) (dVar 5) (dVar 2))) (dPutN 2 (dVar 5) (dLst (dCons (dLst dNil) (dCons (dLst dNil) dNil)))) dPass)
def p__law_place_1b_6 : DS := (dSetK 2 (dVar 5) (bind1 fInt1 (dVar 6)) (dFz 7))
def p__law_place_1b : DS := (dSeq (p__law_place_1b_0) (dSeq (p__law_place_1b_1) (dSeq (p__law_place_1b_2) (dSeq (p__law_place_1b_3) (dSeq (p__law_place_1b_4) (dSeq (p__law_place_1b_5) (p__law_place_1b_6)))))))
def p__law_place_1 : DS := (dFor (dRange1 (dCons (bind1 fLen (dVar 0)) dNil)) (tgN 3) (p__law_place_1b))
def p__law_place_2 : DS := (dAsg 4 (dLst dNil))
def p__law_place_3b_0 : DS := (dAsg 8 (bind2 fKGet (dVar 2) (dVar 5)))
def p__law_place_3b_1 : DS := (dIf (dT (bind2 fEq (bind2 fIx (dVar 1) (dC (.int 2))) (dC (.str "up")))) (dApp 4 (bind1 fTupOf (bind2 fPlusW (bind2 fIx (dVar 8) (dC (.int 0))) (bind2 fIx (dVar 8) (dC (.int 1)))))) (dApp 4 (bind1 fTupOf (bind2 fPlusW (bind2 fIx (dVar 8) (dC (.int 1))) (bind2 fIx (dVar 8) (dC (.int 0)))))))
def p__law_place_3b : DS := (dSeq (p__law_place_3b_0) (p__law_place_3b_1))
def p__law_place_3 : DS := (dFor (dItems (bind1 fSortA (dLc (dKeysK 2) (tgN 5) dYes (dFz 5) [5]))) (tgN 5) (p__law_place_3b))
def p__law_place_4 : DS := (dRet (bind1 fTupOf (dVar 4)))
def p__law_place : DS := (dSeq (p__law_place_0) (dSeq (p__law_place_1) (dSeq (p__law_place_2) (dSeq (p__law_place_3) (p__law_place_4)))))
theorem m__law_place_eq : m__law_place = p__law_place := rfl
def p_simple_0 : DS := (dDrop (dCall F_check_count (dCons (dFz 0) (dCons (dC (.int 1)) (dCons (dC (.int 9)) dNil)))))
def p_simple_1 : DS := (dDrop (dCall F_check_deeds (dCons (dFz 1) dNil)))
def p_simple_2 : DS := (dAsg 2 (dCall F_flat_strip (dCons (dFz 0) dNil)))
def p_simple_3b_0 : DS := (dIf (dNot (dT (dChain fLe fLt (dC (.int 1)) (dVar 3) (bind1 fLen (dVar 2))))) (dRaise "BadDeeds") dPass)
def p_simple_3b_1 : DS := (dAsg 2 (dCall F_folded (dCons (dFz 2) (dCons (dFz 3) (dCons (dFz 4) (dCons (dFz 5) dNil))))))
def p_simple_3b : DS := (dSeq (p_simple_3b_0) (p_simple_3b_1))
def p_simple_3 : DS := (dFor (dItems (dFz 1)) (tgT [3, 4, 5]) (p_simple_3b))
def p_simple_4 : DS := (dRet (dCall F_panels_in (dCons (dFz 2) dNil)))
def p_simple : DS := (dSeq (p_simple_0) (dSeq (p_simple_1) (dSeq (p_simple_2) (dSeq (p_simple_3) (p_simple_4)))))
theorem m_simple_eq : m_simple = p_simple := rfl
def p_folded_0t_0 : DS := (dAsg 5 (dCall F_turned_over (dCons (dSl (dVar 0) dNo (dAt (dVar 1))) dNil)))
def p_folded_0t_1 : DS := (dAsg 6 (dSl (dVar 0) (dAt (dVar 1)) dNo))
def p_folded_0t : DS := (dSeq (p_folded_0t_0) (p_folded_0t_1))
def p_folded_0e_0 : DS := (dAsg 5 (dCall F_turned_over (dCons (dSl (dVar 0) (dAt (dVar 1)) dNo) dNil)))
def p_folded_0e_1 : DS := (dAsg 6 (dSl (dVar 0) dNo (dAt (dVar 1))))
def p_folded_0e : DS := (dSeq (p_folded_0e_0) (p_folded_0e_1))
def p_folded_0 : DS := (dIf (dT (bind2 fEq (dVar 2) (dC (.str "left")))) (p_folded_0t) (p_folded_0e))
def p_folded_1 : DS := (dAsg 4 (bind2 fMax2 (bind1 fLen (dVar 5)) (bind1 fLen (dVar 6))))
def p_folded_2t_0 : DS := (dAsg 5 (bind2 fPlus (dVar 5) (bind2 fRep (dTup (dCons (dTup dNil) dNil)) (bind2 fSub (dVar 4) (bind1 fLen (dVar 5))))))
def p_folded_2t_1 : DS := (dAsg 6 (bind2 fPlus (dVar 6) (bind2 fRep (dTup (dCons (dTup dNil) dNil)) (bind2 fSub (dVar 4) (bind1 fLen (dVar 6))))))
def p_folded_2t : DS := (dSeq (p_folded_2t_0) (p_folded_2t_1))
def p_folded_2e_0 : DS := (dAsg 5 (bind2 fPlus (bind2 fRep (dTup (dCons (dTup dNil) dNil)) (bind2 fSub (dVar 4) (bind1 fLen (dVar 5)))) (dVar 5)))
def p_folded_2e_1 : DS := (dAsg 6 (bind2 fPlus (bind2 fRep (dTup (dCons (dTup dNil) dNil)) (bind2 fSub (dVar 4) (bind1 fLen (dVar 6)))) (dVar 6)))
def p_folded_2e : DS := (dSeq (p_folded_2e_0) (p_folded_2e_1))
def p_folded_2 : DS := (dIf (dT (bind2 fEq (dVar 2) (dC (.str "left")))) (p_folded_2t) (p_folded_2e))
def p_folded_3 : DS := (dIf (dT (bind2 fEq (dVar 3) (dC (.str "up")))) (dRet (dCall F_laid_on (dCons (dFz 6) (dCons (dFz 5) dNil)))) dPass)
def p_folded_4 : DS := (dRet (dCall F_laid_on (dCons (dFz 5) (dCons (dFz 6) dNil))))
def p_folded : DS := (dSeq (p_folded_0) (dSeq (p_folded_1) (dSeq (p_folded_2) (dSeq (p_folded_3) (p_folded_4)))))
theorem m_folded_eq : m_folded = p_folded := rfl
def p_turned_over_0 : DS := (dAsg 1 (dLst dNil))
def p_turned_over_1b : DS := (dApp 1 (dTg (dRevI (dFz 2)) (tgN 3) dYes (bind2 fSub (bind1 fNeg (dC (.int 1))) (dVar 3)) [3]))
def p_turned_over_1 : DS := (dFor (dRevI (dFz 0)) (tgN 2) (p_turned_over_1b))
def p_turned_over_2 : DS := (dRet (bind1 fTupOf (dVar 1)))
def p_turned_over : DS := (dSeq (p_turned_over_0) (dSeq (p_turned_over_1) (p_turned_over_2)))
theorem m_turned_over_eq : m_turned_over = p_turned_over := rfl
/-! columns, plainly -/
abbrev Cols := List (List Int)
def zipP : Cols → Cols → Cols
  | [], ys => ys
  | xs, [] => xs
  | x :: xs, y :: ys => (x ++ y) :: zipP xs ys
def panO (f : Int) : Int := if 0 ≤ f then f else -1 - f
def pan (C : Cols) : Cols := C.map fun c => c.map panO
def turnO (C : Cols) : Cols := C.reverse.map fun c => c.reverse.map fun f => -1 - f
def layO (U A : Cols) : Cols := (U.zip A).map fun p => p.1 ++ p.2
def padE (w : Nat) (C : Cols) : Cols := C ++ List.replicate (w - C.length) []
def padF (w : Nat) (C : Cols) : Cols := List.replicate (w - C.length) [] ++ C
def turnL (P : Cols) (line : Nat) (up : Bool) : Cols := if up = true then zipP (P.drop line) ((P.take line).reverse.map List.reverse) else zipP ((P.take line).reverse.map List.reverse) (P.drop line)
def deedL (P : Cols) (d : Nat × Bool × Bool) : Cols := if d.2.1 = true then turnL P d.1 d.2.2 else (turnL P.reverse (P.length - d.1) d.2.2).reverse
def foldO (C : Cols) (d : Nat × Bool × Bool) : Cols :=
  if d.2.1 = true then
    (if d.2.2 = true then zipP (C.drop d.1) (turnO (C.take d.1)) else zipP (turnO (C.take d.1)) (C.drop d.1))
  else (if d.2.2 = true then (zipP (C.take d.1).reverse (turnO (C.drop d.1)).reverse).reverse else (zipP (turnO (C.drop d.1)).reverse (C.take d.1).reverse).reverse)
theorem zipP_nil (xs : Cols) : zipP xs [] = xs := by cases xs <;> rfl
theorem zipP_len : ∀ xs ys : Cols, (zipP xs ys).length = max xs.length ys.length
  | [], ys => by simp [zipP]
  | x :: xs, [] => by simp [zipP]
  | x :: xs, y :: ys => by
    have := zipP_len xs ys
    simp only [zipP, List.length_cons]
    omega
theorem zipP_get : ∀ (xs ys : Cols) (k : Nat), k < max xs.length ys.length → (zipP xs ys)[k]? = some ((xs[k]?).getD [] ++ (ys[k]?).getD [])
  | [], ys, k, h => by
    have h : k < ys.length := by simpa using h
    simp [zipP, h]
  | x :: xs, [], k, h => by
    have h : k < (x :: xs).length := by simpa using h
    show (x :: xs)[k]? = some (((x :: xs)[k]?).getD [] ++ [])
    rw [List.getElem?_eq_getElem h]
    simp
  | x :: xs, y :: ys, 0, h => by simp [zipP]
  | x :: xs, y :: ys, k + 1, h => by
    simp only [List.length_cons] at h
    have := zipP_get xs ys k (by omega)
    simpa [zipP] using this
theorem zipP_flat : ∀ xs ys : Cols, (zipP xs ys).flatten.Perm (xs.flatten ++ ys.flatten)
  | [], ys => by simp [zipP]
  | x :: xs, [] => by simp [zipP]
  | x :: xs, y :: ys => by
    have ih := zipP_flat xs ys
    simp only [zipP, List.flatten_cons]
    have h1 : (x ++ y ++ (zipP xs ys).flatten).Perm (x ++ y ++ (xs.flatten ++ ys.flatten)) := List.Perm.append_left _ ih
    refine h1.trans ?_
    simp only [List.append_assoc]
    refine List.Perm.append_left x ?_
    rw [← List.append_assoc, ← List.append_assoc]
    exact List.Perm.append_right _ List.perm_append_comm
theorem zipP_pan : ∀ xs ys : Cols, pan (zipP xs ys) = zipP (pan xs) (pan ys)
  | [], ys => by simp [zipP, pan]
  | x :: xs, [] => by simp [zipP, pan]
  | x :: xs, y :: ys => by
    have ih := zipP_pan xs ys
    simp only [pan] at ih
    simp [zipP, pan, ih]
theorem pan_turn (C : Cols) : pan (turnO C) = (pan C).reverse.map List.reverse := by
  unfold pan turnO
  rw [List.map_map, ← List.map_reverse, List.map_map]
  refine List.map_congr_left fun c _ => ?_
  simp only [Function.comp, List.map_map, ← List.map_reverse]
  refine List.map_congr_left fun f _ => ?_
  simp only [Function.comp, panO]
  by_cases h : 0 ≤ f
  · rw [if_neg (by omega), if_pos h]
    omega
  · rw [if_pos (by omega), if_neg h]
theorem pan_rev (C : Cols) : pan C.reverse = (pan C).reverse := by simp [pan]
theorem pan_take (C : Cols) (k : Nat) : pan (C.take k) = (pan C).take k := by simp [pan, List.map_take]
theorem pan_drop (C : Cols) (k : Nat) : pan (C.drop k) = (pan C).drop k := by simp [pan, List.map_drop]
theorem pan_len (C : Cols) : (pan C).length = C.length := by simp [pan]
theorem fold_deed (C : Cols) (d : Nat × Bool × Bool) (h : d.1 ≤ C.length) : pan (foldO C d) = deedL (pan C) d := by
  obtain ⟨line, l, u⟩ := d
  simp only at h
  have e1 : (pan C).reverse.take (C.length - line) = ((pan C).drop line).reverse := by
    rw [List.take_reverse, pan_len]
    congr 2
    omega
  have e2 : (pan C).reverse.drop (C.length - line) = ((pan C).take line).reverse := by
    rw [List.drop_reverse, pan_len]
    congr 2
    omega
  cases l <;> cases u <;> simp [foldO, deedL, turnL, pan_rev, zipP_pan, pan_turn, pan_take, pan_drop, pan_len, e1, e2]
theorem turnL_len (P : Cols) (line : Nat) (up : Bool) (h : line ≤ P.length) : (turnL P line up).length = max line (P.length - line) := by
  unfold turnL
  split <;> rw [zipP_len] <;> simp <;> omega
theorem deedL_len (P : Cols) (d : Nat × Bool × Bool) (h : d.1 ≤ P.length) : (deedL P d).length = max d.1 (P.length - d.1) := by
  unfold deedL
  split
  · exact turnL_len P _ _ h
  · rw [List.length_reverse, turnL_len _ _ _ (by rw [List.length_reverse]; omega), List.length_reverse]
    omega
theorem flat_rev (P : Cols) : P.reverse.flatten.Perm P.flatten := by
  induction P with
  | nil => exact List.Perm.refl _
  | cons x xs ih =>
    simp only [List.reverse_cons, List.flatten_append, List.flatten_cons, List.flatten_nil, List.append_nil]
    exact List.perm_append_comm.trans (List.Perm.append_left x ih)
theorem flat_mrev (P : Cols) : (P.map List.reverse).flatten.Perm P.flatten := by
  induction P with
  | nil => exact List.Perm.refl _
  | cons x xs ih =>
    simp only [List.map_cons, List.flatten_cons]
    exact (List.Perm.append_right _ (List.reverse_perm x)).trans (List.Perm.append_left x ih)
theorem turnL_flat (P : Cols) (line : Nat) (up : Bool) : (turnL P line up).flatten.Perm P.flatten := by
  have h1 : ((P.take line).reverse.map List.reverse).flatten.Perm (P.take line).flatten := (flat_mrev _).trans (flat_rev _)
  have h2 : P.flatten = (P.take line).flatten ++ (P.drop line).flatten := by rw [← List.flatten_append, List.take_append_drop]
  rw [h2]
  unfold turnL
  split
  · exact (zipP_flat _ _).trans ((List.Perm.append_left _ h1).trans List.perm_append_comm)
  · exact (zipP_flat _ _).trans (List.Perm.append_right _ h1)
theorem deedL_flat (P : Cols) (d : Nat × Bool × Bool) : (deedL P d).flatten.Perm P.flatten := by
  unfold deedL
  split
  · exact turnL_flat _ _ _
  · exact (flat_rev _).trans ((turnL_flat _ _ _).trans (flat_rev _))
/-! laying on, with the narrower part made wider -/
theorem lay_pad : ∀ (xs ys : Cols) (w : Nat), w = max xs.length ys.length → layO (padE w xs) (padE w ys) = zipP xs ys
  | [], ys, w, h => by
    have hw : w = ys.length := by simpa using h
    subst hw
    simp only [padE, zipP, List.nil_append, List.length_nil, Nat.sub_zero, Nat.sub_self, List.replicate_zero, List.append_nil, layO]
    refine List.ext_getElem (by simp) fun i h1 h2 => ?_
    simp
  | x :: xs, [], w, h => by
    have hw : w = (x :: xs).length := by simpa using h
    subst hw
    simp only [padE, zipP, List.nil_append, List.length_nil, Nat.sub_zero, Nat.sub_self, List.replicate_zero, List.append_nil, layO]
    refine List.ext_getElem (by simp) fun i h1 h2 => ?_
    simp
  | x :: xs, y :: ys, w, h => by
    obtain ⟨v, rfl⟩ : ∃ v, w = v + 1 := ⟨w - 1, by simp only [List.length_cons] at h; omega⟩
    have ih := lay_pad xs ys v (by simp only [List.length_cons] at h; omega)
    simp only [padE, layO, List.length_cons, Nat.add_sub_add_right, List.cons_append, List.zip_cons_cons, List.map_cons, zipP] at ih ⊢
    rw [ih]
theorem padE_rev (w : Nat) (C : Cols) : (padE w C).reverse = padF w C.reverse := by simp [padE, padF]
theorem layO_zip : ∀ U A : Cols, layO U A = List.zipWith (fun x y => x ++ y) U A
  | [], _ => rfl
  | _ :: _, [] => rfl
  | x :: xs, y :: ys => by
    have ih := layO_zip xs ys
    unfold layO at ih ⊢
    simp [ih]
theorem layO_rev (U A : Cols) (h : U.length = A.length) : layO U.reverse A.reverse = (layO U A).reverse := by
  rw [layO_zip, layO_zip, List.reverse_zipWith h]
theorem lay_padF (xs ys : Cols) (w : Nat) (h : w = max xs.length ys.length) : layO (padF w xs) (padF w ys) = (zipP xs.reverse ys.reverse).reverse := by
  have h2 := lay_pad xs.reverse ys.reverse w (by simpa using h)
  rw [← h2]
  have e1 : padF w xs = (padE w xs.reverse).reverse := by rw [padE_rev, List.reverse_reverse]
  have e2 : padF w ys = (padE w ys.reverse).reverse := by rw [padE_rev, List.reverse_reverse]
  rw [e1, e2, layO_rev]
  simp only [padE, List.length_append, List.length_replicate, List.length_reverse]
  omega
/-! the mirrors of the folds -/
def rowZ (c : List Int) : D := .box false .tup (c.map D.int)
def colsD (C : Cols) : D := .box false .tup (C.map rowZ)
@[simp] theorem frz_rowZ (c : List Int) : frz (rowZ c) = true := by
  have : frzL (c.map D.int) = true := frzL_map (fun _ => rfl) c
  simp [rowZ, this]
@[simp] theorem frzL_rowsZ (C : Cols) : frzL (C.map rowZ) = true := frzL_map frz_rowZ C
@[simp] theorem frz_colsD (C : Cols) : frz (colsD C) = true := by simp [colsD]
@[simp] theorem frzL_intsZ (c : List Int) : frzL (c.map D.int) = true := frzL_map (fun _ => rfl) c
theorem panel_eq (f : Int) : F_panel_of [.int f] = .ok (.int (panO f)) [] := by
  unfold panO
  by_cases h : 0 ≤ f
  · simp [F_panel_of, m_panel_of, h]
  · simp [F_panel_of, m_panel_of, h]
theorem panels_in_eq (C : Cols) (hC : C.length ≤ 1000) (hc : ∀ c ∈ C, c.length ≤ 1000) : F_panels_in [colsD C] = .ok (colsD (pan C)) [] := by
  have inner : ∀ c ∈ C, dTg (dItems (dFz 1)) (tgN 2) dYes (dCall F_panel_of (dCons (dFz 2) dNil)) [2] [some (colsD C), some (rowZ c), none] = .ok true (rowZ (c.map panO)) false [some (colsD C), some (rowZ c), none] := fun c hcc => by
    have q := tg_q (it := dItems (dFz 1)) (t := tgN 2) (test := dYes) (elt := dCall F_panel_of (dCons (dFz 2) dNil)) (vs := [2]) (ρ := [some (colsD C), some (rowZ c), none]) (ρ1 := [some (colsD C), some (rowZ c), none]) (f := true) (e := false) c D.int (fun _ => true) (fun f => D.int (panO f)) (by
      have : dItems (dFz 1) [some (colsD C), some (rowZ c), none] = .ok true (c.map D.int) false [some (colsD C), some (rowZ c), none] := by simp [rowZ]
      exact this) (by have := hc c hcc; omega) (fun x _ => ⟨_, true, rfl, rfl, fun _ => ⟨true, by simp [panel_eq], rfl⟩, rfl⟩) (frzL_map (fun _ => rfl) _)
    rw [List.filter_eq_self.mpr fun _ _ => rfl] at q
    rw [q]
    simp [rowZ]
  have q := tg_q (it := dItems (dFz 0)) (t := tgN 1) (test := dYes) (elt := dTg (dItems (dFz 1)) (tgN 2) dYes (dCall F_panel_of (dCons (dFz 2) dNil)) [2]) (vs := [1]) (ρ := [some (colsD C), none, none]) (ρ1 := [some (colsD C), none, none]) (f := true) (e := false) C rowZ (fun _ => true) (fun c => rowZ (c.map panO)) (by
    have : dItems (dFz 0) [some (colsD C), none, none] = .ok true (C.map rowZ) false [some (colsD C), none, none] := by simp [colsD]
    exact this) (by omega) (fun c hcc => ⟨_, true, rfl, rfl, fun _ => ⟨true, inner c hcc, by simp⟩, rfl⟩) (frzL_map (fun _ => frz_rowZ _) _)
  rw [List.filter_eq_self.mpr fun _ _ => rfl] at q
  have e : D.box false .tup (C.map fun c => rowZ (c.map panO)) = colsD (pan C) := by simp [colsD, pan]
  rw [e] at q
  simp only [F_panels_in, m_panels_in, v_run, List.map_cons, List.map_nil, List.length_cons, List.length_nil]
  simp [q, -v_dTg]
theorem turned_eq (C : Cols) (hC : C.length ≤ 1000) (hc : ∀ c ∈ C, c.length ≤ 1000) : F_turned_over [colsD C] = .ok (colsD (turnO C)) [] := by
  have inner : ∀ c ∈ C, ∀ o1, dTg (dRevI (dFz 2)) (tgN 3) dYes (bind2 fSub (bind1 fNeg (dC (.int 1))) (dVar 3)) [3] [some (colsD C), o1, some (rowZ c), none] = .ok true (rowZ (c.reverse.map fun f => -1 - f)) false [some (colsD C), o1, some (rowZ c), none] := fun c hcc o1 => by
    have q := tg_q (it := dRevI (dFz 2)) (t := tgN 3) (test := dYes) (elt := bind2 fSub (bind1 fNeg (dC (.int 1))) (dVar 3)) (vs := [3]) (ρ := [some (colsD C), o1, some (rowZ c), none]) (ρ1 := [some (colsD C), o1, some (rowZ c), none]) (f := true) (e := false) c.reverse D.int (fun _ => true) (fun f => D.int (-1 - f)) (by
      have : dRevI (dFz 2) [some (colsD C), o1, some (rowZ c), none] = .ok true (c.reverse.map D.int) false [some (colsD C), o1, some (rowZ c), none] := by simp [rowZ, List.map_reverse]
      exact this) (by have := hc c hcc; rw [List.length_reverse]; omega) (fun x _ => ⟨_, true, rfl, rfl, fun _ => ⟨true, by simp, rfl⟩, rfl⟩) (frzL_map (fun _ => rfl) _)
    rw [List.filter_eq_self.mpr fun _ _ => rfl] at q
    rw [q]
    simp [rowZ]
  obtain ⟨ρ', w, o2, rfl⟩ := for_all (t := tgN 2) (body := p_turned_over_1b) rowZ (fun i ρ => ∃ o2, ρ = [some (colsD C), some (.box true .lst (((C.reverse.take i).map fun c => c.reverse.map fun f => -1 - f).map rowZ)), o2, none])
    C.reverse 0 [some (colsD C), some (.box true .lst []), none, none] ⟨none, rfl⟩ (fun i c ρ hi hI => by
      obtain ⟨o2, rfl⟩ := hI
      rw [Nat.zero_add] at *
      have hcc : c ∈ C := List.mem_reverse.mp (List.mem_of_getElem? hi)
      have tk : C.reverse.take (i + 1) = C.reverse.take i ++ [c] := by rw [List.take_succ, hi]; rfl
      have ln : (((C.reverse.take i).map fun c => c.reverse.map fun f => -1 - f).map rowZ).length < 1000000 := by
        simp only [List.length_map, List.length_take, List.length_reverse]
        omega
      refine ⟨[some (colsD C), some (.box true .lst (((C.reverse.take i).map fun c => c.reverse.map fun f => -1 - f).map rowZ)), some (rowZ c), none], [some (colsD C), some (.box true .lst (((C.reverse.take (i + 1)).map fun c => c.reverse.map fun f => -1 - f).map rowZ)), some (rowZ c), none], rfl, .inl ?_, _, rfl⟩
      have q := inner c hcc (some (.box true .lst (((C.reverse.take i).map fun c => c.reverse.map fun f => -1 - f).map rowZ)))
      rw [tk, List.map_append, List.map_append]
      generalize ((C.reverse.take i).map fun c => c.reverse.map fun f => -1 - f).map rowZ = L at *
      simp [-v_dTg, p_turned_over_1b, q, ln])
  rw [Nat.zero_add, List.take_of_length_le (Nat.le_refl _)] at w
  have s1 : p_turned_over_1 [some (colsD C), some (.box true .lst []), none, none] = .nx [some (colsD C), some (.box true .lst ((turnO C).map rowZ)), o2, none] := by
    have it : dRevI (dFz 0) [some (colsD C), some (.box true .lst []), none, none] = .ok true (C.reverse.map rowZ) false [some (colsD C), some (.box true .lst []), none, none] := by simp [colsD, List.map_reverse]
    simp only [p_turned_over_1, v_dFor, it]
    exact w
  have s0 : p_turned_over_0 [some (colsD C), none, none, none] = .nx [some (colsD C), some (.box true .lst []), none, none] := by simp [p_turned_over_0]
  have s2 : p_turned_over_2 [some (colsD C), some (.box true .lst ((turnO C).map rowZ)), o2, none] = .rt (colsD (turnO C)) [some (colsD C), some (.box true .lst ((turnO C).map rowZ)), o2, none] := by
    simp [p_turned_over_2, colsD]
  rw [F_turned_over, m_turned_over_eq]
  simp only [v_run, List.map_cons, List.map_nil, List.length_cons, List.length_nil]
  simp [p_turned_over, s0, s1, s2]
theorem plusT {A B : List D} {o o' : Bool} (h : frzL A = true) (h2 : frzL B = true) (hl : A.length + B.length ≤ 1000000) : fPlus (.box o .tup A) (.box o' .tup B) = some (true, .box false .tup (A ++ B)) := by
  simp [fPlus, fCatT, h, h2, hl]
theorem plusZ (x y : List Int) (h : x.length + y.length ≤ 1000000) : fPlus (rowZ x) (rowZ y) = some (true, rowZ (x ++ y)) := by
  have := plusT (o := false) (o' := false) (frzL_intsZ x) (frzL_intsZ y) (by simpa using h)
  simpa [rowZ] using this
theorem laid_eq (U A : Cols) (hU : U.length ≤ 1000) (hc : ∀ c ∈ U, c.length ≤ 1000) (ha : ∀ c ∈ A, c.length ≤ 1000) : F_laid_on [colsD U, colsD A] = .ok (colsD (layO U A)) [] := by
  have q := tg_q (it := dZip (dCons (dFz 0) (dCons (dFz 1) dNil))) (t := tgT [2, 3]) (test := dYes) (elt := bind2 fPlus (dVar 2) (dVar 3)) (vs := [2, 3]) (ρ := [some (colsD U), some (colsD A), none, none]) (ρ1 := [some (colsD U), some (colsD A), none, none]) (f := true) (e := false) (U.zip A) (fun p => D.box false .tup [rowZ p.1, rowZ p.2]) (fun _ => true) (fun p => rowZ (p.1 ++ p.2)) (by
    have : dZip (dCons (dFz 0) (dCons (dFz 1) dNil)) [some (colsD U), some (colsD A), none, none] = .ok true (zipD (U.map rowZ) (A.map rowZ)) false [some (colsD U), some (colsD A), none, none] := by simp [colsD]
    rw [this, zipD_map, List.zip_map, List.map_map]
    rfl) (by rw [List.length_zip]; omega) (fun p hp => ⟨_, true, rfl, rfl, fun _ => ⟨true, by
      have h1 := hc p.1 (List.of_mem_zip hp).1
      have h2 := ha p.2 (List.of_mem_zip hp).2
      simp [plusZ p.1 p.2 (by omega)], by simp⟩, rfl⟩) (frzL_map (fun _ => frz_rowZ _) _)
  rw [List.filter_eq_self.mpr fun _ _ => rfl] at q
  have e : D.box false .tup ((U.zip A).map fun p => rowZ (p.1 ++ p.2)) = colsD (layO U A) := by simp [colsD, layO]
  rw [e] at q
  simp only [F_laid_on, m_laid_on, v_run, List.map_cons, List.map_nil, List.length_cons, List.length_nil]
  simp [q, -v_dTg]
/-! one fold -/
def sdS (l : Bool) : D := .str (if l = true then "left" else "right")
def wyS (u : Bool) : D := .str (if u = true then "up" else "down")
def ddD (d : Nat × Bool × Bool) : D := .box false .tup [.int (d.1 : Int), sdS d.2.1, wyS d.2.2]
theorem sd_eq (l : Bool) : fEq (sdS l) (.str "left") = some (true, .bl l) := by
  cases l <;> simp [sdS, fEq, eqV'] <;> decide
theorem wy_eq (u : Bool) : fEq (wyS u) (.str "up") = some (true, .bl u) := by
  cases u <;> simp [wyS, fEq, eqV'] <;> decide
theorem frz_sd (l : Bool) : frz (sdS l) = true := rfl
theorem frz_wy (l : Bool) : frz (wyS l) = true := rfl
theorem len_colsD (C : Cols) : fLen (colsD C) = some (true, .int (C.length : Int)) := by simp [colsD]
theorem sl_lo (C : Cols) (k : Nat) (h : k ≤ C.length) : fSl (colsD C) none (some (k : Int)) = some (true, colsD (C.take k)) := by
  have := cut_lo (C.map rowZ) k (by simpa using h)
  simp [colsD, this, List.map_take]
theorem sl_hi (C : Cols) (k : Nat) (h : k ≤ C.length) : fSl (colsD C) (some (k : Int)) none = some (true, colsD (C.drop k)) := by
  have := cut_hi (C.map rowZ) k (by simpa using h)
  simp [colsD, this, List.map_drop]
theorem rep_nil (k : Nat) (h : k ≤ 1000) (j : Int) (hj : j = (k : Int)) : fRep (.box false .tup [.box false .tup []]) (.int j) = some (true, colsD (List.replicate k [])) := by
  subst hj
  have e : repD [D.box false .tup []] (k : Int) = (List.replicate k ([] : List Int)).map rowZ := by
    unfold repD
    rw [Int.toNat_natCast]
    induction k with
    | zero => rfl
    | succ k ih =>
      have := ih (by omega)
      rw [List.replicate_succ, List.flatten_cons, this, List.replicate_succ, List.map_cons]
      rfl
  have h1 : -(2 ^ 62) ≤ (k : Int) ∧ (k : Int) ≤ 1000 := by omega
  simp [e, colsD]
  omega
theorem plusC (A B : Cols) (h : A.length + B.length ≤ 1000000) : fPlus (colsD A) (colsD B) = some (true, colsD (A ++ B)) := by
  have := plusT (o := false) (o' := false) (frzL_rowsZ A) (frzL_rowsZ B) (by simpa using h)
  simpa [colsD] using this
/-- as told: padded, laid -/
def foldM (C : Cols) (d : Nat × Bool × Bool) : Cols :=
  let m := if d.2.1 = true then turnO (C.take d.1) else turnO (C.drop d.1)
  let r := if d.2.1 = true then C.drop d.1 else C.take d.1
  let w := max m.length r.length
  let m2 := if d.2.1 = true then padE w m else padF w m
  let r2 := if d.2.1 = true then padE w r else padF w r
  if d.2.2 = true then layO r2 m2 else layO m2 r2
theorem foldM_eq (C : Cols) (d : Nat × Bool × Bool) : foldM C d = foldO C d := by
  obtain ⟨line, l, u⟩ := d
  cases l <;> cases u
  · exact (lay_padF (turnO (C.drop line)) (C.take line) _ rfl).trans rfl
  · exact (lay_padF (C.take line) (turnO (C.drop line)) _ (Nat.max_comm _ _)).trans rfl
  · exact (lay_pad (turnO (C.take line)) (C.drop line) _ rfl).trans rfl
  · exact (lay_pad (C.drop line) (turnO (C.take line)) _ (Nat.max_comm _ _)).trans rfl
/-- columns that are not too many and not too high -/
def Sml (C : Cols) : Prop := C.length ≤ 1000 ∧ ∀ c ∈ C, c.length ≤ 1000
theorem Sml.take {C : Cols} (h : Sml C) (k : Nat) : Sml (C.take k) := ⟨by rw [List.length_take]; have := h.1; omega, fun c hc => h.2 c (List.mem_of_mem_take hc)⟩
theorem Sml.drop {C : Cols} (h : Sml C) (k : Nat) : Sml (C.drop k) := ⟨by rw [List.length_drop]; have := h.1; omega, fun c hc => h.2 c (List.mem_of_mem_drop hc)⟩
theorem Sml.turn {C : Cols} (h : Sml C) : Sml (turnO C) := ⟨by unfold turnO; simpa using h.1, fun c hc => by
  obtain ⟨x, hx, rfl⟩ := List.mem_map.mp hc
  have := h.2 x (List.mem_reverse.mp hx)
  simpa using this⟩
theorem Sml.padE {C : Cols} (h : Sml C) {w : Nat} (hw : w ≤ 1000) : Sml (padE w C) := ⟨by have := h.1; unfold Lw.padE; rw [List.length_append, List.length_replicate]; omega, fun c hc => by
  unfold Lw.padE at hc
  rcases List.mem_append.mp hc with hc | hc
  · exact h.2 c hc
  · rw [List.eq_of_mem_replicate hc]; simp⟩
theorem Sml.padF {C : Cols} (h : Sml C) {w : Nat} (hw : w ≤ 1000) : Sml (padF w C) := ⟨by have := h.1; unfold Lw.padF; rw [List.length_append, List.length_replicate]; omega, fun c hc => by
  unfold Lw.padF at hc
  rcases List.mem_append.mp hc with hc | hc
  · rw [List.eq_of_mem_replicate hc]; simp
  · exact h.2 c hc⟩
theorem laid2 {U A : Cols} (hu : Sml U) (ha : Sml A) : F_laid_on [colsD U, colsD A] = .ok (colsD (layO U A)) [] := laid_eq U A hu.1 hu.2 ha.2
theorem max_int (a b : Nat) : (if (b : Int) > (a : Int) then (b : Int) else (a : Int)) = ((max a b : Nat) : Int) := by split <;> omega
theorem folded_eq {C : Cols} (hC : Sml C) (d : Nat × Bool × Bool) (h : d.1 ≤ C.length) : F_folded [colsD C, .int (d.1 : Int), sdS d.2.1, wyS d.2.2] = .ok (colsD (foldO C d)) [] := by
  rw [← foldM_eq]
  obtain ⟨line, l, u⟩ := d
  have hl := sl_lo C line h
  have hh := sl_hi C line h
  have t1 := turned_eq (C.take line) (hC.take line).1 (hC.take line).2
  have t2 := turned_eq (C.drop line) (hC.drop line).1 (hC.drop line).2
  have h2 : ∀ M R : Cols, Sml M → Sml R → ∀ w, w = max M.length R.length → w ≤ 1000 := fun M R a b w e => by have := a.1; have := b.1; omega
  have cl : C.length ≤ 1000 := hC.1
  simp only at h hl hh t1 t2 ⊢
  generalize hD : colsD C = CD at *
  have main : ∀ (M R : Cols) (o4 : Option D), Sml M → Sml R → ∃ o4', p_folded_1 [some CD, some (.int (line : Int)), some (sdS l), some (wyS u), o4, some (colsD M), some (colsD R)] = .nx [some CD, some (.int (line : Int)), some (sdS l), some (wyS u), some (.int (max M.length R.length : Nat)), some (colsD M), some (colsD R)] ∧
      p_folded_2 [some CD, some (.int (line : Int)), some (sdS l), some (wyS u), some (.int (max M.length R.length : Nat)), some (colsD M), some (colsD R)] = .nx [some CD, some (.int (line : Int)), some (sdS l), some (wyS u), some (.int (max M.length R.length : Nat)), some (colsD (if l = true then padE (max M.length R.length) M else padF (max M.length R.length) M)), some (colsD (if l = true then padE (max M.length R.length) R else padF (max M.length R.length) R))] ∧ o4' = o4 := fun M R o4 hM hR => by
    have m1 := max_int M.length R.length
    have l1 := len_colsD M
    have l2 := len_colsD R
    obtain ⟨w, hw⟩ : ∃ w, w = max M.length R.length := ⟨_, rfl⟩
    have w1 := h2 M R hM hR w hw
    rw [← hw] at m1 ⊢
    have r1 := rep_nil (w - M.length) (by omega) ((w : Int) - (M.length : Int)) (by omega)
    have r2 := rep_nil (w - R.length) (by omega) ((w : Int) - (R.length : Int)) (by omega)
    have a1 := plusC M (List.replicate (w - M.length) []) (by have := hM.1; rw [List.length_replicate]; omega)
    have a2 := plusC R (List.replicate (w - R.length) []) (by have := hR.1; rw [List.length_replicate]; omega)
    have b1 := plusC (List.replicate (w - M.length) []) M (by have := hM.1; rw [List.length_replicate]; omega)
    have b2 := plusC (List.replicate (w - R.length) []) R (by have := hR.1; rw [List.length_replicate]; omega)
    have se := sd_eq l
    refine ⟨o4, ?_, ?_, rfl⟩
    · simp [p_folded_1, l1, l2]
      split <;> omega
    · cases l
      · simp [p_folded_2, p_folded_2e, p_folded_2e_0, p_folded_2e_1, p_folded_2t, p_folded_2t_0, p_folded_2t_1, se, l1, l2, r1, r2, b1, b2, padF]
      · simp [p_folded_2, p_folded_2e, p_folded_2e_0, p_folded_2e_1, p_folded_2t, p_folded_2t_0, p_folded_2t_1, se, l1, l2, r1, r2, a1, a2, padE]
  have se := sd_eq l
  have we := wy_eq u
  have fs := frz_sd l
  have fw := frz_wy u
  have s0 : p_folded_0 [some CD, some (.int (line : Int)), some (sdS l), some (wyS u), none, none, none] = .nx [some CD, some (.int (line : Int)), some (sdS l), some (wyS u), none, some (colsD (if l = true then turnO (C.take line) else turnO (C.drop line))), some (colsD (if l = true then C.drop line else C.take line))] := by
    have fc : frz CD = true := by rw [← hD]; exact frz_colsD C
    cases l <;> simp [p_folded_0, p_folded_0t, p_folded_0e, p_folded_0t_0, p_folded_0t_1, p_folded_0e_0, p_folded_0e_1, se, hl, hh, t1, t2, fc]
  have sM : Sml (if l = true then turnO (C.take line) else turnO (C.drop line)) := by
    cases l
    · exact (hC.drop line).turn
    · exact (hC.take line).turn
  have sR : Sml (if l = true then C.drop line else C.take line) := by
    cases l
    · exact hC.take line
    · exact hC.drop line
  have fm : ∀ M R : Cols, M = (if l = true then turnO (C.take line) else turnO (C.drop line)) → R = (if l = true then C.drop line else C.take line) → foldM C (line, l, u) =
    if u = true then layO (if l = true then padE (max M.length R.length) R else padF (max M.length R.length) R) (if l = true then padE (max M.length R.length) M else padF (max M.length R.length) M)
    else layO (if l = true then padE (max M.length R.length) M else padF (max M.length R.length) M) (if l = true then padE (max M.length R.length) R else padF (max M.length R.length) R) := by
    rintro _ _ rfl rfl
    rfl
  rw [fm _ _ rfl rfl]
  clear fm
  generalize (if l = true then turnO (C.take line) else turnO (C.drop line)) = M at *
  generalize (if l = true then C.drop line else C.take line) = R at *
  obtain ⟨_, s1, s2, _⟩ := main M R none sM sR
  have w1 := h2 M R sM sR _ rfl
  have sM2 : Sml (if l = true then padE (max M.length R.length) M else padF (max M.length R.length) M) := by
    cases l
    · exact sM.padF w1
    · exact sM.padE w1
  have sR2 : Sml (if l = true then padE (max M.length R.length) R else padF (max M.length R.length) R) := by
    cases l
    · exact sR.padF w1
    · exact sR.padE w1
  generalize (if l = true then padE (max M.length R.length) M else padF (max M.length R.length) M) = M2 at *
  generalize (if l = true then padE (max M.length R.length) R else padF (max M.length R.length) R) = R2 at *
  have la := laid2 sR2 sM2
  have lb := laid2 sM2 sR2
  rw [F_folded, m_folded_eq]
  simp only [v_run, List.map_cons, List.map_nil, List.length_cons, List.length_nil]
  cases u <;> simp [p_folded, s0, s1, s2, p_folded_3, p_folded_4, we, la, lb]
/-! the law's own fold -/
theorem rowZ_rev (c : List Int) : fRev (rowZ c) = some (true, rowZ c.reverse) := by simp [rowZ, List.map_reverse]
theorem colsZ_rev (C : Cols) : fRev (colsD C) = some (true, colsD C.reverse) := by simp [colsD, List.map_reverse]
theorem at_colsD (C : Cols) (k : Nat) (c : List Int) (h : C[k]? = some c) : fIx (colsD C) (.int (k : Int)) = some (true, rowZ c) := by
  have : atI (C.map rowZ) (k : Int) = some (rowZ c) := atI_nat (by rw [List.getElem?_map, h]; rfl)
  simp [colsD, this]
theorem Sml.rev {C : Cols} (h : Sml C) : Sml C.reverse := ⟨by simpa using h.1, fun c hc => h.2 c (List.mem_reverse.mp hc)⟩
/-! rows of deeds -/
abbrev Dd3 := Nat × Bool × Bool
def strip (n : Nat) : Cols := (List.range n).map fun (k : Nat) => [(k : Int)]
def runP (n : Nat) (ds : List Dd3) : Cols := ds.foldl deedL (strip n)
def runC (n : Nat) (ds : List Dd3) : Cols := ds.foldl foldO (strip n)
theorem runP_snoc (n : Nat) (ds : List Dd3) (d : Dd3) : runP n (ds ++ [d]) = deedL (runP n ds) d := by simp [runP, List.foldl_append]
theorem runC_snoc (n : Nat) (ds : List Dd3) (d : Dd3) : runC n (ds ++ [d]) = foldO (runC n ds) d := by simp [runC, List.foldl_append]
def Ok (n : Nat) (ds : List Dd3) : Prop := ∀ i d, ds[i]? = some d → 1 ≤ d.1 ∧ d.1 < (runP n (ds.take i)).length
theorem Ok.snoc {n : Nat} {ds : List Dd3} {d : Dd3} (h : Ok n ds) (h1 : 1 ≤ d.1) (h2 : d.1 < (runP n ds).length) : Ok n (ds ++ [d]) := fun i e he => by
  by_cases hi : i < ds.length
  · rw [List.getElem?_append_left hi] at he
    rw [List.take_append_of_le_length (Nat.le_of_lt hi)]
    exact h i e he
  · rw [List.getElem?_append_right (by omega)] at he
    have e0 : i - ds.length = 0 := by
      rcases Nat.eq_zero_or_pos (i - ds.length) with z | z
      · exact z
      · rw [List.getElem?_eq_none (by simp; omega)] at he
        cases he
    rw [e0] at he
    simp only [List.getElem?_cons_zero, Option.some.injEq] at he
    subst he
    rw [show i = ds.length by omega, List.take_append_of_le_length (Nat.le_refl _), List.take_of_length_le (Nat.le_refl _)]
    exact ⟨h1, h2⟩
theorem Ok.take {n : Nat} {ds : List Dd3} (h : Ok n ds) (k : Nat) : Ok n (ds.take k) := fun i d he => by
  rw [List.getElem?_take] at he
  split at he
  · rename_i hi
    rw [List.take_take, Nat.min_eq_left (by omega)]
    exact h i d he
  · cases he
theorem strip_len (n : Nat) : (strip n).length = n := by simp [strip]
theorem strip_flat (n : Nat) : (strip n).flatten = (List.range n).map fun (k : Nat) => (k : Int) := by
  unfold strip
  induction List.range n with
  | nil => rfl
  | cons a l ih => simp [ih]
theorem runP_flat (n : Nat) : ∀ ds : List Dd3, (runP n ds).flatten.Perm ((List.range n).map fun (k : Nat) => (k : Int)) := by
  have : ∀ (ds : List Dd3) (P : Cols), (ds.foldl deedL P).flatten.Perm P.flatten := fun ds => by
    induction ds with
    | nil => exact fun P => List.Perm.refl _
    | cons d ds ih => exact fun P => (ih (deedL P d)).trans (deedL_flat P d)
  intro ds
  have h := this ds (strip n)
  rw [strip_flat] at h
  exact h
theorem len_flat : ∀ (P : Cols) (c : List Int), c ∈ P → c.length ≤ P.flatten.length
  | x :: xs, c, h => by
    rw [List.flatten_cons, List.length_append]
    rcases List.mem_cons.mp h with rfl | h
    · omega
    · have := len_flat xs c h
      omega
theorem take_snoc {α : Type} {ds : List α} {i : Nat} {d : α} (h : ds[i]? = some d) : ds.take (i + 1) = ds.take i ++ [d] := by rw [List.take_succ, h]; rfl
theorem runP_len {n : Nat} {ds : List Dd3} (h : Ok n ds) (i : Nat) (hi : i ≤ ds.length) : (runP n (ds.take i)).length + i ≤ n ∨ i = 0 ∧ (runP n (ds.take i)).length = n := by
  induction i with
  | zero => exact .inr ⟨rfl, by simp [runP, strip_len]⟩
  | succ i ih =>
    have hlt : i < ds.length := hi
    obtain ⟨h1, h2⟩ := h i ds[i] (List.getElem?_eq_getElem hlt)
    have e := take_snoc (List.getElem?_eq_getElem hlt)
    rw [e, runP_snoc, deedL_len _ _ (by omega)]
    rcases ih (by omega) with z | ⟨z1, z2⟩ <;> omega
theorem runP_le {n : Nat} {ds : List Dd3} (h : Ok n ds) : (runP n ds).length ≤ n := by
  have := runP_len h ds.length (Nat.le_refl _)
  rw [List.take_of_length_le (Nat.le_refl _)] at this
  omega
theorem runP_sml {n : Nat} {ds : List Dd3} (h : Ok n ds) (hn : n ≤ 9) : Sml (runP n ds) := ⟨by have := runP_le h; omega, fun c hc => by
  have := len_flat _ c hc
  have e := (runP_flat n ds).length_eq
  rw [List.length_map, List.length_range] at e
  omega⟩
theorem pan_strip (n : Nat) : pan (strip n) = strip n := by
  unfold pan strip
  rw [List.map_map]
  refine List.map_congr_left fun k _ => ?_
  show [panO (k : Int)] = [(k : Int)]
  rw [panO, if_pos (by omega)]
theorem pan_run {n : Nat} {ds : List Dd3} (h : Ok n ds) : ∀ i, i ≤ ds.length → pan (runC n (ds.take i)) = runP n (ds.take i)
  | 0, _ => by simp [runC, runP, pan_strip]
  | i + 1, hi => by
    have hlt : i < ds.length := hi
    have ih := pan_run h i (by omega)
    obtain ⟨h1, h2⟩ := h i ds[i] (List.getElem?_eq_getElem hlt)
    have e := take_snoc (List.getElem?_eq_getElem hlt)
    rw [e, runP_snoc, runC_snoc, fold_deed, ih]
    rw [← ih, pan_len] at h2
    omega
theorem sml_pan {C : Cols} (h : Sml (pan C)) : Sml C := ⟨by rw [← pan_len]; exact h.1, fun c hc => by
  have := h.2 (c.map panO) (List.mem_map.mpr ⟨c, hc, rfl⟩)
  simpa using this⟩
/-! the mirror of simple -/
theorem is_int_eq (i : Int) : F_is_int [.int i] = .ok (.bl true) [] := by simp [F_is_int, m_is_int, isi]
theorem check_count_eq (n a b : Int) (h1 : a ≤ n) (h2 : n ≤ b) : F_check_count [.int n, .int a, .int b] = .ok .non [] := by
  simp [F_check_count, m_check_count, is_int_eq, h1, h2]
theorem in_sd (l : Bool) : fInA (sdS l) (.box false .tup [.str "left", .str "right"]) = some (true, .bl true) := by cases l <;> rfl
theorem in_wy (l : Bool) : fInA (wyS l) (.box false .tup [.str "up", .str "down"]) = some (true, .bl true) := by cases l <;> rfl
theorem frz_dd (d : Dd3) : frz (ddD d) = true := rfl
theorem isi_sd (l : Bool) : fIsi .str (sdS l) = some (true, .bl true) := rfl
theorem isi_wy (l : Bool) : fIsi .str (wyS l) = some (true, .bl true) := rfl
theorem is_deed_eq (d : Dd3) : F_is_deed [ddD d] = .ok (.bl true) [] := by
  obtain ⟨line, l, u⟩ := d
  have i1 := in_sd l
  have i2 := in_wy u
  have s1 := isi_sd l
  have s2 := isi_wy u
  have f1 := frz_sd l
  have f2 := frz_wy u
  have e : ddD (line, l, u) = .box false .tup [.int (line : Int), sdS l, wyS u] := rfl
  rw [e]
  generalize sdS l = SD at *
  generalize wyS u = WY at *
  simp [F_is_deed, m_is_deed, isi, is_int_eq, i1, i2, s1, s2, f1, f2, setAll]
theorem frzL_dds (ds : List Dd3) : frzL (ds.map ddD) = true := frzL_map frz_dd ds
theorem check_deeds_eq (ds : List Dd3) (h : ds.length ≤ 8) {k : Kd} (hk : k = .lst ∨ k = .tup) : F_check_deeds [.box false k (ds.map ddD)] = .ok .non [] := by
  have q := all_q (it := dItems (dFz 0)) (t := tgN 1) (test := dYes) (elt := dCall F_is_deed (dCons (dFz 1) dNil)) (vs := [1]) (ρ := [some (.box false k (ds.map ddD)), none]) (ρ1 := [some (.box false k (ds.map ddD)), none]) (f := true) (e := false) ds ddD (fun _ => true) (fun _ => true) (by
    have fr := frzL_dds ds
    rcases hk with rfl | rfl <;> simp [fr]) (fun d _ => ⟨_, true, rfl, rfl, fun _ => ⟨true, by simp [is_deed_eq, frz_dd]⟩, rfl⟩)
  have ea : (ds.filter fun _ => true).all (fun _ => true) = true := by simp
  rw [ea] at q
  have c8 : ¬ (8 : Int) < (ds.length : Int) := by omega
  rcases hk with rfl | rfl <;> simp [F_check_deeds, m_check_deeds, q, c8, isi]
theorem flat_eq (n : Nat) (h : n ≤ 9) : F_flat_strip [.int (n : Int)] = .ok (colsD (strip n)) [] := by
  have rm : okR (n : Int) = true := decide_eq_true (by omega)
  have q := tg_q (it := dRange1 (dCons (dFz 0) dNil)) (t := tgN 1) (test := dYes) (elt := dTup (dCons (dFz 1) dNil)) (vs := [1]) (ρ := [some (.int (n : Int)), none]) (ρ1 := [some (.int (n : Int)), none]) (f := true) (e := false) (List.range n) (fun (k : Nat) => D.int (0 + (k : Int))) (fun _ => true) (fun (k : Nat) => rowZ [(k : Int)]) (by
    simp [rm, rangeD]) (by simp; omega) (fun k _ => ⟨_, true, rfl, rfl, fun _ => ⟨true, by simp [rowZ], by simp⟩, rfl⟩) (frzL_map (fun _ => frz_rowZ _) _)
  rw [List.filter_eq_self.mpr fun _ _ => rfl] at q
  have e : D.box false .tup ((List.range n).map fun (k : Nat) => rowZ [(k : Int)]) = colsD (strip n) := by simp [colsD, strip]
  rw [e] at q
  simp only [F_flat_strip, m_flat_strip, v_run, List.map_cons, List.map_nil, List.length_cons, List.length_nil]
  simp [q, -v_dTg]
def handed (d : D) (ds : List Dd3) : Prop := (∃ o, d = .box o .lst (ds.map ddD)) ∨ d = .box false .tup (ds.map ddD)
theorem simple_eq {n : Nat} {ds : List Dd3} {x : D} (hx : handed x ds) (h : Ok n ds) (h1 : 1 ≤ n) (h9 : n ≤ 9) (h8 : ds.length ≤ 8) : F_simple [.int (n : Int), x] = .ok (colsD (runP n ds)) [] := by
  obtain ⟨k, hk, hfz, hfr⟩ : ∃ k, (k = Kd.lst ∨ k = Kd.tup) ∧ fz x = .box false k (ds.map ddD) ∧ (frz x = true → x = .box false k (ds.map ddD)) := by
    have fe : fzL (ds.map ddD) = ds.map ddD := fzL_frz (frzL_dds ds)
    rcases hx with ⟨o, rfl⟩ | rfl
    · refine ⟨.lst, .inl rfl, by simp only [fz, fe], fun q => ?_⟩
      cases o with
      | true => simp [frz] at q
      | false => rfl
    · exact ⟨.tup, .inr rfl, by simp only [fz, fe], fun _ => rfl⟩
  have cc := check_count_eq (n : Int) 1 9 (by omega) (by omega)
  have cd := check_deeds_eq ds h8 hk
  have fl := flat_eq n h9
  have s0 : p_simple_0 [some (.int (n : Int)), some x, none, none, none, none] = .nx [some (.int (n : Int)), some x, none, none, none, none] := by
    simp [p_simple_0, cc]
  have s1 : p_simple_1 [some (.int (n : Int)), some x, none, none, none, none] = .nx [some (.int (n : Int)), some (.box false k (ds.map ddD)), none, none, none, none] := by
    have fr := frzL_dds ds
    cases hf : frz x with
    | true =>
      have e := hfr hf
      subst e
      simp [p_simple_1, cd, fr]
    | false =>
      generalize hX : D.box false k (ds.map ddD) = X at *
      simp [p_simple_1, hf, hfz, cd]
  have sml : ∀ i, i ≤ ds.length → Sml (runC n (ds.take i)) := fun i hi => sml_pan (by rw [pan_run h i hi]; exact runP_sml (h.take i) h9)
  have fX : frz (D.box false k (ds.map ddD)) = true := by simp [frz, frzL_dds]
  have itm : ∀ o2 o3 o4 o5, dItems (dFz 1) [some (.int (n : Int)), some (.box false k (ds.map ddD)), o2, o3, o4, o5] = .ok true (ds.map ddD) false [some (.int (n : Int)), some (.box false k (ds.map ddD)), o2, o3, o4, o5] := fun o2 o3 o4 o5 => by
    have fr := frzL_dds ds
    rcases hk with rfl | rfl <;> simp [fr]
  generalize hX : D.box false k (ds.map ddD) = X at *
  have s2 : p_simple_2 [some (.int (n : Int)), some X, none, none, none, none] = .nx [some (.int (n : Int)), some X, some (colsD (strip n)), none, none, none] := by
    simp [p_simple_2, fl]
  obtain ⟨ρ', w, o3, o4, o5, rfl⟩ := for_all (t := tgT [3, 4, 5]) (body := p_simple_3b) ddD (fun i ρ => ∃ o3 o4 o5, ρ = [some (.int (n : Int)), some X, some (colsD (runC n (ds.take i))), o3, o4, o5])
    ds 0 [some (.int (n : Int)), some X, some (colsD (strip n)), none, none, none] ⟨none, none, none, rfl⟩ (fun i d ρ hi hI => by
      obtain ⟨o3, o4, o5, rfl⟩ := hI
      rw [Nat.zero_add] at *
      obtain ⟨hil, _⟩ := List.getElem?_eq_some_iff.mp hi
      obtain ⟨d1, d2⟩ := h i d hi
      have e := take_snoc hi
      have pl : (runC n (ds.take i)).length = (runP n (ds.take i)).length := by rw [← pan_run h i (by omega), pan_len]
      have fo := folded_eq (sml i (by omega)) d (by omega)
      have ln := len_colsD (runC n (ds.take i))
      have fC := frz_colsD (runC n (ds.take i))
      refine ⟨[some (.int (n : Int)), some X, some (colsD (runC n (ds.take i))), some (.int (d.1 : Int)), some (sdS d.2.1), some (wyS d.2.2)], [some (.int (n : Int)), some X, some (colsD (runC n (ds.take (i + 1)))), some (.int (d.1 : Int)), some (sdS d.2.1), some (wyS d.2.2)], rfl, .inl ?_, _, _, _, rfl⟩
      rw [e, runC_snoc]
      have c1 : (1 : Int) ≤ (d.1 : Int) := by omega
      have c2 : (d.1 : Int) < ((runC n (ds.take i)).length : Int) := by omega
      have f1 := frz_sd d.2.1
      have f2 := frz_wy d.2.2
      generalize colsD (foldO (runC n (ds.take i)) d) = CF at *
      generalize colsD (runC n (ds.take i)) = CD at *
      generalize sdS d.2.1 = SD at *
      generalize wyS d.2.2 = WY at *
      simp [p_simple_3b, p_simple_3b_0, p_simple_3b_1, ln, c1, c2, fo, fC, f1, f2])
  rw [Nat.zero_add, List.take_of_length_le (Nat.le_refl _)] at w
  have s3 : p_simple_3 [some (.int (n : Int)), some X, some (colsD (strip n)), none, none, none] = .nx [some (.int (n : Int)), some X, some (colsD (runC n ds)), o3, o4, o5] := by
    simp only [p_simple_3, v_dFor, itm]
    exact w
  have sl := sml ds.length (Nat.le_refl _)
  have pr := pan_run h ds.length (Nat.le_refl _)
  rw [List.take_of_length_le (Nat.le_refl _)] at sl pr
  have pi := panels_in_eq (runC n ds) sl.1 sl.2
  rw [pr] at pi
  have s4 : p_simple_4 [some (.int (n : Int)), some X, some (colsD (runC n ds)), o3, o4, o5] = .rt (colsD (runP n ds)) [some (.int (n : Int)), some X, some (colsD (runC n ds)), o3, o4, o5] := by
    have fC := frz_colsD (runC n ds)
    generalize colsD (runC n ds) = CD at *
    simp [p_simple_4, pi, fC]
  rw [F_simple, m_simple_eq]
  simp only [v_run, List.map_cons, List.map_nil, List.length_cons, List.length_nil]
  simp [p_simple, s0, s1, s2, s3, s4]
theorem pl_colsD (P : Cols) (h : Sml P) : pl 6 (colsD P) = true := by
  show (!false && (decide ((P.map rowZ).length ≤ 1000000) && (P.map rowZ).all (pl 5))) = true
  simp only [Bool.not_false, Bool.true_and, Bool.and_eq_true, decide_eq_true_eq, List.length_map, List.all_eq_true]
  refine ⟨by have := h.1; omega, fun x hx => ?_⟩
  obtain ⟨c, hc, rfl⟩ := List.mem_map.mp hx
  show (!false && (decide ((c.map D.int).length ≤ 1000000) && (c.map D.int).all (pl 4))) = true
  simp only [Bool.not_false, Bool.true_and, Bool.and_eq_true, decide_eq_true_eq, List.length_map, List.all_eq_true]
  refine ⟨by have := h.2 c hc; omega, fun x hx => ?_⟩
  obtain ⟨k, _, rfl⟩ := List.mem_map.mp hx
  rfl
theorem alike_cols (P : Cols) (h : Sml P) : F__law_alike 6 [colsD P, colsD P] = .ok (.bl true) [] := alike_refl 6 _ (pl_colsD P h)
theorem strip_mirror {ρ : Dd.Env} {it : DI} {j : Nat} {n : Nat} (h9 : n ≤ 9) (hit : it ρ = .ok true ((List.range n).map fun (k : Nat) => D.int (0 + (k : Int))) false ρ) (ht : ∀ x : D, ∃ ρx, tgN j x (wipeE ρ [j]) = some ρx ∧ ρx[j]? = some (some x) ∧ wipeE ρx [j] = wipeE ρ [j]) :
    bind1 fTupOf (dLc it (tgN j) dYes (dTup (dCons (dFz j) dNil)) [j]) ρ = .ok true (colsD (strip n)) false ρ := by
  have q := lc_q1 (it := it) (t := tgN j) (elt := dTup (dCons (dFz j) dNil)) (vs := [j]) (ρ := ρ) (ρ1 := ρ) (f := true) (e := false) (List.range n) (fun (k : Nat) => D.int (0 + (k : Int))) (fun (k : Nat) => rowZ [(k : Int)]) hit (by simp; omega) (fun k _ => by
    obtain ⟨ρx, h1, h2, h3⟩ := ht (D.int (0 + (k : Int)))
    exact ⟨ρx, true, h1, by simp [h2, rowZ], by simp, h3⟩)
  have e : (List.range n).map (fun (k : Nat) => rowZ [(k : Int)]) = (strip n).map rowZ := by simp [strip]
  rw [e] at q
  simp [-v_dLc, q, colsD]
theorem at_dds (o : Bool) (ds : List Dd3) (i : Nat) (d : Dd3) (h : ds[i]? = some d) : fIx (.box o .lst (ds.map ddD)) (.int (i : Int)) = some (true, ddD d) := by
  have : atI (ds.map ddD) (i : Int) = some (ddD d) := atI_nat (by rw [List.getElem?_map, h]; rfl)
  simp [this, frz_dd]
theorem at_dd0 (d : Dd3) : fIx (ddD d) (.int 0) = some (true, .int (d.1 : Int)) := rfl
theorem mk_side (t : Int) (h0 : 0 ≤ t) (h2 : t < 2) (a b : D) (ha : frz a = true) (hb : frz b = true) : fIx (.box false .tup [a, b]) (.int t) = some (true, if t = 0 then a else b) := by
  have : t = 0 ∨ t = 1 := by omega
  rcases this with rfl | rfl <;> simp [ha, hb]
theorem side_is (t : Int) : (if t = 0 then D.str "left" else .str "right") = sdS (decide (t = 0)) := by
  by_cases h : t = 0 <;> simp [h, sdS]
theorem way_is (t : Int) : (if t = 0 then D.str "up" else .str "down") = wyS (decide (t = 0)) := by
  by_cases h : t = 0 <;> simp [h, wyS]
theorem runP_pos {n : Nat} (ds : List Dd3) (h1 : 1 ≤ n) : 1 ≤ (runP n ds).length := by
  have e := (runP_flat n ds).length_eq
  rw [List.length_map, List.length_range] at e
  cases h : runP n ds with
  | nil => rw [h] at e; simp at e; omega
  | cons a l => simp
/-! a dict with ints as keys -/
theorem hasI_ints (ks : List Int) (s : Int) : hasI (ks.map .inl) (.inl s) = decide (s ∈ ks) := by
  rw [Bool.eq_iff_iff, decide_eq_true_eq]
  unfold hasI
  rw [List.any_map, List.any_eq_true]
  constructor
  · rintro ⟨x, hx, e⟩
    have e : x = s := by simpa using e
    exact e ▸ hx
  · exact fun h => ⟨s, h, by simp⟩
theorem idxK_ints : ∀ (ks : List Int) (s : Int), s ∈ ks → ∃ j, idxK (ks.map .inl) (.inl s) = some j ∧ ks[j]? = some s
  | [], s, h => nomatch h
  | k :: ks, s, h => by
    by_cases e : k = s
    · subst e
      exact ⟨0, by simp [idxK, List.findIdx?_cons], rfl⟩
    · have h : s ∈ ks := by
        rcases List.mem_cons.mp h with h | h
        · exact absurd h.symm e
        · exact h
      obtain ⟨j, h1, h2⟩ := idxK_ints ks s h
      refine ⟨j + 1, ?_, by simpa using h2⟩
      unfold idxK at h1 ⊢
      rw [List.map_cons, List.findIdx?_cons, h1]
      simp [e]
theorem valK_ints (f : Int → D) : ∀ (ks : List Int) (s : Int), s ∈ ks → valK (ks.map .inl) (ks.map f) (.inl s) = some (f s)
  | [], s, h => nomatch h
  | k :: ks, s, h => by
    by_cases e : k = s
    · subst e
      simp [valK]
    · have h : s ∈ ks := by
        rcases List.mem_cons.mp h with h | h
        · exact absurd h.symm e
        · exact h
      have ih := valK_ints f ks s h
      unfold valK at ih ⊢
      simpa [e] using ih
theorem set_ints (f g : Int → D) {ks : List Int} (nd : ks.Nodup) {j : Nat} {s : Int} (hj : ks[j]? = some s) (ho : ∀ t, t ≠ s → g t = f t) : (ks.map f).set j (g s) = ks.map g := by
  obtain ⟨hl, he⟩ := List.getElem?_eq_some_iff.mp hj
  refine List.ext_getElem (by simp) fun i h1 h2 => ?_
  rw [List.length_map] at h2
  rw [List.getElem_set, List.getElem_map, List.getElem_map]
  by_cases e : j = i
  · subst e
    rw [if_pos rfl, he]
  · rw [if_neg e]
    refine (ho _ fun q => e ?_).symm
    rcases Nat.lt_trichotomy j i with z | z | z
    · exact absurd (he.trans q.symm) (List.pairwise_iff_getElem.mp nd j i hl h2 z)
    · exact z
    · exact absurd (q.trans he.symm) (List.pairwise_iff_getElem.mp nd i j h2 hl z)
/-! where the piles go -/
def tn (line : Nat) (l : Bool) (k : Nat) : Bool := if l = true then decide (k < line) else !decide (k < line)
def spot (line : Nat) (l : Bool) (k : Nat) : Int := if tn line l k = true then 2 * (line : Int) - 1 - (k : Int) else (k : Int)
def ilD (c : List Int) : D := .box false .lst (c.map D.int)
def slF (P : Cols) (line : Nat) (l : Bool) (i : Nat) (s : Int) : D := if 0 ≤ s ∧ s < (i : Int) ∧ tn line l s.toNat = false then ilD (P.getD s.toNat []) else .box true .lst []
def slT (P : Cols) (line : Nat) (l : Bool) (i : Nat) (s : Int) : D := if 0 ≤ 2 * (line : Int) - 1 - s ∧ 2 * (line : Int) - 1 - s < (i : Int) ∧ tn line l (2 * (line : Int) - 1 - s).toNat = true then ilD (P.getD (2 * (line : Int) - 1 - s).toNat []).reverse else .box true .lst []
def pairD (P : Cols) (line : Nat) (l : Bool) (i : Nat) (s : Int) : D := .box true .lst [slF P line l i s, slT P line l i s]
theorem slF_ne (P : Cols) (line : Nat) (l : Bool) (i : Nat) (s : Int) (h : tn line l i = true ∨ s ≠ (i : Int)) : slF P line l (i + 1) s = slF P line l i s := by
  unfold slF
  by_cases c : 0 ≤ s ∧ s < (i : Int) ∧ tn line l s.toNat = false
  · rw [if_pos c, if_pos ⟨c.1, by omega, c.2.2⟩]
  · rw [if_neg c, if_neg]
    rintro ⟨a, b, d⟩
    refine c ⟨a, ?_, d⟩
    rcases h with h | h
    · by_cases e : s = (i : Int)
      · subst e
        rw [Int.toNat_natCast, h] at d
        cases d
      · omega
    · omega
theorem slT_ne (P : Cols) (line : Nat) (l : Bool) (i : Nat) (s : Int) (h : tn line l i = false ∨ 2 * (line : Int) - 1 - s ≠ (i : Int)) : slT P line l (i + 1) s = slT P line l i s := by
  unfold slT
  generalize 2 * (line : Int) - 1 - s = a at *
  by_cases c : 0 ≤ a ∧ a < (i : Int) ∧ tn line l a.toNat = true
  · rw [if_pos c, if_pos ⟨c.1, by omega, c.2.2⟩]
  · rw [if_neg c, if_neg]
    rintro ⟨q, b, d⟩
    refine c ⟨q, ?_, d⟩
    rcases h with h | h
    · by_cases e : a = (i : Int)
      · subst e
        rw [Int.toNat_natCast, h] at d
        cases d
      · omega
    · omega
theorem slF_at (P : Cols) (line : Nat) (l : Bool) (i : Nat) (h : tn line l i = false) : slF P line l (i + 1) (i : Int) = ilD (P.getD i []) := by
  unfold slF
  rw [Int.toNat_natCast, if_pos ⟨by omega, by omega, h⟩]
theorem slT_at (P : Cols) (line : Nat) (l : Bool) (i : Nat) (h : tn line l i = true) : slT P line l (i + 1) (2 * (line : Int) - 1 - (i : Int)) = ilD (P.getD i []).reverse := by
  unfold slT
  have e : 2 * (line : Int) - 1 - (2 * (line : Int) - 1 - (i : Int)) = (i : Int) := by omega
  rw [e, Int.toNat_natCast, if_pos ⟨by omega, by omega, h⟩]
/-- the pair as it is set -/
theorem pair_set (P : Cols) (line : Nat) (l : Bool) (i : Nat) : pairD P line l (i + 1) (spot line l i) = .box true .lst ([slF P line l i (spot line l i), slT P line l i (spot line l i)].set (if tn line l i = true then 1 else 0) (ilD (if tn line l i = true then (P.getD i []).reverse else P.getD i []))) := by
  unfold pairD spot
  cases h : tn line l i with
  | true =>
    simp only [if_true]
    rw [slT_at P line l i h, slF_ne P line l i _ (.inl h)]
    rfl
  | false =>
    simp only [Bool.false_eq_true, if_false]
    rw [slF_at P line l i h, slT_ne P line l i _ (.inl h)]
    rfl
theorem pair_ne (P : Cols) (line : Nat) (l : Bool) (i : Nat) (s : Int) (h : s ≠ spot line l i) : pairD P line l (i + 1) s = pairD P line l i s := by
  unfold pairD spot at *
  cases c : tn line l i with
  | true =>
    rw [c] at h
    simp only [if_true] at h
    rw [slF_ne P line l i s (.inl c), slT_ne P line l i s (.inr (by omega))]
  | false =>
    rw [c] at h
    simp only [Bool.false_eq_true, if_false] at h
    rw [slF_ne P line l i s (.inr h), slT_ne P line l i s (.inl c)]
def eP : D := .box true .lst [.box true .lst [], .box true .lst []]
theorem pair0 (P : Cols) (line : Nat) (l : Bool) (s : Int) : pairD P line l 0 s = eP := by
  unfold pairD slF slT eP
  rw [if_neg (by omega), if_neg (by omega)]
theorem rt_eq (l : Bool) : fEq (sdS l) (.str "right") = some (true, .bl (!l)) := by
  cases l <;> simp [sdS, fEq, eqV'] <;> decide
theorem at_dd1 (d : Dd3) : fIx (ddD d) (.int 1) = some (true, sdS d.2.1) := rfl
theorem at_dd2 (d : Dd3) : fIx (ddD d) (.int 2) = some (true, wyS d.2.2) := rfl
theorem place_b {P : Cols} (hP : Sml P) (line : Nat) (l u : Bool) (i : Nat) (c : List Int) (hc : P[i]? = some c) (ks : List Int) (f : Int → D) (g : Int → D) (nd : ks.Nodup) (hk : ks.length ≤ i) (hf : spot line l i ∉ ks → f (spot line l i) = eP)
    (A B : D) (hs : f (spot line l i) = .box true .lst [A, B]) (hg : g (spot line l i) = .box true .lst ([A, B].set (if tn line l i = true then 1 else 0) (ilD (if tn line l i = true then c.reverse else c)))) (ho : ∀ s, s ≠ spot line l i → g s = f s) (o5 o6 o7 : Option D) :
    ∃ (ks' : List Int) (o5' o6' o7' : Option D), p__law_place_1b [some (colsD P), some (ddD (line, l, u)), some (.box true (.dic (ks.map .inl)) (ks.map f)), some (.int (i : Int)), none, o5, o6, o7, none] = .nx [some (colsD P), some (ddD (line, l, u)), some (.box true (.dic (ks'.map .inl)) (ks'.map g)), some (.int (i : Int)), none, o5', o6', o7', none] ∧ ks' = (if spot line l i ∈ ks then ks else ks ++ [spot line l i]) := by
  have ac := at_colsD P i c hc
  have lP := len_colsD P
  have fP := frz_colsD P
  have il : i < P.length := (List.getElem?_eq_some_iff.mp hc).1
  have hl := hP.1
  have a0 := at_dd0 (line, l, u)
  have a1 := at_dd1 (line, l, u)
  have re := rt_eq l
  have fd := frz_dd (line, l, u)
  simp only at a0 a1
  generalize ddD (line, l, u) = DD at *
  generalize colsD P = PD at *
  generalize hsd : sdS l = SD at *
  have lo : fLstOf (rowZ c) = some (true, .box true .lst (c.map D.int)) := by simp [rowZ]
  obtain ⟨sp, hsp⟩ : ∃ sp, sp = spot line l i := ⟨_, rfl⟩
  obtain ⟨t, ht⟩ : ∃ t, t = tn line l i := ⟨_, rfl⟩
  have fr := frz_rowZ c
  generalize rowZ c = RC at *
  obtain ⟨Dc, hDc⟩ : ∃ Dc, Dc = D.box true (.dic (ks.map .inl)) (ks.map f) := ⟨_, rfl⟩
  have b01 : dSeq p__law_place_1b_0 p__law_place_1b_1 [some PD, some DD, some Dc, some (.int (i : Int)), none, o5, o6, o7, none] = .nx [some PD, some DD, some Dc, some (.int (i : Int)), none, o5, some (.bl t), o7, none] := by
    rw [ht]
    cases l <;> simp [p__law_place_1b_0, p__law_place_1b_1, a0, a1, re, tn]
  have b2 : p__law_place_1b_2 [some PD, some DD, some Dc, some (.int (i : Int)), none, o5, some (.bl t), o7, none] = .nx [some PD, some DD, some Dc, some (.int (i : Int)), none, some (.int (i : Int)), some (.bl t), o7, none] := by
    simp [p__law_place_1b_2]
  have b3 : p__law_place_1b_3 [some PD, some DD, some Dc, some (.int (i : Int)), none, some (.int (i : Int)), some (.bl t), o7, none] = .nx [some PD, some DD, some Dc, some (.int (i : Int)), none, some (.int (i : Int)), some (.bl t), some (.box true .lst (c.map D.int)), none] := by
    simp [p__law_place_1b_3, ac, lo]
  have b4 : p__law_place_1b_4 [some PD, some DD, some Dc, some (.int (i : Int)), none, some (.int (i : Int)), some (.bl t), some (.box true .lst (c.map D.int)), none] = .nx [some PD, some DD, some Dc, some (.int (i : Int)), none, some (.int sp), some (.bl t), some (.box true .lst ((if t = true then c.reverse else c).map D.int)), none] := by
    rw [hsp, spot, ← ht]
    have om : ∀ j, okMul 2 j = true := fun j => okMul_l (by decide)
    cases t <;> simp [om, p__law_place_1b_4, p__law_place_1b_4t, p__law_place_1b_4t_0, p__law_place_1b_4t_1, a0, List.map_reverse]
  rw [← hsp] at hf hs hg ho ⊢
  rw [← ht] at hg
  generalize hcc : (if t = true then c.reverse else c) = cc at *
  obtain ⟨ks', hks'⟩ : ∃ ks', ks' = (if sp ∈ ks then ks else ks ++ [sp]) := ⟨_, rfl⟩
  have b5 : ∀ O7, O7 = some (D.box true .lst (cc.map D.int)) → p__law_place_1b_5 [some PD, some DD, some Dc, some (.int (i : Int)), none, some (.int sp), some (.bl t), some (D.box true .lst (cc.map D.int)), none] = .nx [some PD, some DD, some (.box true (.dic (ks'.map .inl)) (ks'.map f)), some (.int (i : Int)), none, some (.int sp), some (.bl t), some (D.box true .lst (cc.map D.int)), none] := by
    intro O7 hO7
    rw [← hO7]
    clear hO7 b4
    have hh := hasI_ints ks sp
    have kin : fKIn true (.int sp) Dc = some (true, .bl (!(decide (sp ∈ ks)))) := by
      rw [hDc]
      simp [fKIn, dicD, keyI, hh]
    by_cases m : sp ∈ ks
    · rw [if_pos m] at hks'
      subst hks'
      rw [← hDc]
      simp [p__law_place_1b_5, kin, m]
    · rw [if_neg m] at hks'
      subst hks'
      have e : (ks ++ [sp]).map f = ks.map f ++ [eP] := by rw [List.map_append, List.map_singleton, hf m]
      have e2 : (ks ++ [sp]).map (Sum.inl : Int → Key) = ks.map .inl ++ [.inl sp] := by simp
      rw [e, e2]
      have k1 : (ks.map (Sum.inl : Int → Key)).length < 1000000 := by rw [List.length_map]; omega
      rw [decide_eq_false m] at hh
      have tt : dT (bind2 (fKIn true) (dVar 5) (dVar 2)) [some PD, some DD, some Dc, some (.int (i : Int)), none, some (.int sp), some (.bl t), O7, none] = .ok true true false [some PD, some DD, some Dc, some (.int (i : Int)), none, some (.int sp), some (.bl t), O7, none] := by
        simp [kin, m]
      simp only [p__law_place_1b_5, dIf, tt, if_true]
      subst hDc
      generalize ks.map (Sum.inl : Int → Key) = KS at *
      generalize ks.map f = FS at *
      simp [dPutN, keyI, hh, k1, eP]
  have ms : sp ∈ ks' := by
    rw [hks']
    split
    · assumption
    · simp
  obtain ⟨j, j1, j2⟩ := idxK_ints ks' sp ms
  have nd' : ks'.Nodup := by
    rw [hks']
    split
    · exact nd
    · rename_i m
      exact List.nodup_append.mpr ⟨nd, by simp, fun a ha b hb e => by
        rw [List.mem_singleton] at hb
        subst hb
        exact m (e ▸ ha)⟩
  have jd : (ks'.map f)[j]? = some (.box true .lst [A, B]) := by rw [List.getElem?_map, j2, Option.map_some, hs]
  have st := set_ints f g nd' j2 ho
  rw [hg] at st
  refine ⟨ks', some (.int sp), some (.bl t), some (ilD cc), ?_, hks'⟩
  have b6 : p__law_place_1b_6 [some PD, some DD, some (.box true (.dic (ks'.map .inl)) (ks'.map f)), some (.int (i : Int)), none, some (.int sp), some (.bl t), some (D.box true .lst (cc.map D.int)), none] = .nx [some PD, some DD, some (.box true (.dic (ks'.map .inl)) (ks'.map g)), some (.int (i : Int)), none, some (.int sp), some (.bl t), some (ilD cc), none] := by
    rw [← st]
    generalize ks'.map (Sum.inl : Int → Key) = KS at *
    generalize ks'.map f = FS at *
    have fc : frzL (cc.map D.int) = true := frzL_map (fun _ => rfl) cc
    have gc : fzL (cc.map D.int) = cc.map D.int := fzL_frz fc
    have x0 : ixN 2 0 = some 0 := rfl
    have x1 : ixN 2 1 = some 1 := rfl
    cases t <;> simp [p__law_place_1b_6, dSetK, j1, jd, ilD, x0, x1, fc, gc]
  simp only [v_seq] at b01
  cases hb : p__law_place_1b_0 [some PD, some DD, some Dc, some (.int (i : Int)), none, o5, o6, o7, none] with
  | nx ρ1 =>
    rw [hb] at b01
    simp only at b01
    rw [← hDc]
    simp only [p__law_place_1b, v_seq, hb, b01, b2, b3, b4, b5 _ rfl, b6]
  | _ => rw [hb] at b01; cases b01
def pF (P : Cols) (line : Nat) (l : Bool) (i : Nat) (s : Int) : List Int := if 0 ≤ s ∧ s < (i : Int) ∧ tn line l s.toNat = false then P.getD s.toNat [] else []
def pT (P : Cols) (line : Nat) (l : Bool) (i : Nat) (s : Int) : List Int := if 0 ≤ 2 * (line : Int) - 1 - s ∧ 2 * (line : Int) - 1 - s < (i : Int) ∧ tn line l (2 * (line : Int) - 1 - s).toNat = true then (P.getD (2 * (line : Int) - 1 - s).toNat []).reverse else []
def pq (P : Cols) (line : Nat) (l : Bool) (i : Nat) (s : Int) : D := .box false .lst [ilD (pF P line l i s), ilD (pT P line l i s)]
theorem frz_il (c : List Int) : frz (ilD c) = true := by
  have : frzL (c.map D.int) = true := frzL_map (fun _ => rfl) c
  simp [ilD, this]
theorem fz_il (c : List Int) : fz (ilD c) = ilD c := by
  have : frzL (c.map D.int) = true := frzL_map (fun _ => rfl) c
  simp only [ilD, fz, fzL_frz this]
theorem fz_e : fz (.box true .lst []) = ilD [] := rfl
theorem fz_pair (P : Cols) (line : Nat) (l : Bool) (i : Nat) (s : Int) : fz (pairD P line l i s) = pq P line l i s := by
  have e1 : fz (slF P line l i s) = ilD (pF P line l i s) := by
    unfold slF pF
    split
    · exact fz_il _
    · exact fz_e
  have e2 : fz (slT P line l i s) = ilD (pT P line l i s) := by
    unfold slT pT
    split
    · exact fz_il _
    · exact fz_e
  simp only [pairD, pq, fz, fzL, e1, e2]
theorem fzL_map' {α : Type} (f g : α → D) (h : ∀ x, fz (f x) = g x) : ∀ xs : List α, fzL (xs.map f) = xs.map g
  | [] => rfl
  | x :: xs => by simp only [List.map_cons, fzL, h x, fzL_map' f g h xs]
theorem frz_pq (P : Cols) (line : Nat) (l : Bool) (i : Nat) (s : Int) : frz (pq P line l i s) = true := by
  simp [pq, frz_il]
theorem plus_il (a b : List Int) (h : a.length + b.length ≤ 1000000) : fPlusW (ilD a) (ilD b) = some (true, .box true .lst ((a ++ b).map D.int)) := by
  have h1 : frzL (a.map D.int) = true := frzL_map (fun _ => rfl) a
  have h2 : frzL (b.map D.int) = true := frzL_map (fun _ => rfl) b
  simp [fPlusW, fPlus, fCatT, fCat, fCatW, ilD, h1, h2, h]
def lowS (P : Cols) (line : Nat) (l : Bool) : Int := if l = true then (line : Int) else (line : Int) - (max line (P.length - line) : Nat)
def widS (P : Cols) (line : Nat) : Nat := max line (P.length - line)
def placeL (P : Cols) (line : Nat) (l u : Bool) : Cols := (List.range (widS P line)).map fun (k : Nat) => if u = true then pF P line l P.length (lowS P line l + (k : Int)) ++ pT P line l P.length (lowS P line l + (k : Int)) else pT P line l P.length (lowS P line l + (k : Int)) ++ pF P line l P.length (lowS P line l + (k : Int))
theorem keys_of {P : Cols} {line : Nat} (l : Bool) (h : line ≤ P.length) {ks : List Int} (nd : ks.Nodup) (hk : ∀ s, s ∈ ks ↔ ∃ k, k < P.length ∧ spot line l k = s) : srt ks = (List.range (widS P line)).map fun (k : Nat) => lowS P line l + (k : Int) := by
  refine (srt_eq ?_ ?_).symm
  · refine (List.perm_ext_iff_of_nodup ?_ nd).mpr fun s => ?_
    · show List.Pairwise _ _
      rw [List.pairwise_map]
      exact List.pairwise_lt_range.imp fun h => by omega
    · rw [hk s, List.mem_map]
      unfold lowS widS
      constructor
      · rintro ⟨k, hkk, rfl⟩
        rw [List.mem_range] at hkk
        cases l with
        | true =>
          by_cases c : line + k < P.length
          · refine ⟨line + k, c, ?_⟩
            simp only [spot, tn, if_true, decide_eq_true_eq]
            rw [if_neg (by omega)]
            omega
          · refine ⟨line - 1 - k, by omega, ?_⟩
            simp only [spot, tn, if_true, decide_eq_true_eq]
            rw [if_pos (by omega)]
            omega
        | false =>
          obtain ⟨w, hw⟩ : ∃ w, w = max line (P.length - line) := ⟨_, rfl⟩
          rw [← hw] at hkk ⊢
          by_cases c : w - 1 - k < line
          · refine ⟨line - 1 - (w - 1 - k), by omega, ?_⟩
            simp only [spot, tn, Bool.false_eq_true, if_false, Bool.not_eq_true', decide_eq_false_iff_not]
            rw [if_neg (by omega)]
            omega
          · refine ⟨line + (w - 1 - k), by omega, ?_⟩
            simp only [spot, tn, Bool.false_eq_true, if_false, Bool.not_eq_true', decide_eq_false_iff_not]
            rw [if_pos (by omega)]
            omega
      · rintro ⟨k, hkk, rfl⟩
        cases l with
        | true =>
          simp only [spot, tn, if_true, decide_eq_true_eq]
          split
          · exact ⟨line - 1 - k, List.mem_range.mpr (by omega), by omega⟩
          · exact ⟨k - line, List.mem_range.mpr (by omega), by omega⟩
        | false =>
          obtain ⟨w, hw⟩ : ∃ w, w = max line (P.length - line) := ⟨_, rfl⟩
          rw [← hw]
          simp only [spot, tn, Bool.false_eq_true, if_false, Bool.not_eq_true', decide_eq_false_iff_not]
          split
          · exact ⟨w - 1 - (k - line), List.mem_range.mpr (by omega), by omega⟩
          · exact ⟨w - 1 - (line - 1 - k), List.mem_range.mpr (by omega), by omega⟩
  · rw [List.pairwise_map]
    exact List.pairwise_lt_range.imp fun h => by omega
theorem place_1 {P : Cols} (hP : Sml P) (line : Nat) (l u : Bool) : ∃ (ks : List Int) (o3 o5 o6 o7 : Option D), ks.Nodup ∧ ks.length ≤ P.length ∧ (∀ s, s ∈ ks ↔ ∃ k, k < P.length ∧ spot line l k = s) ∧
    p__law_place_1 [some (colsD P), some (ddD (line, l, u)), some (.box true (.dic []) []), none, none, none, none, none, none] = .nx [some (colsD P), some (ddD (line, l, u)), some (.box true (.dic (ks.map .inl)) (ks.map (pairD P line l P.length))), o3, none, o5, o6, o7, none] := by
  obtain ⟨ρ', w, ks, o3, o5, o6, o7, rfl, i1, i2, i3, i4⟩ := for_all (t := tgN 3) (body := p__law_place_1b) (fun k : Nat => D.int (0 + (k : Int))) (fun i ρ => ∃ (ks : List Int) (o3 o5 o6 o7 : Option D), ρ = [some (colsD P), some (ddD (line, l, u)), some (.box true (.dic (ks.map .inl)) (ks.map (pairD P line l i))), o3, none, o5, o6, o7, none] ∧ ks.Nodup ∧ ks.length ≤ i ∧ (∀ s, s ∈ ks ↔ ∃ k, k < i ∧ spot line l k = s) ∧ (∀ s, s ∉ ks → pairD P line l i s = eP))
    (List.range P.length) 0 [some (colsD P), some (ddD (line, l, u)), some (.box true (.dic []) []), none, none, none, none, none, none] ⟨[], none, none, none, none, rfl, List.nodup_nil, Nat.le_refl _, fun s => by simp, fun s _ => pair0 P line l s⟩ (fun i k ρ hi hI => by
      obtain ⟨ks, o3, o5, o6, o7, rfl, i1, i2, i3, i4⟩ := hI
      rw [Nat.zero_add] at *
      obtain ⟨hi1, hi2⟩ := List.getElem?_eq_some_iff.mp hi
      rw [List.length_range] at hi1
      rw [List.getElem_range] at hi2
      subst hi2
      have hc := List.getElem?_eq_getElem hi1
      have hD : P.getD i [] = P[i] := by rw [List.getD_eq_getElem?_getD, hc, Option.getD_some]
      have hg := pair_set P line l i
      rw [hD] at hg
      obtain ⟨ks', o5', o6', o7', q, hks'⟩ := place_b hP line l u i P[i] hc ks (pairD P line l i) (pairD P line l (i + 1)) i1 i2 (i4 _) _ _ rfl hg (pair_ne P line l i) o5 o6 o7
      refine ⟨[some (colsD P), some (ddD (line, l, u)), some (.box true (.dic (ks.map .inl)) (ks.map (pairD P line l i))), some (.int (0 + (i : Int))), none, o5, o6, o7, none], _, rfl, .inl ?_, ks', some (.int (i : Int)), o5', o6', o7', rfl, ?_, ?_, fun s => ?_, fun s hs => ?_⟩
      · rw [Int.zero_add]
        exact q
      · rw [hks']
        split
        · exact i1
        · rename_i m
          exact List.nodup_append.mpr ⟨i1, by simp, fun a ha b hb e => by
            rw [List.mem_singleton] at hb
            subst hb
            exact m (e ▸ ha)⟩
      · rw [hks']
        split
        · omega
        · rw [List.length_append]
          simp
          omega
      · have e1 : s ∈ ks' ↔ s ∈ ks ∨ s = spot line l i := by
          rw [hks']
          split
          · rename_i m
            exact ⟨.inl, fun h => h.elim id fun e => e ▸ m⟩
          · simp
        rw [e1, i3 s]
        constructor
        · rintro (⟨k, k1, k2⟩ | e)
          · exact ⟨k, by omega, k2⟩
          · exact ⟨i, by omega, e.symm⟩
        · rintro ⟨k, k1, k2⟩
          by_cases e : k = i
          · subst e
            exact .inr k2.symm
          · exact .inl ⟨k, by omega, k2⟩
      · have e1 : s ∉ ks ∧ s ≠ spot line l i := by
          rw [hks'] at hs
          split at hs
          · rename_i m
            exact ⟨hs, fun e => hs (e ▸ m)⟩
          · simpa using hs
        rw [pair_ne P line l i s e1.2]
        exact i4 s e1.1)
  rw [Nat.zero_add, List.length_range] at *
  refine ⟨ks, o3, o5, o6, o7, i1, i2, i3, ?_⟩
  have rm : okR ((P.length : Nat) : Int) = true := decide_eq_true (by have := hP.1; omega)
  have er2 : rangeD 0 P.length = (List.range P.length).map fun (k : Nat) => D.int (0 + (k : Int)) := rfl
  have lP := len_colsD P
  have it : dRange1 (dCons (bind1 fLen (dVar 0)) dNil) [some (colsD P), some (ddD (line, l, u)), some (.box true (.dic []) []), none, none, none, none, none, none] = .ok true ((List.range P.length).map fun (k : Nat) => D.int (0 + (k : Int))) false [some (colsD P), some (ddD (line, l, u)), some (.box true (.dic []) []), none, none, none, none, none, none] := by
    rw [← er2]
    generalize colsD P = PD at *
    simp [lP, rm]
  simp only [p__law_place_1, v_dFor, it]
  exact w
theorem sortA_intsK (ns : List Int) : fSortA (.box true .lst (ns.map D.int)) = some (true, .box true .lst ((srt ns).map D.int)) := by
  simp [fSortA, fSorted]
theorem at2_0 (P : Cols) (line : Nat) (l : Bool) (i : Nat) (s : Int) : fIx (pq P line l i s) (.int 0) = some (true, ilD (pF P line l i s)) := by
  simp [pq, frz_il]
theorem at2_1 (P : Cols) (line : Nat) (l : Bool) (i : Nat) (s : Int) : fIx (pq P line l i s) (.int 1) = some (true, ilD (pT P line l i s)) := by
  simp [pq, frz_il]
theorem pF_le {P : Cols} (hP : Sml P) (line : Nat) (l : Bool) (i : Nat) (s : Int) : (pF P line l i s).length ≤ 1000 := by
  unfold pF
  split
  · rw [List.getD_eq_getElem?_getD]
    cases h : P[s.toNat]? with
    | none => simp
    | some c => exact hP.2 c (List.mem_of_getElem? h)
  · simp
theorem pT_le {P : Cols} (hP : Sml P) (line : Nat) (l : Bool) (i : Nat) (s : Int) : (pT P line l i s).length ≤ 1000 := by
  unfold pT
  split
  · rw [List.length_reverse, List.getD_eq_getElem?_getD]
    cases h : P[(2 * (line : Int) - 1 - s).toNat]? with
    | none => simp
    | some c => exact hP.2 c (List.mem_of_getElem? h)
  · simp
theorem place_eq {P : Cols} (hP : Sml P) (line : Nat) (l u : Bool) (h : line ≤ P.length) : F__law_place [colsD P, ddD (line, l, u)] = .ok (colsD (placeL P line l u)) [] := by
  obtain ⟨ks, o3, o5, o6, o7, i1, i2, i3, s1⟩ := place_1 hP line l u
  have srt_ks := keys_of l h i1 i3
  have lP := hP.1
  obtain ⟨w, hw⟩ : ∃ w, w = widS P line := ⟨_, rfl⟩
  have w1 : w ≤ 1000 := by rw [hw]; unfold widS; omega
  obtain ⟨lo, hlo⟩ : ∃ lo, lo = lowS P line l := ⟨_, rfl⟩
  obtain ⟨T, hT⟩ : ∃ T, T = placeL P line l u := ⟨_, rfl⟩
  rw [← hw, ← hlo] at srt_ks
  have Tl : T.length = w := by rw [hT]; simp [placeL, hw]
  have Tk : ∀ k, k < w → T[k]? = some (if u = true then pF P line l P.length (lo + (k : Int)) ++ pT P line l P.length (lo + (k : Int)) else pT P line l P.length (lo + (k : Int)) ++ pF P line l P.length (lo + (k : Int))) := fun k hk => by
    rw [hT, placeL, List.getElem?_map, List.getElem?_range (by omega), Option.map_some, hlo]
  have hm : ∀ k, k < w → lo + (k : Int) ∈ ks := fun k hk => by
    have : lo + (k : Int) ∈ srt ks := by rw [srt_ks]; exact List.mem_map.mpr ⟨k, List.mem_range.mpr hk, rfl⟩
    exact (List.mergeSort_perm _ _).mem_iff.mp this
  have fz2 : fzL (ks.map (pairD P line l P.length)) = ks.map (pq P line l P.length) := fzL_map' _ _ (fz_pair P line l P.length) ks
  have fr2 : frzL (ks.map (pq P line l P.length)) = true := frzL_map (frz_pq P line l P.length) ks
  have kg : ∀ k, k < w → fKGet (.box false (.dkl (ks.map .inl)) (ks.map (pq P line l P.length))) (.int (lo + (k : Int))) = some (true, pq P line l P.length (lo + (k : Int))) := fun k hk => by
    have v := valK_ints (pq P line l P.length) ks _ (hm k hk)
    simp [fKGet, fr2, keyI, v]
  have we := wy_eq u
  have a2 := at_dd2 (line, l, u)
  simp only at a2
  have fd := frz_dd (line, l, u)
  obtain ⟨KD, hKD⟩ : ∃ KD, KD = D.box false (.dkl (ks.map .inl)) (ks.map (pq P line l P.length)) := ⟨_, rfl⟩
  have frK : frz KD = true := by rw [hKD]; simp [fr2]
  have q := lc_q1 (it := dKeysK 2) (t := tgN 5) (elt := dFz 5) (vs := [5]) (ρ := [some (colsD P), some (ddD (line, l, u)), some (.box true (.dic (ks.map .inl)) (ks.map (pairD P line l P.length))), o3, some (.box true .lst []), o5, o6, o7, none]) (ρ1 := [some (colsD P), some (ddD (line, l, u)), some KD, o3, some (.box true .lst []), o5, o6, o7, none]) (f := true) (e := true) ks D.int D.int (by
    have e : (ks.map (Sum.inl : Int → Key)).map kD = ks.map D.int := by rw [List.map_map]; rfl
    rw [hKD, ← e, ← fz2]
    rfl) (by omega) (fun s _ => ⟨_, true, rfl, by simp, rfl, rfl⟩)
  rw [← hKD] at kg
  have sk := sortA_intsK ks
  rw [srt_ks, List.map_map] at sk
  have s0 : p__law_place_0 [some (colsD P), some (ddD (line, l, u)), none, none, none, none, none, none, none] = .nx [some (colsD P), some (ddD (line, l, u)), some (.box true (.dic []) []), none, none, none, none, none, none] := by
    simp [p__law_place_0]
  generalize colsD P = PD at *
  generalize hDD : ddD (line, l, u) = DD at *
  generalize hDc : D.box true (.dic (ks.map .inl)) (ks.map (pairD P line l P.length)) = Dc at *
  have s2 : p__law_place_2 [some PD, some DD, some Dc, o3, none, o5, o6, o7, none] = .nx [some PD, some DD, some Dc, o3, some (.box true .lst []), o5, o6, o7, none] := by simp [p__law_place_2]
  have it : dItems (bind1 fSortA (dLc (dKeysK 2) (tgN 5) dYes (dFz 5) [5])) [some PD, some DD, some Dc, o3, some (.box true .lst []), o5, o6, o7, none] = .ok true ((List.range w).map (D.int ∘ fun (k : Nat) => lo + (k : Int))) true [some PD, some DD, some KD, o3, some (.box true .lst []), o5, o6, o7, none] := by
    have fi : frzL ((List.range w).map (D.int ∘ fun (k : Nat) => lo + (k : Int))) = true := frzL_map (fun _ => rfl) _
    generalize (List.range w).map (D.int ∘ fun (k : Nat) => lo + (k : Int)) = L at *
    simp [-v_dLc, q, sk, fi]
  obtain ⟨ρ', wl, o5', o8', rfl⟩ := for_all (t := tgN 5) (body := p__law_place_3b) (D.int ∘ fun (k : Nat) => lo + (k : Int)) (fun i ρ => ∃ o5 o8, ρ = [some PD, some DD, some KD, o3, some (.box true .lst ((T.take i).map rowZ)), o5, o6, o7, o8])
    (List.range w) 0 [some PD, some DD, some KD, o3, some (.box true .lst []), o5, o6, o7, none] ⟨o5, none, rfl⟩ (fun i k ρ hi hI => by
      obtain ⟨o5, o8, rfl⟩ := hI
      rw [Nat.zero_add] at *
      obtain ⟨hi1, hi2⟩ := List.getElem?_eq_some_iff.mp hi
      rw [List.length_range] at hi1
      rw [List.getElem_range] at hi2
      subst hi2
      have Tki := Tk i hi1
      have tk : T.take (i + 1) = T.take i ++ [if u = true then pF P line l P.length (lo + (i : Int)) ++ pT P line l P.length (lo + (i : Int)) else pT P line l P.length (lo + (i : Int)) ++ pF P line l P.length (lo + (i : Int))] := by rw [List.take_succ, Tki]; rfl
      have ln : ((T.take i).map rowZ).length < 1000000 := by
        simp only [List.length_map, List.length_take]
        omega
      have kgi := kg i hi1
      have b0 := at2_0 P line l P.length (lo + (i : Int))
      have b1 := at2_1 P line l P.length (lo + (i : Int))
      have f1 := pF_le hP line l P.length (lo + (i : Int))
      have f2 := pT_le hP line l P.length (lo + (i : Int))
      have fq := frz_pq P line l P.length (lo + (i : Int))
      rw [tk, List.map_append]
      generalize pF P line l P.length (lo + (i : Int)) = FA at *
      generalize pT P line l P.length (lo + (i : Int)) = TA at *
      generalize pq P line l P.length (lo + (i : Int)) = QD at *
      have p1 := plus_il FA TA (by omega)
      have p2 := plus_il TA FA (by omega)
      have g1 := frz_il FA
      have g2 := frz_il TA
      have t1 : fTupOf (.box true .lst ((FA ++ TA).map D.int)) = some (true, rowZ (FA ++ TA)) := by simp only [rowZ]; have := frzL_intsZ (FA ++ TA); generalize (FA ++ TA).map D.int = L at *; simp [this]
      have t2 : fTupOf (.box true .lst ((TA ++ FA).map D.int)) = some (true, rowZ (TA ++ FA)) := by simp only [rowZ]; have := frzL_intsZ (TA ++ FA); generalize (TA ++ FA).map D.int = L at *; simp [this]
      have r1 := frz_rowZ (FA ++ TA)
      have r2 := frz_rowZ (TA ++ FA)
      refine ⟨[some PD, some DD, some KD, o3, some (.box true .lst ((T.take i).map rowZ)), some (.int (lo + (i : Int))), o6, o7, o8], [some PD, some DD, some KD, o3, some (.box true .lst ((T.take i).map rowZ ++ [if u = true then FA ++ TA else TA ++ FA].map rowZ)), some (.int (lo + (i : Int))), o6, o7, some QD], rfl, .inl ?_, _, _, rfl⟩
      generalize (T.take i).map rowZ = L at *
      generalize D.box true .lst ((FA ++ TA).map D.int) = X1 at *
      generalize D.box true .lst ((TA ++ FA).map D.int) = X2 at *
      generalize lo + (i : Int) = sp at *
      generalize ilD FA = IA at *
      generalize ilD TA = IB at *
      cases u
      · simp only [Bool.false_eq_true, if_false, List.map_cons, List.map_nil]
        generalize rowZ (TA ++ FA) = R2 at *
        simp [p__law_place_3b, p__law_place_3b_0, p__law_place_3b_1, kgi, fq, a2, we, b0, b1, g1, g2, p2, t2, r2, ln]
      · simp only [if_true, List.map_cons, List.map_nil]
        generalize rowZ (FA ++ TA) = R1 at *
        simp [p__law_place_3b, p__law_place_3b_0, p__law_place_3b_1, kgi, fq, a2, we, b0, b1, g1, g2, p1, t1, r1, ln])
  have tkw : T.take w = T := List.take_of_length_le (by omega)
  rw [Nat.zero_add, List.length_range, tkw] at wl
  have s3 : p__law_place_3 [some PD, some DD, some Dc, o3, some (.box true .lst []), o5, o6, o7, none] = .nx [some PD, some DD, some KD, o3, some (.box true .lst (T.map rowZ)), o5', o6, o7, o8'] := by
    simp only [p__law_place_3, v_dFor, it]
    exact wl
  have s4 : p__law_place_4 [some PD, some DD, some KD, o3, some (.box true .lst (T.map rowZ)), o5', o6, o7, o8'] = .rt (colsD T) [some PD, some DD, some KD, o3, some (.box true .lst (T.map rowZ)), o5', o6, o7, o8'] := by
    simp [p__law_place_4, colsD]
  rw [F__law_place, m__law_place_eq]
  simp only [v_run, List.map_cons, List.map_nil, List.length_cons, List.length_nil]
  simp [p__law_place, s0, s1, s2, s3, s4]
  rw [hT]
theorem getD_none (P : Cols) (k : Nat) (h : ¬ k < P.length) : P.getD k [] = [] := by
  rw [List.getD_eq_getElem?_getD, List.getElem?_eq_none (by omega)]
  rfl
theorem pFl (P : Cols) (line k : Nat) : pF P line true P.length ((line : Int) + (k : Int)) = P.getD (line + k) [] := by
  unfold pF
  have e : ((line : Int) + (k : Int)).toNat = line + k := by omega
  rw [e]
  by_cases c : line + k < P.length
  · rw [if_pos ⟨by omega, by omega, by simp [tn]⟩]
  · rw [if_neg (by omega), getD_none P _ c]
theorem pTl (P : Cols) (line k : Nat) (h : line ≤ P.length) : pT P line true P.length ((line : Int) + (k : Int)) = if k < line then (P.getD (line - 1 - k) []).reverse else [] := by
  unfold pT
  have e : (2 * (line : Int) - 1 - ((line : Int) + (k : Int))).toNat = line - 1 - k := by omega
  rw [e]
  by_cases c : k < line
  · rw [if_pos ⟨by omega, by omega, by simp [tn]; omega⟩, if_pos c]
  · rw [if_neg (by omega), if_neg c]
theorem pFr (P : Cols) (line j : Nat) (h : line ≤ P.length) : pF P line false P.length ((line : Int) - 1 - (j : Int)) = if j < line then P.getD (line - 1 - j) [] else [] := by
  unfold pF
  have e : ((line : Int) - 1 - (j : Int)).toNat = line - 1 - j := by omega
  rw [e]
  by_cases c : j < line
  · rw [if_pos ⟨by omega, by omega, by simp [tn]; omega⟩, if_pos c]
  · rw [if_neg (by omega), if_neg c]
theorem pTr (P : Cols) (line j : Nat) : pT P line false P.length ((line : Int) - 1 - (j : Int)) = (P.getD (line + j) []).reverse := by
  unfold pT
  have e : (2 * (line : Int) - 1 - ((line : Int) - 1 - (j : Int))).toNat = line + j := by omega
  rw [e]
  by_cases c : line + j < P.length
  · rw [if_pos ⟨by omega, by omega, by simp [tn]⟩]
  · rw [if_neg (by omega), getD_none P _ c]
    rfl
theorem dropG (P : Cols) (line k : Nat) : ((P.drop line)[k]?).getD [] = P.getD (line + k) [] := by
  rw [List.getElem?_drop, List.getD_eq_getElem?_getD]
theorem takeG (P : Cols) (line k : Nat) (h : line ≤ P.length) : ((P.take line).reverse[k]?).getD [] = if k < line then P.getD (line - 1 - k) [] else [] := by
  by_cases c : k < line
  · rw [if_pos c, List.getElem?_reverse (by rw [List.length_take]; omega), List.length_take, Nat.min_eq_left h, List.getElem?_take, if_pos (by omega), List.getD_eq_getElem?_getD]
  · rw [if_neg c, List.getElem?_eq_none (by rw [List.length_reverse, List.length_take]; omega)]
    rfl
theorem mapG (Q : Cols) (k : Nat) : ((Q.map List.reverse)[k]?).getD [] = ((Q[k]?).getD []).reverse := by
  rw [List.getElem?_map]
  cases Q[k]? <;> rfl
theorem place_deed (P : Cols) (line : Nat) (l u : Bool) (h : line ≤ P.length) : placeL P line l u = deedL P (line, l, u) := by
  have dl := deedL_len P (line, l, u) h
  have pl : (placeL P line l u).length = widS P line := by simp [placeL]
  refine List.ext_getElem? fun k => ?_
  by_cases hk : k < widS P line
  · rw [placeL, List.getElem?_map, List.getElem?_range hk, Option.map_some]
    unfold widS at hk
    cases l with
    | true =>
      have e1 : lowS P line true = (line : Int) := rfl
      rw [e1, pFl, pTl P line k h]
      simp only [deedL, if_true, turnL]
      cases u with
      | true =>
        simp only [if_true]
        rw [zipP_get _ _ _ (by simp; omega), dropG, mapG, takeG P line k h]
        split <;> rfl
      | false =>
        simp only [Bool.false_eq_true, if_false]
        rw [zipP_get _ _ _ (by simp; omega), dropG, mapG, takeG P line k h]
        split <;> rfl
    | false =>
      obtain ⟨w, hw⟩ : ∃ w, w = max line (P.length - line) := ⟨_, rfl⟩
      have e1 : lowS P line false = (line : Int) - (w : Int) := by rw [hw]; rfl
      rw [← hw] at hk
      have e2 : lowS P line false + (k : Int) = (line : Int) - 1 - ((w - 1 - k : Nat) : Int) := by rw [e1]; omega
      rw [e2, pFr P line _ h, pTr]
      have r1 : P.reverse.take (P.length - line) = (P.drop line).reverse := by
        rw [List.take_reverse]
        congr 2
        omega
      have r2 : P.reverse.drop (P.length - line) = (P.take line).reverse := by
        rw [List.drop_reverse]
        congr 2
        omega
      simp only [deedL, Bool.false_eq_true, if_false, turnL, r1, r2, List.reverse_reverse]
      cases u with
      | true =>
        simp only [if_true]
        have zl : (zipP (P.take line).reverse ((P.drop line).map List.reverse)).length = w := by rw [zipP_len, hw]; simp; omega
        rw [List.getElem?_reverse (by omega), zl, zipP_get _ _ _ (by simp; omega), takeG P line _ h, mapG, dropG]
      | false =>
        simp only [Bool.false_eq_true, if_false]
        have zl : (zipP ((P.drop line).map List.reverse) (P.take line).reverse).length = w := by rw [zipP_len, hw]; simp; omega
        rw [List.getElem?_reverse (by omega), zl, zipP_get _ _ _ (by simp; omega), takeG P line _ h, mapG, dropG]
  · rw [List.getElem?_eq_none (by omega), List.getElem?_eq_none (by rw [dl]; unfold widS at hk; simp only; omega)]
theorem law_place_eq {P : Cols} (hP : Sml P) (d : Nat × Bool × Bool) (h : d.1 ≤ P.length) : F__law_place [colsD P, ddD d] = .ok (colsD (deedL P d)) [] := by
  obtain ⟨line, l, u⟩ := d
  rw [← place_deed P line l u h]
  exact place_eq hP line l u h
def ddP (d : Dd3) : PyData := .tuple [.int (d.1 : Int), .str (if d.2.1 = true then "left" else "right"), .str (if d.2.2 = true then "up" else "down")]
theorem toPy_dd (d : Dd3) : toPy (ddD d) = some (ddP d) := rfl
theorem toPyL_dds : ∀ L : List Dd3, toPyL (L.map ddD) = some (L.map ddP)
  | [] => rfl
  | l :: L => by simp [toPyL, toPy_dd, toPyL_dds L]
theorem eqv_dd (d : Dd3) : PyData.eqv (ddP d) (ddP d) = true := by
  simp [ddP, PyData.eqv, PyData.eqvAll]
theorem eqvAll_dds : ∀ L : List Dd3, PyData.eqvAll (L.map ddP) (L.map ddP) = true
  | [] => rfl
  | l :: L => by simp only [List.map_cons, PyData.eqvAll, eqv_dd, eqvAll_dds L]; simp
theorem lay_ddP (d : Dd3) : (ddP d).canLay0 = true := by
  obtain ⟨a, l, u⟩ := d
  have e1 : PyData.strOk (Str.ofString "left") = true := by decide +kernel
  have e2 : PyData.strOk (Str.ofString "right") = true := by decide +kernel
  have e3 : PyData.strOk (Str.ofString "up") = true := by decide +kernel
  have e4 : PyData.strOk (Str.ofString "down") = true := by decide +kernel
  cases l <;> cases u <;> simp [ddP, PyData.canLay0, PyData.canLayAll0, e1, e2, e3, e4]
theorem lay_dds : ∀ L : List Dd3, PyData.canLayAll0 (L.map ddP) = true
  | [] => rfl
  | l :: L => by simp [PyData.canLayAll0, lay_ddP, lay_dds L]
theorem dep_ddP (d : Dd3) : (ddP d).depth = 1 := by simp [ddP, PyData.depth, PyData.depthAll]
theorem dep_dds : ∀ L : List Dd3, PyData.depthAll (L.map ddP) ≤ 1
  | [] => by simp [PyData.depthAll]
  | l :: L => by
    have := dep_dds L
    have := dep_ddP l
    simp only [List.map_cons, PyData.depthAll]
    omega
theorem sh_dds (L : List Dd3) : SeqAt.shaped (.list (L.map ddP)) = true := by
  have := dep_dds L
  have h2 : PyData.depth (.list (L.map ddP)) ≤ 64 := by
    simp only [PyData.depth]
    omega
  show (PyData.canLay0 (.list (L.map ddP)) && decide (PyData.depth (.list (L.map ddP)) ≤ 64)) = true
  rw [Bool.and_eq_true]
  exact ⟨by simp only [PyData.canLay0]; exact lay_dds L, decide_eq_true h2⟩
theorem ne_dds (o o' : Bool) (L : List Dd3) : fNe (.box o .lst (L.map ddD)) (.box o' .lst (L.map ddD)) = some (true, .bl false) := by
  simp [fNe, eqV', eqDeep, toPy, toPyL_dds, sh_dds, PyData.eqv, eqvAll_dds]
theorem at_m1 {α : Type} (xs : List α) (x : α) : atI (xs ++ [x]) (-1) = some x := by
  have e : ixN (xs ++ [x]).length (-1) = some xs.length := by
    unfold ixN
    rw [if_neg (by decide), if_pos (by rw [List.length_append]; simp; omega)]
    rw [List.length_append]
    simp
    omega
  unfold atI
  rw [e, Option.bind_some, List.getElem?_append_right (Nat.le_refl _), Nat.sub_self]
  rfl
/-! one deed is drawn -/
theorem deed_b {n : Nat} {ds : List Dd3} (h : Ok n ds) (h1 : 1 ≤ n) (h9 : n ≤ 9) (hlen : ds.length ≤ 8) (s : S) (sc N o6 o7 o8 o9 : Option D) (B : List D) (hB : B.length ≤ 9) (hw : 1 < (runP n ds).length) :
    ∃ (s' : S) (d : Dd3) (o8' : Option D), 1 ≤ d.1 ∧ d.1 < (runP n ds).length ∧
      p_law_5bt [sc, some s.d, N, some (colsD (runP n ds)), some (.box true .lst (ds.map ddD)), some (.box true .lst B), o6, o7, o8, o9] = .nx [sc, some s'.d, N, some (colsD (runP n (ds ++ [d]))), some (.box true .lst ((ds ++ [d]).map ddD)), some (.box true .lst (B ++ [colsD (runP n (ds ++ [d]))])), o6, o7, o8', o9] := by
  obtain ⟨w, hwv⟩ : ∃ w, w = (runP n ds).length := ⟨_, rfl⟩
  rw [← hwv] at hw ⊢
  have ln := len_colsD (runP n ds)
  rw [← hwv] at ln
  have w9 : w ≤ 9 := by have := runP_le h; omega
  have m0 : (0 : Int) < (w : Int) - 1 := by omega
  have t1 := s.take_nn m0
  have t2 := s.take_lt m0
  have te1 := take_eq s ((w : Int) - 1) m0 (by omega)
  obtain ⟨a, ha⟩ : ∃ a : Nat, 1 + s.take ((w : Int) - 1) = (a : Int) := ⟨(1 + s.take ((w : Int) - 1)).toNat, by omega⟩
  obtain ⟨s1, hs1⟩ : ∃ s1, s1 = s.next ((w : Int) - 1) := ⟨_, rfl⟩
  rw [← hs1] at te1
  have te2 := take_eq s1 3 (by decide) (by decide)
  obtain ⟨s2, hs2⟩ : ∃ s2, s2 = s1.next 3 := ⟨_, rfl⟩
  rw [← hs2] at te2
  have t3 := s2.take_nn (m := 2) (by decide)
  have t4 := s2.take_lt (m := 2) (by decide)
  have te3 := take_eq s2 2 (by decide) (by decide)
  have k0 := mk_side (s2.take 2) t3 t4 (.int 1) (.int ((w : Int) - 1)) rfl rfl
  -- the line
  obtain ⟨line, s2, l1, l2, b01⟩ : ∃ (line : Nat) (s2 : S), 1 ≤ line ∧ line < w ∧
      (dSeq p_law_5bt_0 p_law_5bt_1) [sc, some s.d, N, some (colsD (runP n ds)), some (.box true .lst (ds.map ddD)), some (.box true .lst B), o6, o7, o8, o9] = .nx [sc, some s2.d, N, some (colsD (runP n ds)), some (.box true .lst (ds.map ddD)), some (.box true .lst B), o6, o7, some (.int (line : Int)), o9] := by
    generalize some (D.box true .lst (ds.map ddD)) = O3 at *
    generalize some (D.box true .lst B) = O4 at *
    generalize colsD (runP n ds) = CD at *
    have b0 : p_law_5bt_0 [sc, some s.d, N, some CD, O3, O4, o6, o7, o8, o9] = .nx [sc, some s1.d, N, some CD, O3, O4, o6, o7, some (.int (a : Int)), o9] := by
      simp [p_law_5bt_0, ln, te1, ha]
    by_cases c0 : s1.take 3 = 0
    · by_cases c1 : s2.take 2 = 0
      · rw [if_pos c1] at k0
        refine ⟨1, s2.next 2, by omega, by omega, ?_⟩
        have b1 : p_law_5bt_1 [sc, some s1.d, N, some CD, O3, O4, o6, o7, some (.int (a : Int)), o9] = .nx [sc, some (s2.next 2).d, N, some CD, O3, O4, o6, o7, some (.int 1), o9] := by
          simp [p_law_5bt_1, ln, te2, te3, c0, c1]
        simp only [v_seq, b0, b1]
        rfl
      · rw [if_neg c1] at k0
        have c2 : s2.take 2 = 1 := by omega
        refine ⟨w - 1, s2.next 2, by omega, by omega, ?_⟩
        have b1 : p_law_5bt_1 [sc, some s1.d, N, some CD, O3, O4, o6, o7, some (.int (a : Int)), o9] = .nx [sc, some (s2.next 2).d, N, some CD, O3, O4, o6, o7, some (.int ((w : Int) - 1)), o9] := by
          simp [p_law_5bt_1, ln, te2, te3, c0, c2]
        simp only [v_seq, b0, b1]
        rw [show ((w - 1 : Nat) : Int) = (w : Int) - 1 by omega]
    · refine ⟨a, s2, by omega, by omega, ?_⟩
      have b1 : p_law_5bt_1 [sc, some s1.d, N, some CD, O3, O4, o6, o7, some (.int (a : Int)), o9] = .nx [sc, some s2.d, N, some CD, O3, O4, o6, o7, some (.int (a : Int)), o9] := by
        simp [p_law_5bt_1, te2, c0]
      simp only [v_seq, b0, b1]
  have u1 := s2.take_nn (m := 2) (by decide)
  have u2 := s2.take_lt (m := 2) (by decide)
  have ue := take_eq s2 2 (by decide) (by decide)
  obtain ⟨s3, hs3⟩ : ∃ s3, s3 = s2.next 2 := ⟨_, rfl⟩
  rw [← hs3] at ue
  have v1 := s3.take_nn (m := 2) (by decide)
  have v2 := s3.take_lt (m := 2) (by decide)
  have ve := take_eq s3 2 (by decide) (by decide)
  have k1 := mk_side (s2.take 2) u1 u2 (.str "left") (.str "right") rfl rfl
  have k2 := mk_side (s3.take 2) v1 v2 (.str "up") (.str "down") rfl rfl
  rw [side_is] at k1
  rw [way_is] at k2
  obtain ⟨d, hd⟩ : ∃ d : Dd3, d = (line, decide (s2.take 2 = 0), decide (s3.take 2 = 0)) := ⟨_, rfl⟩
  have de := law_place_eq (runP_sml h h9) d (by rw [hd]; simp only; omega)
  rw [← runP_snoc] at de
  refine ⟨s3.next 2, d, some (.int (line : Int)), by rw [hd]; exact l1, by rw [hd]; exact l2, ?_⟩
  have dm : (ds ++ [d]).map ddD = ds.map ddD ++ [ddD d] := by simp
  have ll : (ds.map ddD).length < 1000000 := by rw [List.length_map]; omega
  have fd := frz_dd d
  have fC := frz_colsD (runP n ds)
  have fE := frz_colsD (runP n (ds ++ [d]))
  have fL := frzL_dds ds
  rw [dm]
  have ed : ddD d = .box false .tup [.int (line : Int), sdS (decide (s2.take 2 = 0)), wyS (decide (s3.take 2 = 0))] := by rw [hd]; rfl
  generalize ds.map ddD = L at *
  generalize colsD (runP n (ds ++ [d])) = CE at *
  generalize colsD (runP n ds) = CD at *
  have fs := frz_sd (decide (s2.take 2 = 0))
  have fw := frz_wy (decide (s3.take 2 = 0))
  generalize sdS (decide (s2.take 2 = 0)) = SD at *
  generalize wyS (decide (s3.take 2 = 0)) = WY at *
  have b2 : p_law_5bt_2 [sc, some s2.d, N, some CD, some (.box true .lst L), some (.box true .lst B), o6, o7, some (.int (line : Int)), o9] = .nx [sc, some (s3.next 2).d, N, some CD, some (.box true .lst (L ++ [ddD d])), some (.box true .lst B), o6, o7, some (.int (line : Int)), o9] := by
    rw [ed]
    simp [p_law_5bt_2, ue, ve, k1, k2, fs, fw, ll]
  generalize ddD d = DD at *
  have lastd := at_m1 L DD
  have b3 : p_law_5bt_3 [sc, some (s3.next 2).d, N, some CD, some (.box true .lst (L ++ [DD])), some (.box true .lst B), o6, o7, some (.int (line : Int)), o9] = .nx [sc, some (s3.next 2).d, N, some CE, some (.box true .lst (L ++ [DD])), some (.box true .lst B), o6, o7, some (.int (line : Int)), o9] := by
    generalize L ++ [DD] = LX at *
    simp [p_law_5bt_3, lastd, de, fC, fd]
  have b4 : p_law_5bt_4 [sc, some (s3.next 2).d, N, some CE, some (.box true .lst (L ++ [DD])), some (.box true .lst B), o6, o7, some (.int (line : Int)), o9] = .nx [sc, some (s3.next 2).d, N, some CE, some (.box true .lst (L ++ [DD])), some (.box true .lst (B ++ [CE])), o6, o7, some (.int (line : Int)), o9] := by
    have lb : B.length < 1000000 := by omega
    simp [p_law_5bt_4, fE, lb]
  simp only [v_seq] at b01
  cases hb : p_law_5bt_0 [sc, some s.d, N, some CD, some (.box true .lst L), some (.box true .lst B), o6, o7, o8, o9] with
  | nx ρ1 =>
    rw [hb] at b01
    simp only at b01
    simp only [p_law_5bt, v_seq, hb, b01, b2, b3, b4]
  | _ => rw [hb] at b01; cases b01
theorem to_g {L : List D} (f : frzL L = true) : fTupOf (.box true .lst L) = some (true, .box false .tup L) := by simp [f]
theorem lo_g1 {L : List D} (f : frzL L = true) : fLstOf (.box false .lst L) = some (true, .box true .lst L) := by simp [f]
theorem lo_g3 {L : List D} (f : frzL L = true) : fLstOf (.box true .lst L) = some (true, .box true .lst L) := by simp [f]
theorem lo_g2 {L : List D} (f : frzL L = true) : fLstOf (.box false .tup L) = some (true, .box true .lst L) := by simp [f]
theorem fr_g1 {L : List D} (f : frzL L = true) : frz (.box false .lst L) = true := by simp [f]
theorem fr_g2 {L : List D} (f : frzL L = true) : frz (.box false .tup L) = true := by simp [f]
theorem ok_nil (n : Nat) : Ok n [] := fun i d h => by simp at h
theorem strip_last (n : Nat) : fIx (colsD (strip (n + 1))) (.int (-1)) = some (true, rowZ [(n : Int)]) := by
  have e : (strip (n + 1)).map rowZ = (strip n).map rowZ ++ [rowZ [(n : Int)]] := by
    rw [← List.map_singleton (f := rowZ), ← List.map_append]
    congr 1
    simp [strip, List.range_succ]
  have q := at_m1 ((strip n).map rowZ) (rowZ [(n : Int)])
  unfold colsD
  rw [e]
  simp only [v_ixT, q, Option.map_some, frz_rowZ]
theorem law_true : ∀ ns : List Int, ns.length ≤ 63 → (∀ z ∈ ns, Builtin.Int.intBits z ≤ 1048576) → F_law [D.fl (ns.map D.int)] = .ok (.bl true) [] := by
  intro ns hl _
  obtain ⟨s0, st0⟩ := start_eq ns hl
  have fs : frzL (ns.map D.int) = true := frzL_ints ns
  have p0 : p_law_0 [some (D.fl (ns.map D.int)), none, none, none, none, none, none, none, none, none] = .nx [some (D.fl (ns.map D.int)), some (S.d s0), none, none, none, none, none, none, none, none] := by
    simp [p_law_0, st0, fs]
  generalize D.fl (ns.map D.int) = sc at *
  have t1 := s0.take_nn (m := 9) (by decide)
  have t2 := s0.take_lt (m := 9) (by decide)
  obtain ⟨n, en⟩ : ∃ n : Nat, 1 + s0.take 9 = (n : Int) := ⟨(1 + s0.take 9).toNat, by omega⟩
  have n1 : 1 ≤ n := by omega
  have n9 : n ≤ 9 := by omega
  have p1 : p_law_1 [some sc, some (S.d s0), none, none, none, none, none, none, none, none] = .nx [some sc, some (S.d (s0.next 9)), some (.int (n : Int)), none, none, none, none, none, none, none] := by
    simp [p_law_1, take_eq, en]
  generalize s0.next 9 = s1 at *
  have rm : okR (n : Int) = true := decide_eq_true (by omega)
  have er2 : ∀ m : Nat, rangeD 0 m = (List.range m).map fun (k : Nat) => D.int (0 + (k : Int)) := fun m => rfl
  have p2 : p_law_2 [some sc, some (S.d s1), some (.int (n : Int)), none, none, none, none, none, none, none] = .nx [some sc, some (S.d s1), some (.int (n : Int)), some (colsD (strip n)), none, none, none, none, none, none] := by
    have q := strip_mirror (it := dRange1 (dCons (dFz 2) dNil)) (j := 9) (ρ := [some sc, some (S.d s1), some (.int (n : Int)), none, none, none, none, none, none, none]) n9 (by
      rw [← er2]
      simp [rm]) (fun x => ⟨_, rfl, rfl, rfl⟩)
    simp only [p_law_2, dAsg, q]
    rfl
  have p3 : p_law_3 [some sc, some (S.d s1), some (.int (n : Int)), some (colsD (strip n)), none, none, none, none, none, none] = .nx [some sc, some (S.d s1), some (.int (n : Int)), some (colsD (strip n)), some (.box true .lst []), none, none, none, none, none] := by simp [p_law_3]
  have p4 : p_law_4 [some sc, some (S.d s1), some (.int (n : Int)), some (colsD (strip n)), some (.box true .lst []), none, none, none, none, none] = .nx [some sc, some (S.d s1), some (.int (n : Int)), some (colsD (strip n)), some (.box true .lst []), some (.box true .lst [colsD (strip n)]), none, none, none, none] := by
    have f := frz_colsD (strip n)
    generalize colsD (strip n) = CS at *
    simp [p_law_4, f]
  have q1 := s1.take_nn (m := 9) (by decide)
  have q2 := s1.take_lt (m := 9) (by decide)
  have qe := take_eq s1 9 (by decide) (by decide)
  obtain ⟨m, em⟩ : ∃ m : Nat, s1.take 9 = (m : Int) := ⟨(s1.take 9).toNat, by omega⟩
  have m8 : m ≤ 8 := by omega
  rw [em] at qe
  generalize s1.next 9 = s2 at *
  let bh : List Dd3 → List D := fun ds => (List.range (ds.length + 1)).map fun (j : Nat) => colsD (runP n (ds.take j))
  have bhl : ∀ ds : List Dd3, (bh ds).length = ds.length + 1 := fun ds => by simp [bh]
  have bhs : ∀ (ds : List Dd3) (d : Dd3), bh (ds ++ [d]) = bh ds ++ [colsD (runP n (ds ++ [d]))] := fun ds d => by
    simp only [bh]
    rw [List.length_append, List.length_singleton, List.range_succ, List.map_append, List.map_singleton]
    congr 1
    · refine List.map_congr_left fun j hj => ?_
      rw [List.mem_range] at hj
      rw [List.take_append_of_le_length (by omega)]
    · rw [List.take_of_length_le (by simp)]
  have bhn : bh [] = [colsD (strip n)] := by simp [bh, runP]
  have bha : ∀ (ds : List Dd3) (j : Nat), j < ds.length + 1 → (bh ds)[j]? = some (colsD (runP n (ds.take j))) := fun ds j hj => by
    simp only [bh]
    rw [List.getElem?_map, List.getElem?_range hj, Option.map_some]
  have bhf : ∀ ds : List Dd3, frzL (bh ds) = true := fun ds => frzL_map (fun j => frz_colsD _) _
  clear_value bh
  obtain ⟨ρ', wl, s3, ds, o6, o8, rfl, ok, l8⟩ := for_all (t := tgN 6) (body := p_law_5b) (fun k : Nat => D.int (0 + (k : Int))) (fun i ρ => ∃ (s : S) (ds : List Dd3) (o6 o8 : Option D), ρ = [some sc, some s.d, some (.int (n : Int)), some (colsD (runP n ds)), some (.box true .lst (ds.map ddD)), some (.box true .lst (bh ds)), o6, none, o8, none] ∧ Ok n ds ∧ ds.length ≤ i)
    (List.range m) 0 [some sc, some s2.d, some (.int (n : Int)), some (colsD (strip n)), some (.box true .lst []), some (.box true .lst [colsD (strip n)]), none, none, none, none] ⟨s2, [], none, none, by rw [bhn]; rfl, ok_nil n, Nat.le_refl _⟩ (fun i k ρ hi hI => by
      obtain ⟨s, ds, o6, o8, rfl, ok, l8⟩ := hI
      rw [Nat.zero_add] at *
      obtain ⟨hi1, _⟩ := List.getElem?_eq_some_iff.mp hi
      rw [List.length_range] at hi1
      have ln := len_colsD (runP n ds)
      have bl := bhl ds
      by_cases hw : 1 < (runP n ds).length
      · obtain ⟨s2, d, o8', d1, d2, q⟩ := deed_b ok n1 n9 (by omega) s (some sc) (some (.int (n : Int))) (some (.int (0 + (k : Int)))) none o8 none (bh ds) (by omega) hw
        have c1 : (1 : Int) < ((runP n ds).length : Int) := by omega
        rw [← bhs] at q
        refine ⟨[some sc, some s.d, some (.int (n : Int)), some (colsD (runP n ds)), some (.box true .lst (ds.map ddD)), some (.box true .lst (bh ds)), some (.int (0 + (k : Int))), none, o8, none], _, rfl, .inl ?_, s2, ds ++ [d], some (.int (0 + (k : Int))), o8', rfl, ok.snoc d1 d2, by rw [List.length_append]; simp; omega⟩
        have tt : dT (bind2 fGt (bind1 fLen (dVar 3)) (dC (.int 1))) [some sc, some s.d, some (.int (n : Int)), some (colsD (runP n ds)), some (.box true .lst (ds.map ddD)), some (.box true .lst (bh ds)), some (.int (0 + (k : Int))), none, o8, none] = .ok true true false [some sc, some s.d, some (.int (n : Int)), some (colsD (runP n ds)), some (.box true .lst (ds.map ddD)), some (.box true .lst (bh ds)), some (.int (0 + (k : Int))), none, o8, none] := by
          generalize some (D.box true .lst (ds.map ddD)) = O3 at *
          generalize some (D.box true .lst (bh ds)) = O4 at *
          generalize colsD (runP n ds) = CD at *
          simp [ln, c1]
        simp only [p_law_5b, dIf, tt, if_true]
        exact q
      · have c1 : ¬ (1 : Int) < ((runP n ds).length : Int) := by omega
        refine ⟨[some sc, some s.d, some (.int (n : Int)), some (colsD (runP n ds)), some (.box true .lst (ds.map ddD)), some (.box true .lst (bh ds)), some (.int (0 + (k : Int))), none, o8, none], [some sc, some s.d, some (.int (n : Int)), some (colsD (runP n ds)), some (.box true .lst (ds.map ddD)), some (.box true .lst (bh ds)), some (.int (0 + (k : Int))), none, o8, none], rfl, .inl ?_, s, ds, some (.int (0 + (k : Int))), o8, rfl, ok, by omega⟩
        generalize some (D.box true .lst (ds.map ddD)) = O3 at *
        generalize some (D.box true .lst (bh ds)) = O4 at *
        generalize colsD (runP n ds) = CD at *
        simp [p_law_5b, ln, c1])
  rw [Nat.zero_add, List.length_range] at l8
  have p5 : p_law_5 [some sc, some s1.d, some (.int (n : Int)), some (colsD (strip n)), some (.box true .lst []), some (.box true .lst [colsD (strip n)]), none, none, none, none] = .nx [some sc, some s3.d, some (.int (n : Int)), some (colsD (runP n ds)), some (.box true .lst (ds.map ddD)), some (.box true .lst (bh ds)), o6, none, o8, none] := by
    have rk : okR (m : Int) = true := decide_eq_true (by omega)
    have it : dRange1 (dCons (dCallL F__law_take 1 (dCons (dC (.int 9)) dNil)) dNil) [some sc, some s1.d, some (.int (n : Int)), some (colsD (strip n)), some (.box true .lst []), some (.box true .lst [colsD (strip n)]), none, none, none, none] = .ok true ((List.range m).map fun (k : Nat) => D.int (0 + (k : Int))) true [some sc, some s2.d, some (.int (n : Int)), some (colsD (strip n)), some (.box true .lst []), some (.box true .lst [colsD (strip n)]), none, none, none, none] := by
      rw [← er2]
      generalize colsD (strip n) = CS at *
      simp [qe, rk]
    simp only [p_law_5, v_dFor, it]
    exact wl
  have dr := frzL_dds ds
  have cR := frz_colsD (runP n ds)
  obtain ⟨ρ'', wl2, s4, o6', o7', rfl⟩ := for_all (t := tgN 6) (body := p_law_6b) (fun k : Nat => D.int (0 + (k : Int))) (fun i ρ => ∃ (s : S) (o6 o7 : Option D), ρ = [some sc, some s.d, some (.int (n : Int)), some (colsD (runP n ds)), some (.box true .lst (ds.map ddD)), some (.box true .lst (bh ds)), o6, o7, o8, none])
    (List.range (ds.length + 1)) 0 [some sc, some s3.d, some (.int (n : Int)), some (colsD (runP n ds)), some (.box true .lst (ds.map ddD)), some (.box true .lst (bh ds)), o6, none, o8, none] ⟨s3, o6, none, rfl⟩ (fun i k ρ hi hI => by
      obtain ⟨s, o6, o7, rfl⟩ := hI
      obtain ⟨hi1, hi2⟩ := List.getElem?_eq_some_iff.mp hi
      rw [List.length_range] at hi1
      rw [List.getElem_range] at hi2
      subst hi2
      have sm := runP_sml (ok.take i) n9
      have si1 := simple_eq (x := .box false .lst ((ds.take i).map ddD)) (.inl ⟨false, rfl⟩) (ok.take i) n1 n9 (by rw [List.length_take]; omega)
      have si2 := simple_eq (x := .box false .tup ((ds.take i).map ddD)) (.inr rfl) (ok.take i) n1 n9 (by rw [List.length_take]; omega)
      have al := alike_cols _ sm
      have fC := frz_colsD (runP n (ds.take i))
      have sl : fSl (.box true .lst (ds.map ddD)) none (some (i : Int)) = some (true, .box true .lst ((ds.take i).map ddD)) := by
        have := cut_lo (ds.map ddD) i (by rw [List.length_map]; omega)
        simp [dr, this, List.map_take]
      have fT : frzL ((ds.take i).map ddD) = true := frzL_dds _
      have gT : fzL ((ds.take i).map ddD) = (ds.take i).map ddD := fzL_frz fT
      have to : fTupOf (.box true .lst ((ds.take i).map ddD)) = some (true, .box false .tup ((ds.take i).map ddD)) := to_g fT
      have lo1 : fLstOf (.box false .lst ((ds.take i).map ddD)) = some (true, .box true .lst ((ds.take i).map ddD)) := lo_g1 fT
      have lo2 : fLstOf (.box false .tup ((ds.take i).map ddD)) = some (true, .box true .lst ((ds.take i).map ddD)) := lo_g2 fT
      have ne := ne_dds true true (ds.take i)
      have ab : fIx (.box true .lst (bh ds)) (.int (i : Int)) = some (true, colsD (runP n (ds.take i))) := by
        have : atI (bh ds) (i : Int) = some (colsD (runP n (ds.take i))) := atI_nat (bha ds i hi1)
        simp [this, fC]
      have tk := take_eq s 2 (by decide) (by decide)
      have six := simple_eq (n := n + 1) (x := .box false .tup []) (.inr rfl) (ok_nil (n + 1)) (by omega)
      have la := strip_last n
      have alr : F__law_alike 6 [rowZ [(n : Int)], rowZ [(n : Int)]] = .ok (.bl true) [] := alike_refl 6 _ rfl
      have e0 : rowZ [(n : Int)] = .box false .tup [.int (n : Int)] := rfl
      have rp : runP (n + 1) [] = strip (n + 1) := rfl
      have fcs := frz_colsD (strip (n + 1))
      have b0 : p_law_6b_0 [some sc, some s.d, some (.int (n : Int)), some (colsD (runP n ds)), some (.box true .lst (ds.map ddD)), some (.box true .lst (bh ds)), some (.int (i : Int)), o7, o8, none] = .nx [some sc, some s.d, some (.int (n : Int)), some (colsD (runP n ds)), some (.box true .lst (ds.map ddD)), some (.box true .lst (bh ds)), some (.int (i : Int)), some (.box true .lst ((ds.take i).map ddD)), o8, none] := by
        generalize D.box true .lst (ds.map ddD) = DL at *
        generalize D.box true .lst ((ds.take i).map ddD) = DT at *
        generalize some (D.box true .lst (bh ds)) = O5 at *
        generalize colsD (runP n ds) = CR at *
        simp [p_law_6b_0, sl]
      obtain ⟨H, hH, b1⟩ : ∃ H, (H = D.box true .lst ((ds.take i).map ddD) ∨ H = D.box false .tup ((ds.take i).map ddD)) ∧ p_law_6b_1 [some sc, some s.d, some (.int (n : Int)), some (colsD (runP n ds)), some (.box true .lst (ds.map ddD)), some (.box true .lst (bh ds)), some (.int (i : Int)), some (.box true .lst ((ds.take i).map ddD)), o8, none] = .nx [some sc, some (s.next 2).d, some (.int (n : Int)), some (colsD (runP n ds)), some (.box true .lst (ds.map ddD)), some (.box true .lst (bh ds)), some (.int (i : Int)), some H, o8, none] := by
        generalize D.box true .lst (ds.map ddD) = DL at *
        generalize some (D.box true .lst (bh ds)) = O5 at *
        generalize colsD (runP n ds) = CR at *
        by_cases c : s.take 2 = 0
        · refine ⟨_, .inr rfl, ?_⟩
          generalize D.box true .lst ((ds.take i).map ddD) = DT at *
          generalize D.box false .tup ((ds.take i).map ddD) = DU at *
          simp [p_law_6b_1, tk, c, sl, to]
        · refine ⟨_, .inl rfl, ?_⟩
          generalize D.box true .lst ((ds.take i).map ddD) = DT at *
          simp [p_law_6b_1, tk, c]
      obtain ⟨H2, b2⟩ : ∃ H2, p_law_6b_2 [some sc, some (s.next 2).d, some (.int (n : Int)), some (colsD (runP n ds)), some (.box true .lst (ds.map ddD)), some (.box true .lst (bh ds)), some (.int (i : Int)), some H, o8, none] = .nx [some sc, some (s.next 2).d, some (.int (n : Int)), some (colsD (runP n ds)), some (.box true .lst (ds.map ddD)), some (.box true .lst (bh ds)), some (.int (i : Int)), some H2, o8, none] := by
        have fzH : fz (D.box true .lst ((ds.take i).map ddD)) = .box false .lst ((ds.take i).map ddD) := by simp only [fz, gT]
        have frH : frz (D.box true .lst ((ds.take i).map ddD)) = false := rfl
        have frU : frz (D.box false .tup ((ds.take i).map ddD)) = true := fr_g2 fT
        have frL : frz (D.box false .lst ((ds.take i).map ddD)) = true := fr_g1 fT
        generalize D.box true .lst (ds.map ddD) = DL at *
        generalize D.box true .lst (bh ds) = BH at *
        generalize colsD (runP n ds) = CR at *
        generalize colsD (runP n (ds.take i)) = CI at *
        generalize D.box true .lst ((ds.take i).map ddD) = DT at *
        generalize D.box false .tup ((ds.take i).map ddD) = DU at *
        generalize D.box false .lst ((ds.take i).map ddD) = DW at *
        rcases hH with rfl | rfl
        · exact ⟨DW, by simp [p_law_6b_2, si1, ab, al, lo1, sl, ne, fzH, frH, frL, fC]⟩
        · exact ⟨H, by simp [p_law_6b_2, si2, ab, al, lo2, sl, ne, frU, fC]⟩
      have b3 : p_law_6b_3 [some sc, some (s.next 2).d, some (.int (n : Int)), some (colsD (runP n ds)), some (.box true .lst (ds.map ddD)), some (.box true .lst (bh ds)), some (.int (i : Int)), some H2, o8, none] = .nx [some sc, some (s.next 2).d, some (.int (n : Int)), some (colsD (runP n ds)), some (.box true .lst (ds.map ddD)), some (.box true .lst (bh ds)), some (.int (i : Int)), some H2, o8, none] := by
        generalize some (D.box true .lst (ds.map ddD)) = DL at *
        generalize some (D.box true .lst (bh ds)) = BH at *
        generalize colsD (runP n ds) = CR at *
        by_cases c : n < 9
        · have c1 : (n : Int) < 9 := by omega
          have sx := six (by omega) (by simp)
          rw [rp, show ((n + 1 : Nat) : Int) = (n : Int) + 1 by omega] at sx
          rw [e0] at la alr
          generalize colsD (strip (n + 1)) = CX at *
          simp [p_law_6b_3, c1, sx, la, alr, fcs]
        · have c1 : ¬ (n : Int) < 9 := by omega
          simp [p_law_6b_3, c1]
      refine ⟨[some sc, some s.d, some (.int (n : Int)), some (colsD (runP n ds)), some (.box true .lst (ds.map ddD)), some (.box true .lst (bh ds)), some (.int (0 + (i : Int))), o7, o8, none], _, rfl, .inl ?_, s.next 2, some (.int (i : Int)), some H2, rfl⟩
      rw [Int.zero_add]
      simp only [p_law_6b, v_seq, b0, b1, b2, b3])
  have p6 : p_law_6 [some sc, some s3.d, some (.int (n : Int)), some (colsD (runP n ds)), some (.box true .lst (ds.map ddD)), some (.box true .lst (bh ds)), o6, none, o8, none] = .nx [some sc, some s4.d, some (.int (n : Int)), some (colsD (runP n ds)), some (.box true .lst (ds.map ddD)), some (.box true .lst (bh ds)), o6', o7', o8, none] := by
    have rk : okR ((ds.length : Int) + 1) = true := decide_eq_true (by omega)
    have bl := bhl ds
    have lb : fLen (.box true .lst (bh ds)) = some (true, .int ((ds.length : Int) + 1)) := by simp [bl]
    have it : dRange1 (dCons (bind1 fLen (dVar 5)) dNil) [some sc, some s3.d, some (.int (n : Int)), some (colsD (runP n ds)), some (.box true .lst (ds.map ddD)), some (.box true .lst (bh ds)), o6, none, o8, none] = .ok true ((List.range (ds.length + 1)).map fun (k : Nat) => D.int (0 + (k : Int))) false [some sc, some s3.d, some (.int (n : Int)), some (colsD (runP n ds)), some (.box true .lst (ds.map ddD)), some (.box true .lst (bh ds)), o6, none, o8, none] := by
      rw [← er2]
      generalize some (D.box true .lst (ds.map ddD)) = DL at *
      generalize D.box true .lst (bh ds) = BH at *
      generalize colsD (runP n ds) = CR at *
      simp [lb, rk]
    simp only [p_law_6, v_dFor, it]
    exact wl2
  have p7 : ∃ ρ, p_law_7 [some sc, some s4.d, some (.int (n : Int)), some (colsD (runP n ds)), some (.box true .lst (ds.map ddD)), some (.box true .lst (bh ds)), o6', o7', o8, none] = .rt (.bl true) ρ := by
    have si := simple_eq (x := .box false .lst (ds.map ddD)) (.inl ⟨false, rfl⟩) ok n1 n9 (by omega)
    have al := alike_cols _ (runP_sml ok n9)
    have fzH : fz (D.box true .lst (ds.map ddD)) = .box false .lst (ds.map ddD) := by simp only [fz, fzL_frz dr]
    have frH : frz (D.box true .lst (ds.map ddD)) = false := rfl
    have frL : frz (D.box false .lst (ds.map ddD)) = true := by simp [dr]
    generalize some (D.box true .lst (bh ds)) = BH at *
    generalize colsD (runP n ds) = CR at *
    generalize D.box true .lst (ds.map ddD) = DL at *
    generalize D.box false .lst (ds.map ddD) = DW at *
    have pm : permL [1, 0] [DW, D.int (n : Int)] = [D.int (n : Int), DW] := rfl
    exact ⟨_, by simp [p_law_7, dPerm, pm, si, al, fzH, frH, frL, cR]; rfl⟩
  obtain ⟨ρ7, p7⟩ := p7
  rw [F_law, m_law_eq]
  simp only [v_run, List.map_cons, List.map_nil, List.length_cons, List.length_nil]
  simp [p_law, p0, p1, p2, p3, p4, p5, p6, p7]
/-! the end -/
def fnL : List He.DefD := [mkD "_law_start" st__law_start, mkD "_law_alike" st__law_alike, mkD "_law_take" st__law_take, mkD "is_int" st_is_int, mkD "check_count" st_check_count, mkD "is_deed" st_is_deed, mkD "check_deeds" st_check_deeds, mkD "flat_strip" st_flat_strip, mkD "panel_of" st_panel_of, mkD "panels_in" st_panels_in, mkD "laid_on" st_laid_on, mkD "turned_over" st_turned_over, mkD "folded" st_folded, mkD "simple" st_simple, mkD "_law_place" st__law_place, mkD "law" st_law]
def faL : List He.Fa := [.glo "_law_start", .glo "_law_alike", .glo "_law_take", .glo "is_int", .glo "check_count", .glo "is_deed", .glo "check_deeds", .glo "flat_strip", .glo "panel_of", .glo "panels_in", .glo "laid_on", .glo "turned_over", .glo "folded", .glo "simple", .glo "_law_place", .glo "law", .glo "BadDeeds", .exc "BadDeeds", .glo "BadNumber", .exc "BadNumber", .free "all", .free "bool", .free "int", .free "isinstance", .free "len", .free "list", .free "max", .free "range", .free "reversed", .free "sorted", .free "str", .free "tuple", .free "zip", .str "DOWN" "down", .str "LEFT" "left", .int "MOST_DEEDS" 8, .int "MOST_PANELS" 9, .str "RIGHT" "right", .str "UP" "up"]
def loo0 : List Str := ["MapError", "BadNumber", "BadDeeds", "is_int", "LEFT", "RIGHT", "UP", "DOWN", "panel_of", "flat_strip", "turned_over", "laid_on", "folded", "panels_in", "check_count", "MOST_PANELS", "MOST_DEEDS", "is_deed", "check_deeds", "simple", "_law_start", "_law_take", "_law_alike", "_law_place"]
def looL : List Str := loo0
def chkL (K : PySem.W.Frag) : Bool := true
def gsL : List Str := ["check_deeds", "flat_strip", "panels_in", "laid_on", "turned_over"]
abbrev hkL : PySem.W.Hook := hookC 6 chkL gsL faL fnL
def obL (s : PySem.W.SharedT) : AlB := obsCG 6 chkL gsL faL fnL (HandSHeadRun.getT s)
abbrev rowL : PySem.W.OpenRow := PySem.Challenge.rw_sheetlines_k38_columns_behind_deeds.row
theorem obL_eq (s : PySem.W.SharedT) : obL s = hkL.obs s.abs := obsCG_eq (HandSHeadRun.getT_eq s)
set_option maxHeartbeats 0 in
theorem runL (w : World) : HandSHeadRun.RunEq rowL (PySem.W.view rowL.prog [30]) hkL obL 4000 looL w := by
  intro os
  kernel_rfl
theorem cutP {α : Type} {ps : List α} {n : Nat} (h : n = ps.length) : ps.length = n := h.symm
theorem factsL {P : Program} {w : World} {K : PySem.W.Frag} {h : Heap} {mg : Str → Option Value} {fa : Addr} (X : K.In h) (G : h.Ns mainGlobals mg) (hfa : mg "law" = some (.ref fa)) (c : He.SaysD faL fnL K) {ps : List (Addr × Addr)} (hl : gsL.length = ps.length) (hc : ∀ (i : Nat) (x : Str) (p : Addr × Addr), gsL[i]? = some x → ps[i]? = some p → codeIs K x p.1 = true) :
    ∃ fd : FuncData, (∀ (s : Shared) (v : Value), BindsTo s fd ⟨[v], []⟩ [("script", v)]) ∧ ∀ base : Heap, K.In base → base.Ns mainGlobals mg → (∀ p ∈ ps, LamX.TabB base mg p.1 p.2) → FnOk P w K mg base (L2.CX P w) 14 fa fd ["script"] (spHoldT K (ps.map (·.2)) 63) := by
  obtain ⟨fd0, F0⟩ := got c 0 (x := "_law_start") (st := st__law_start) rfl
  obtain ⟨fd1, F1⟩ := got c 1 (x := "_law_alike") (st := st__law_alike) rfl
  obtain ⟨fd2, F2⟩ := got c 2 (x := "_law_take") (st := st__law_take) rfl
  obtain ⟨fd3, F3⟩ := got c 3 (x := "is_int") (st := st_is_int) rfl
  obtain ⟨fd4, F4⟩ := got c 4 (x := "check_count") (st := st_check_count) rfl
  obtain ⟨fd5, F5⟩ := got c 5 (x := "is_deed") (st := st_is_deed) rfl
  obtain ⟨fd6, F6⟩ := got c 6 (x := "check_deeds") (st := st_check_deeds) rfl
  obtain ⟨fd7, F7⟩ := got c 7 (x := "flat_strip") (st := st_flat_strip) rfl
  obtain ⟨fd8, F8⟩ := got c 8 (x := "panel_of") (st := st_panel_of) rfl
  obtain ⟨fd9, F9⟩ := got c 9 (x := "panels_in") (st := st_panels_in) rfl
  obtain ⟨fd10, F10⟩ := got c 10 (x := "laid_on") (st := st_laid_on) rfl
  obtain ⟨fd11, F11⟩ := got c 11 (x := "turned_over") (st := st_turned_over) rfl
  obtain ⟨fd12, F12⟩ := got c 12 (x := "folded") (st := st_folded) rfl
  obtain ⟨fd13, F13⟩ := got c 13 (x := "simple") (st := st_simple) rfl
  obtain ⟨fd14, F14⟩ := got c 14 (x := "_law_place") (st := st__law_place) rfl
  obtain ⟨fd15, F15⟩ := got c 15 (x := "law") (st := st_law) rfl
  match ps, hl with
  | [p0, p1, p2, p3, p4], _ =>
  have e := hfa.symm.trans (He.glo_ok X G (c.fact 15 (f := .glo "law") rfl))
  cases e
  let a : Nat → Addr := fun j => He.ga K (((["_law_start", "_law_alike", "_law_take", "is_int", "check_count", "is_deed", "check_deeds", "flat_strip", "panel_of", "panels_in", "laid_on", "turned_over", "folded", "simple", "_law_place", "law", "BadDeeds", "BadNumber"] : List Str) : List Str).getD j "law")
  let fd : Nat → FuncData := fun j => ([fd0, fd1, fd2, fd3, fd4, fd5, fd6, fd7, fd8, fd9, fd10, fd11, fd12, fd13, fd14, fd15] : List FuncData).getD j fd0
  let cd : Nat → Addr := fun q => (([p0, p1, p2, p3, p4] : List (Addr × Addr)).getD q (0, 0)).1
  let tb : Nat → Addr := fun q => (([p0, p1, p2, p3, p4] : List (Addr × Addr)).getD q (0, 0)).2
  have T : ∀ base : Heap, (∀ p ∈ ([p0, p1, p2, p3, p4] : List (Addr × Addr)), LamX.TabB base mg p.1 p.2) → Txt K mg base a fd cd tb := fun base TB => {
    f__law_start := F0.fun,
    g__law_start := He.glo_ok X G (c.fact 0 (f := .glo "_law_start") rfl),
    b__law_start := F0.fun.binds (ps := ["script"]) fun _ _ _ _ _ _ us hl => match us, hl with | [_], _ => rfl,
    f__law_alike := F1.fun,
    g__law_alike := He.glo_ok X G (c.fact 1 (f := .glo "_law_alike") rfl),
    b__law_alike := F1.fun.binds (ps := ["told", "due"]) fun _ _ _ _ _ _ us hl => match us, hl with | [_, _], _ => rfl,
    f__law_take := F2.fun,
    g__law_take := He.glo_ok X G (c.fact 2 (f := .glo "_law_take") rfl),
    b__law_take := F2.fun.binds (ps := ["state", "many"]) fun _ _ _ _ _ _ us hl => match us, hl with | [_, _], _ => rfl,
    f_is_int := F3.fun,
    g_is_int := He.glo_ok X G (c.fact 3 (f := .glo "is_int") rfl),
    b_is_int := F3.fun.binds (ps := ["value"]) fun _ _ _ _ _ _ us hl => match us, hl with | [_], _ => rfl,
    f_check_count := F4.fun,
    g_check_count := He.glo_ok X G (c.fact 4 (f := .glo "check_count") rfl),
    b_check_count := F4.fun.binds (ps := ["value", "least", "most"]) fun _ _ _ _ _ _ us hl => match us, hl with | [_, _, _], _ => rfl,
    f_is_deed := F5.fun,
    g_is_deed := He.glo_ok X G (c.fact 5 (f := .glo "is_deed") rfl),
    b_is_deed := F5.fun.binds (ps := ["value"]) fun _ _ _ _ _ _ us hl => match us, hl with | [_], _ => rfl,
    f_check_deeds := F6.fun,
    g_check_deeds := He.glo_ok X G (c.fact 6 (f := .glo "check_deeds") rfl),
    b_check_deeds := F6.fun.binds (ps := ["value"]) fun _ _ _ _ _ _ us hl => match us, hl with | [_], _ => rfl,
    f_flat_strip := F7.fun,
    g_flat_strip := He.glo_ok X G (c.fact 7 (f := .glo "flat_strip") rfl),
    b_flat_strip := F7.fun.binds (ps := ["n"]) fun _ _ _ _ _ _ us hl => match us, hl with | [_], _ => rfl,
    f_panel_of := F8.fun,
    g_panel_of := He.glo_ok X G (c.fact 8 (f := .glo "panel_of") rfl),
    b_panel_of := F8.fun.binds (ps := ["face"]) fun _ _ _ _ _ _ us hl => match us, hl with | [_], _ => rfl,
    f_panels_in := F9.fun,
    g_panels_in := He.glo_ok X G (c.fact 9 (f := .glo "panels_in") rfl),
    b_panels_in := F9.fun.binds (ps := ["columns"]) fun _ _ _ _ _ _ us hl => match us, hl with | [_], _ => rfl,
    f_laid_on := F10.fun,
    g_laid_on := He.glo_ok X G (c.fact 10 (f := .glo "laid_on") rfl),
    b_laid_on := F10.fun.binds (ps := ["under", "above"]) fun _ _ _ _ _ _ us hl => match us, hl with | [_, _], _ => rfl,
    f_turned_over := F11.fun,
    g_turned_over := He.glo_ok X G (c.fact 11 (f := .glo "turned_over") rfl),
    b_turned_over := F11.fun.binds (ps := ["columns"]) fun _ _ _ _ _ _ us hl => match us, hl with | [_], _ => rfl,
    f_folded := F12.fun,
    g_folded := He.glo_ok X G (c.fact 12 (f := .glo "folded") rfl),
    b_folded := F12.fun.binds (ps := ["columns", "line", "side", "way"]) fun _ _ _ _ _ _ us hl => match us, hl with | [_, _, _, _], _ => rfl,
    f_simple := F13.fun,
    g_simple := He.glo_ok X G (c.fact 13 (f := .glo "simple") rfl),
    b_simple := F13.fun.binds (ps := ["n", "deeds"]) fun _ _ _ _ _ _ us hl => match us, hl with | [_, _], _ => rfl,
    f__law_place := F14.fun,
    g__law_place := He.glo_ok X G (c.fact 14 (f := .glo "_law_place") rfl),
    b__law_place := F14.fun.binds (ps := ["columns", "deed"]) fun _ _ _ _ _ _ us hl => match us, hl with | [_, _], _ => rfl,
    f_law := F15.fun,
    g_law := He.glo_ok X G (c.fact 15 (f := .glo "law") rfl),
    b_law := F15.fun.binds (ps := ["script"]) fun _ _ _ _ _ _ us hl => match us, hl with | [_], _ => rfl,
    cc_check_deeds := codeIs_ok F6 (hc 0 "check_deeds" p0 rfl rfl),
    tb_check_deeds := let z := TB p0 List.mem_cons_self; ⟨z.code, z.bm, z.gP⟩,
    cc_flat_strip := codeIs_ok F7 (hc 1 "flat_strip" p1 rfl rfl),
    tb_flat_strip := let z := TB p1 (List.mem_cons_of_mem _ List.mem_cons_self); ⟨z.code, z.bm, z.gP⟩,
    cc_panels_in := codeIs_ok F9 (hc 2 "panels_in" p2 rfl rfl),
    tb_panels_in := let z := TB p2 (List.mem_cons_of_mem _ (List.mem_cons_of_mem _ List.mem_cons_self)); ⟨z.code, z.bm, z.gP⟩,
    cc_laid_on := codeIs_ok F10 (hc 3 "laid_on" p3 rfl rfl),
    tb_laid_on := let z := TB p3 (List.mem_cons_of_mem _ (List.mem_cons_of_mem _ (List.mem_cons_of_mem _ List.mem_cons_self))); ⟨z.code, z.bm, z.gP⟩,
    cc_turned_over := codeIs_ok F11 (hc 4 "turned_over" p4 rfl rfl),
    tb_turned_over := let z := TB p4 (List.mem_cons_of_mem _ (List.mem_cons_of_mem _ (List.mem_cons_of_mem _ (List.mem_cons_of_mem _ List.mem_cons_self)))); ⟨z.code, z.bm, z.gP⟩,
    e_BadDeeds := exc_ga X G (c.fact 16 (f := .glo "BadDeeds") rfl) (c.fact 17 (f := .exc "BadDeeds") rfl),
    x_BadDeeds := (He.exc_ok (c.fact 17 (f := .exc "BadDeeds") rfl)).1,
    c_BadDeeds := by
      have z : mg "BadDeeds" = some (.ref (He.ga K "BadDeeds")) := He.glo_ok X G (c.fact 16 (f := .glo "BadDeeds") rfl)
      unfold gxT
      simp only [z] <;> rfl,
    e_BadNumber := exc_ga X G (c.fact 18 (f := .glo "BadNumber") rfl) (c.fact 19 (f := .exc "BadNumber") rfl),
    x_BadNumber := (He.exc_ok (c.fact 19 (f := .exc "BadNumber") rfl)).1,
    c_BadNumber := by
      have z : mg "BadNumber" = some (.ref (He.ga K "BadNumber")) := He.glo_ok X G (c.fact 18 (f := .glo "BadNumber") rfl)
      unfold gxT
      simp only [z] <;> rfl,
    n_all := He.free_ok X G (c.fact 20 (f := .free "all") rfl),
    n_bool := He.free_ok X G (c.fact 21 (f := .free "bool") rfl),
    n_int := He.free_ok X G (c.fact 22 (f := .free "int") rfl),
    n_isinstance := He.free_ok X G (c.fact 23 (f := .free "isinstance") rfl),
    n_len := He.free_ok X G (c.fact 24 (f := .free "len") rfl),
    n_list := He.free_ok X G (c.fact 25 (f := .free "list") rfl),
    n_max := He.free_ok X G (c.fact 26 (f := .free "max") rfl),
    n_range := He.free_ok X G (c.fact 27 (f := .free "range") rfl),
    n_reversed := He.free_ok X G (c.fact 28 (f := .free "reversed") rfl),
    n_sorted := He.free_ok X G (c.fact 29 (f := .free "sorted") rfl),
    n_str := He.free_ok X G (c.fact 30 (f := .free "str") rfl),
    n_tuple := He.free_ok X G (c.fact 31 (f := .free "tuple") rfl),
    n_zip := He.free_ok X G (c.fact 32 (f := .free "zip") rfl),
    k_DOWN := He.str_ok X G (c.fact 33 (f := .str "DOWN" "down") rfl),
    k_LEFT := He.str_ok X G (c.fact 34 (f := .str "LEFT" "left") rfl),
    k_MOST_DEEDS := He.int_ok X G (c.fact 35 (f := .int "MOST_DEEDS" 8) rfl),
    k_MOST_PANELS := He.int_ok X G (c.fact 36 (f := .int "MOST_PANELS" 9) rfl),
    k_RIGHT := He.str_ok X G (c.fact 37 (f := .str "RIGHT" "right") rfl),
    k_UP := He.str_ok X G (c.fact 38 (f := .str "UP" "up") rfl) }
  exact ⟨fd15, (fun s v => FunD.bindsA (ps := ["script"]) F15 (fun _ _ _ _ _ _ us hl => match us, hl with | [_], _ => rfl) s [v] rfl), fun base _ _ TB => law_okT (tb := tbs tb) law_true (ok_law (T base TB))⟩
end Lw
open PySem PySem.W PySem.Calls PyProof.Rows
theorem PySem.Challenge.cw_sheetlines_k38_columns_behind_deeds_holds : PySem.Challenge.rw_sheetlines_k38_columns_behind_deeds.Holds := by
  w_on; o_law
  refine HandSHeadRun.head_any (r := Lw.rowL) (q := view Lw.rowL.prog [30]) (H := Lw.hkL) (ob := Lw.obL) (M := 4000) (loose := Lw.looL) (d := HandSHeadRun.topDef Lw.rowL.prog 30) (kwd := []) Lw.obL_eq
    (by kernel_rfl) (fun s => by kernel_rfl) Lw.runL (by kernel_rfl) (by kernel_rfl) (by kernel_rfl) (by rfl) (by first | assumption | decide +kernel) (by decide +kernel) ⟨rfl, rfl, rfl, rfl, rfl, by decide +kernel⟩ ?hw ?hc
  case hw => w_witness2
  case hc =>
    refine Dd.walk_lawT (l := PySem.Challenge.rw_sheetlines_k38_columns_behind_deeds) (m := 63) (lv := 14) rfl (by decide) (by kernel_rfl) ⟨rfl, by decide, by decide⟩ ?F
    intro w mg fa h Y G z0
    obtain ⟨K1, X1, e1⟩ := Y
    obtain ⟨K, ps, KX, ck, c, hl, hT, nT, C, hc⟩ := Dd.saysC X1 e1
    have z : mg ("law" : PySem.Str) = some (.ref fa) := by
      rw [← show (HandSHeadRun.topDef Lw.rowL.prog 30).name = ("law" : PySem.Str) by kernel_rfl]
      exact z0
    obtain ⟨fd, hb, hF⟩ := Lw.factsL (P := (PySem.Challenge.rw_sheetlines_k38_columns_behind_deeds).prog) (w := w) KX G z c hl hc
    exact ⟨K, fd, ps, KX, hT, nT, C, hb, hF⟩
