import PyProof.Rows.All
import Wide.All
import OpenK.AllK
import Wide.FinOn
import HandS.ForMost
import HandS.IsInst
import HandS.TupAny
import HandS.Wide
import HandS.Flow
import HandS.TryOnly
import HandS.Codes
import PyProof.StrOps2
import HandS.Sort
import HandS.SortOrd
import HandS.DeepEq
import HandS.DictComp
import HandS.More
import HandS.Style
import KE.BitLaws
import KE.GoesEnum
import HandS.Replace
import HandS.Small
import HandS.Strs
import HandS.Dict
import HandS.TupMul
import PySem.Challenge.RW_roomtables_k30_calls_of_programs
set_option Elab.async false
set_option linter.all false
set_option autoImplicit false
set_option maxRecDepth 100000
namespace L2.DL
open PySem PySem.Spec PyProof.Rows

/-! ### data without addresses -/
inductive D where
  | non | bl (b : Bool) | int (i : Int) | str (x : Str) | atm (v : V)
  | tup (xs : List D) | lst (xs : List D) | dct (kvs : List (Key × D)) | scr (xs : List D)

mutual
inductive Rp (K : PySem.W.Frag) (F : Hp) : V → D → Prop
  | non : Rp K F .non .non
  | bl (b : Bool) : Rp K F (.bl b) (.bl b)
  | int (i : Int) : Rp K F (.int i) (.int i)
  | str (x : Str) : Rp K F (.str x) (.str x)
  | atm (v : V) : Rp K F v (.atm v)
  | tup {a : Addr} {vs : List V} {ds : List D} : SqT K F a vs → RpA K F vs ds → Rp K F (.ref a) (.tup ds)
  | lst {a : Addr} {vs : List V} {ds : List D} : F a = some (.lst vs) → RpA K F vs ds → Rp K F (.ref a) (.lst ds)
  | scr {a : Addr} {vs : List V} {ds : List D} : SqL K F a vs → RpA K F vs ds → Rp K F (.ref a) (.scr ds)
  | dct {a : Addr} {kvs : List (Key × V)} {ds : List (Key × D)} : F a = some (.dK kvs) → RpK K F kvs ds → Rp K F (.ref a) (.dct ds)
inductive RpA (K : PySem.W.Frag) (F : Hp) : List V → List D → Prop
  | nil : RpA K F [] []
  | cons {v : V} {d : D} {vs : List V} {ds : List D} : Rp K F v d → RpA K F vs ds → RpA K F (v :: vs) (d :: ds)
inductive RpK (K : PySem.W.Frag) (F : Hp) : List (Key × V) → List (Key × D) → Prop
  | nil : RpK K F [] []
  | cons {k : Key} {v : V} {d : D} {vs : List (Key × V)} {ds : List (Key × D)} : Rp K F v d → RpK K F vs ds → RpK K F ((k, v) :: vs) ((k, d) :: ds)
end

section
variable {K : PySem.W.Frag} {F F' H H' : Hp} {v : V} {d : D} {vs : List V} {ds : List D}
theorem same_rd {a : Addr} {u : HO} (s : Same F F') (h : Rd F a u) : Rd F' a u := by
  rcases h with h | ⟨o, h⟩
  · exact .inl (s _ _ h)
  · exact .inr ⟨o, s _ _ h⟩
theorem same_sqT {a : Addr} {xs : List V} (s : Same F F') (h : SqT K F a xs) : SqT K F' a xs := by
  rcases h with h | h
  · exact .inl (same_rd s h)
  · exact .inr h
theorem Rp.mono (s : Same F F') (h : Rp K F v d) : Rp K F' v d :=
  Rp.rec (motive_1 := fun v d _ => Rp K F' v d) (motive_2 := fun vs ds _ => RpA K F' vs ds) (motive_3 := fun vs ds _ => RpK K F' vs ds)
    .non .bl .int .str .atm (fun h _ ih => .tup (same_sqT s h) ih) (fun h _ ih => .lst (s _ _ h) ih) (fun h _ ih => .scr (s.seq h) ih) (fun h _ ih => .dct (s _ _ h) ih)
    .nil (fun _ _ i1 i2 => .cons i1 i2) .nil (fun _ _ i1 i2 => .cons i1 i2) h
theorem RpA.mono (s : Same F F') : ∀ {vs : List V} {ds : List D}, RpA K F vs ds → RpA K F' vs ds
  | _, _, .nil => .nil
  | _, _, .cons h t => .cons (h.mono s) (RpA.mono s t)
theorem RpK.mono (s : Same F F') : ∀ {vs : List (Key × V)} {ds : List (Key × D)}, RpK K F vs ds → RpK K F' vs ds
  | _, _, .nil => .nil
  | _, _, .cons h t => .cons (h.mono s) (RpK.mono s t)
theorem RpA.length : ∀ {vs : List V} {ds : List D}, RpA K F vs ds → vs.length = ds.length
  | _, _, .nil => rfl
  | _, _, .cons _ t => by rw [List.length_cons, List.length_cons, RpA.length t]
theorem RpK.length : ∀ {vs : List (Key × V)} {ds : List (Key × D)}, RpK K F vs ds → vs.length = ds.length
  | _, _, .nil => rfl
  | _, _, .cons _ t => by rw [List.length_cons, List.length_cons, RpK.length t]
theorem RpA.get : ∀ {vs : List V} {ds : List D} {i : Nat} {d : D}, RpA K F vs ds → ds[i]? = some d → ∃ v, vs[i]? = some v ∧ Rp K F v d
  | _, _, _, _, .nil, e => by simp at e
  | _, _, 0, _, .cons h _, e => by simp at e; subst e; exact ⟨_, rfl, h⟩
  | _, _, i + 1, d, .cons _ t, e => by
    obtain ⟨u, h1, h2⟩ := RpA.get (i := i) (d := d) t (by simpa using e)
    exact ⟨u, by simpa using h1, h2⟩
theorem RpA.append : ∀ {vs ws : List V} {ds es : List D}, RpA K F vs ds → RpA K F ws es → RpA K F (vs ++ ws) (ds ++ es)
  | _, _, _, _, .nil, s => s
  | _, _, _, _, .cons r t, s => .cons r (RpA.append t s)
theorem RpA.take : ∀ {vs : List V} {ds : List D} (n : Nat), RpA K F vs ds → RpA K F (vs.take n) (ds.take n)
  | _, _, 0, _ => .nil
  | _, _, _ + 1, .nil => .nil
  | _, _, n + 1, .cons r t => .cons r (RpA.take n t)
theorem RpA.drop : ∀ {vs : List V} {ds : List D} (n : Nat), RpA K F vs ds → RpA K F (vs.drop n) (ds.drop n)
  | _, _, 0, r => r
  | _, _, _ + 1, .nil => .nil
  | _, _, n + 1, .cons _ t => RpA.drop n t
theorem RpA.set (h : Rp K F v d) : ∀ {vs : List V} {ds : List D} (i : Nat), RpA K F vs ds → RpA K F (vs.set i v) (ds.set i d)
  | _, _, _, .nil => .nil
  | _, _, 0, .cons _ t => .cons h t
  | _, _, i + 1, .cons q t => .cons q (RpA.set h i t)
theorem RpA.one (h : Rp K F v d) : RpA K F [v] [d] := .cons h .nil
theorem RpA.ints : ∀ ns : List Int, RpA K F (ns.map V.int) (ns.map D.int)
  | [] => .nil
  | _ :: r => .cons (.int _) (RpA.ints r)
theorem RpA.of_ints : ∀ {ns : List Int} {vs : List V}, RpA K F vs (ns.map D.int) → vs = ns.map V.int
  | [], _, .nil => rfl
  | n :: r, _, .cons h t => by
    cases h
    rw [RpA.of_ints t]; rfl
theorem RpA.of_strs : ∀ {ns : List Str} {vs : List V}, RpA K F vs (ns.map D.str) → vs = ns.map V.str
  | [], _, .nil => rfl
  | n :: r, _, .cons h t => by
    cases h
    rw [RpA.of_strs t]; rfl
theorem RpA.of_bls : ∀ {ns : List Bool} {vs : List V}, RpA K F vs (ns.map D.bl) → vs = ns.map V.bl
  | [], _, .nil => rfl
  | n :: r, _, .cons h t => by
    cases h
    rw [RpA.of_bls t]; rfl
end

/-! ### what a name holds: nothing that we know; data that stays; a list or dict of one's own (fr: made in this call; else the caller's, handed in) -/
inductive OC where
  | lst (xs : List D) | dct (kvs : List (Key × D))
inductive Cell where
  | none | val (d : D) | own (fr : Bool) (c : OC) | opq (fr : Bool) (φ : OC → Prop)
abbrev DEnv := List Cell
@[simp] def Cell.isOwn : Cell → Bool
  | .own _ _ => true
  | .opq _ _ => true
  | _ => false
structure Bd where
  M : Addr → Prop
  H0 : Hp
  F0 : Hp
  par : List V
  P : Hp
def OcOk (K : PySem.W.Frag) (F H : Hp) (a : Addr) : OC → Prop
  | .lst xs => ∃ vs, H a = some (.lst vs) ∧ RpA K F vs xs
  | .dct kvs => ∃ ws, H a = some (.dK ws) ∧ RpK K F ws kvs
def OwnOk (K : PySem.W.Frag) (B : Bd) (F H : Hp) (o : Option (Option V)) (i : Nat) (fr : Bool) (c : OC) : Prop :=
  ∃ a, o = some (some (.ref a)) ∧ OcOk K F H a c ∧ F a = Option.none ∧ B.P a = Option.none ∧ (if fr = true then B.H0 a = Option.none else B.M a ∧ B.par[i]? = some (.ref a))
def CellOk (K : PySem.W.Frag) (B : Bd) (F H : Hp) (o : Option (Option V)) (i : Nat) : Cell → Prop
  | .none => True
  | .val d => ∃ v, o = some (some v) ∧ Rp K F v d
  | .own fr c => OwnOk K B F H o i fr c
  | .opq fr φ => ∃ c, φ c ∧ OwnOk K B F H o i fr c
structure Rep (K : PySem.W.Frag) (B : Bd) (F H : Hp) (σ : St) (env : DEnv) : Prop where
  len : env.length = σ.length
  sub : Same F H
  fix : ∀ b o, B.H0 b = some o → ¬ B.M b → H b = some o
  gro : Same B.F0 F
  new : ∀ b, B.F0 b = Option.none → F b ≠ Option.none → B.H0 b = Option.none
  mf : ∀ b, B.M b → F b = Option.none
  mh : ∀ b, B.M b → H b ≠ Option.none
  m0 : ∀ b, B.M b → B.H0 b ≠ Option.none
  pin : Same B.P H
  mp : ∀ b, B.M b → B.P b = Option.none
  pf : ∀ b o, B.P b = some o → F b = Option.none
  cells : ∀ (i : Nat) (c : Cell), env[i]? = some c → CellOk K B F H σ[i]? i c
  dis : ∀ (i j : Nat) (a : Addr) (c c' : Cell), env[i]? = some c → env[j]? = some c' → c.isOwn = true → c'.isOwn = true → σ[i]? = some (some (.ref a)) → σ[j]? = some (some (.ref a)) → i = j

section
variable {K : PySem.W.Frag} {B : Bd} {F F' H H' : Hp} {σ : St} {env : DEnv} {v : V} {d : D} {i : Nat} {c : Cell} {o : Option (Option V)}
theorem OcOk.mono {a : Addr} {c : OC} (s : Same F F') (e : H' a = H a) (h : OcOk K F H a c) : OcOk K F' H' a c := by
  cases c with
  | lst xs => obtain ⟨vs, h1, h2⟩ := h; exact ⟨vs, by rw [e]; exact h1, h2.mono s⟩
  | dct xs => obtain ⟨vs, h1, h2⟩ := h; exact ⟨vs, by rw [e]; exact h1, h2.mono s⟩
theorem OcOk.there {a : Addr} {c : OC} (h : OcOk K F H a c) : H a ≠ Option.none := by
  cases c with
  | lst xs => obtain ⟨vs, h1, _⟩ := h; rw [h1]; simp
  | dct xs => obtain ⟨vs, h1, _⟩ := h; rw [h1]; simp
theorem OwnOk.mono {fr : Bool} {c : OC} (s : Same F F') (e : ∀ a, o = some (some (.ref a)) → H a ≠ Option.none → F a = Option.none → H' a = H a ∧ F' a = Option.none) (h : OwnOk K B F H o i fr c) : OwnOk K B F' H' o i fr c := by
  obtain ⟨a, h1, h2, h3, h5, h4⟩ := h
  obtain ⟨e1, e2⟩ := e a h1 h2.there h3
  exact ⟨a, h1, h2.mono s e1, e2, h5, h4⟩
theorem CellOk.mono (s : Same F F') (e : c.isOwn = true → ∀ a, o = some (some (.ref a)) → H a ≠ Option.none → F a = Option.none → H' a = H a ∧ F' a = Option.none) (h : CellOk K B F H o i c) : CellOk K B F' H' o i c := by
  cases c with
  | none => trivial
  | val d => obtain ⟨v, h1, h2⟩ := h; exact ⟨v, h1, h2.mono s⟩
  | own fr c => exact OwnOk.mono s (e rfl) h
  | opq fr φ => obtain ⟨c, h1, h2⟩ := h; exact ⟨c, h1, h2.mono s (e rfl)⟩
theorem CellOk.own_addr (h : CellOk K B F H o i c) (w : c.isOwn = true) : ∃ a, o = some (some (.ref a)) ∧ F a = Option.none ∧ H a ≠ Option.none ∧ B.P a = Option.none ∧ (B.H0 a = Option.none ∨ B.M a) := by
  have key : ∀ {fr c}, OwnOk K B F H o i fr c → ∃ a, o = some (some (.ref a)) ∧ F a = Option.none ∧ H a ≠ Option.none ∧ B.P a = Option.none ∧ (B.H0 a = Option.none ∨ B.M a) := by
    rintro fr c ⟨a, h1, h2, h3, h5, h4⟩
    refine ⟨a, h1, h3, h2.there, h5, ?_⟩
    cases fr with
    | true => exact .inl (by simpa using h4)
    | false => exact .inr (by simpa using h4.1)
  cases c with
  | none => cases w
  | val d => cases w
  | own fr c => exact key h
  | opq fr φ => obtain ⟨c, _, h2⟩ := h; exact key h2
/-- new objects: H grows where it was empty, F with it or not -/
theorem Rep.grow (R : Rep K B F H σ env) (sF : Same F F') (sH : Same H H') (sub : Same F' H') (nw : ∀ b, F b = Option.none → F' b ≠ Option.none → H b = Option.none) : Rep K B F' H' σ env where
  len := R.len
  sub := sub
  fix := fun b o e m => sH _ _ (R.fix b o e m)
  gro := R.gro.trans sF
  new := fun b e n => by
    by_cases q : F b = Option.none
    · have h := nw b q n
      cases z : B.H0 b with
      | none => rfl
      | some o =>
        by_cases m : B.M b
        · exact absurd h (R.mh b m)
        · rw [R.fix b o z m] at h; cases h
    · exact R.new b e q
  mf := fun b m => by
    cases z : F' b with
    | none => rfl
    | some o =>
      have h := nw b (R.mf b m) (by rw [z]; simp)
      exact absurd h (R.mh b m)
  mh := fun b m => by
    cases z : H b with
    | none => exact absurd z (R.mh b m)
    | some o => rw [sH _ _ z]; simp
  m0 := R.m0
  pin := R.pin.trans sH
  mp := R.mp
  pf := fun b o e => by
    cases z : F' b with
    | none => rfl
    | some x =>
      have h := nw b (R.pf b o e) (by rw [z]; simp)
      rw [R.pin _ _ e] at h; cases h
  cells := fun i c e => (R.cells i c e).mono sF fun _ a _ n f => by
    constructor
    · cases z : H a with
      | none => exact absurd z n
      | some o => exact sH _ _ z
    · cases z : F' a with
      | none => rfl
      | some o => exact absurd (nw a f (by rw [z]; simp)) n
  dis := R.dis
theorem same_upd {p : Addr} {o : HO} (h : H p = Option.none) : Same H (upd H p o) := fun b x e => by
  rw [upd_ne (ne_of_none e h)]; exact e
theorem Rep.freeF (R : Rep K B F H σ env) {p : Addr} (h : H p = Option.none) : F p = Option.none := R.sub.free h
/-- a new object, kept for good -/
theorem Rep.alloc (R : Rep K B F H σ env) {p : Addr} {o : HO} (h : H p = Option.none) : Rep K B (upd F p o) (upd H p o) σ env := by
  refine R.grow (same_upd (R.freeF h)) (same_upd h) (fun b x e => ?_) (fun b e n => ?_)
  · by_cases q : b = p
    · subst q; rw [upd_same] at e ⊢; exact e
    · rw [upd_ne q] at e ⊢; exact R.sub _ _ e
  · by_cases q : b = p
    · subst q; exact h
    · rw [upd_ne q] at n; exact absurd e n
/-- a new object that is not kept -/
theorem Rep.junk (R : Rep K B F H σ env) {p : Addr} {o : HO} (h : H p = Option.none) : Rep K B F (upd H p o) σ env :=
  R.grow (Same.refl _) (same_upd h) (R.sub.trans (same_upd h)) fun b e n => absurd e n
/-- a name gets data -/
theorem Rep.set (R : Rep K B F H σ env) (h : Rp K F v d) (i : Nat) : Rep K B F H (σ.set i (some v)) (env.set i (.val d)) where
  len := by rw [List.length_set, List.length_set]; exact R.len
  sub := R.sub
  fix := R.fix
  gro := R.gro
  new := R.new
  mf := R.mf
  mh := R.mh
  m0 := R.m0
  pin := R.pin
  mp := R.mp
  pf := R.pf
  cells := fun j c e => by
    by_cases q : i = j
    · subst q
      have hl : i < env.length := by
        have := (List.getElem?_eq_some_iff.mp e).1
        rw [List.length_set] at this; exact this
      rw [List.getElem?_set_self hl] at e
      cases e
      exact ⟨v, by rw [List.getElem?_set_self (by rw [← R.len]; exact hl)], h⟩
    · rw [List.getElem?_set_ne q] at e ⊢
      exact R.cells j c e
  dis := fun j k a c c' e1 e2 w1 w2 s1 s2 => by
    by_cases q : i = j
    · subst q
      have hl : i < env.length := by
        have := (List.getElem?_eq_some_iff.mp e1).1
        rw [List.length_set] at this; exact this
      rw [List.getElem?_set_self hl] at e1
      cases e1; cases w1
    · by_cases q' : i = k
      · subst q'
        have hl : i < env.length := by
          have := (List.getElem?_eq_some_iff.mp e2).1
          rw [List.length_set] at this; exact this
        rw [List.getElem?_set_self hl] at e2
        cases e2; cases w2
      · rw [List.getElem?_set_ne q] at e1 s1
        rw [List.getElem?_set_ne q'] at e2 s2
        exact R.dis j k a c c' e1 e2 w1 w2 s1 s2
/-- cells forgotten -/
theorem Rep.weak {env' : DEnv} (R : Rep K B F H σ env) (hl : env'.length = env.length) (h : ∀ (i : Nat) (c : Cell), env'[i]? = some c → env[i]? = some c ∨ c = .none) : Rep K B F H σ env' where
  len := hl.trans R.len
  sub := R.sub
  fix := R.fix
  gro := R.gro
  new := R.new
  mf := R.mf
  mh := R.mh
  m0 := R.m0
  pin := R.pin
  mp := R.mp
  pf := R.pf
  cells := fun i c e => by
    rcases h i c e with q | q
    · exact R.cells i c q
    · subst q; trivial
  dis := fun j k a c c' e1 e2 w1 w2 s1 s2 => by
    rcases h j c e1 with q | q
    · rcases h k c' e2 with q' | q'
      · exact R.dis j k a c c' q q' w1 w2 s1 s2
      · subst q'; cases w2
    · subst q; cases w1
end
end L2.DL

namespace L2.DL
open PySem PySem.Spec PyProof.Rows

abbrev DK := D → DEnv → Prop
abbrev TD := DEnv → DK → Prop
abbrev TDT := DEnv → (Bool → DEnv → Prop) → Prop
abbrev TDA := DEnv → (List D → DEnv → Prop) → Prop

/-- an expression as a transformer of names' contents -/
structure DE (X : Cx) (B : Bd) (e : Expr) (t : TD) : Prop where
  ex : ∃ te, PE X e te ∧ ∀ (F H : Hp) (σ : St) (env : DEnv) (Q : DK) (Q' : VK), Rep X.K B F H σ env → t env Q →
    (∀ d env' v F' H', Q d env' → Same F F' → Rep X.K B F' H' σ env' → Rp X.K F' v d → Q' v H') → te σ H Q'
structure DT (X : Cx) (B : Bd) (e : Expr) (t : TDT) : Prop where
  ex : ∃ te, PT X e te ∧ ∀ (F H : Hp) (σ : St) (env : DEnv) (Q : Bool → DEnv → Prop) (Q' : Bool → Hp → Prop), Rep X.K B F H σ env → t env Q →
    (∀ b env' F' H', Q b env' → Same F F' → Rep X.K B F' H' σ env' → Q' b H') → te σ H Q'
structure DW (X : Cx) (B : Bd) (e : Expr) (t : TDT) : Prop where
  ex : ∃ te, PW X e te ∧ ∀ (F H : Hp) (σ : St) (env : DEnv) (Q : Bool → DEnv → Prop) (Q' : Bool → Hp → Prop), Rep X.K B F H σ env → t env Q →
    (∀ b env' F' H', Q b env' → Same F F' → Rep X.K B F' H' σ env' → Q' b H') → te σ H Q'
structure DA (X : Cx) (B : Bd) (es : List Expr) (t : TDA) : Prop where
  ex : ∃ te, PA X es te ∧ ∀ (F H : Hp) (σ : St) (env : DEnv) (Q : List D → DEnv → Prop) (Q' : List V → Hp → Prop), Rep X.K B F H σ env → t env Q →
    (∀ ds env' vs F' H', Q ds env' → Same F F' → Rep X.K B F' H' σ env' → RpA X.K F' vs ds → Q' vs H') → te σ H Q'

/-- a step of an operation: nothing, or one new object -/
def Stp (F H F' H' : Hp) : Prop := (F' = F ∧ H' = H) ∨ ∃ p o, H p = none ∧ F' = upd F p o ∧ H' = upd H p o
section
variable {K : PySem.W.Frag} {B : Bd} {F F' H H' : Hp} {σ : St} {env : DEnv}
theorem Stp.same (R : Same F H) (s : Stp F H F' H') : Same F F' := by
  rcases s with ⟨rfl, _⟩ | ⟨p, o, n, rfl, _⟩
  · exact Same.refl _
  · exact same_upd (R.free n)
theorem Rep.stp (R : Rep K B F H σ env) (s : Stp F H F' H') : Rep K B F' H' σ env := by
  rcases s with ⟨rfl, rfl⟩ | ⟨p, o, n, rfl, rfl⟩
  · exact R
  · exact R.alloc n
theorem Stp.nil : Stp F H F H := .inl ⟨rfl, rfl⟩
theorem Stp.new {p : Addr} {o : HO} (n : H p = none) : Stp F H (upd F p o) (upd H p o) := .inr ⟨p, o, n, rfl, rfl⟩
end
/-- an operation by values -/
abbrev S2 := D → D → (D → Prop) → Prop
abbrev S1 := D → (D → Prop) → Prop
abbrev SN := List D → (D → Prop) → Prop
def DOp (X : Cx) (f : Value → Value → Sem Value) (s : S2) : Prop :=
  ∃ r, OpR X f r ∧ ∀ (F H : Hp) (x y : V) (d e : D) (Q : D → Prop) (Q' : VK), Same F H → Rp X.K F x d → Rp X.K F y e → s d e Q →
    (∀ d' v F' H', Q d' → Stp F H F' H' → Rp X.K F' v d' → Q' v H') → r x y H Q'
def DIx (X : Cx) (s : S2) : Prop :=
  ∃ r, IxR X r ∧ ∀ (F H : Hp) (x y : V) (d e : D) (Q : D → Prop) (Q' : VK), Same F H → Rp X.K F x d → Rp X.K F y e → s d e Q →
    (∀ d' v F' H', Q d' → Stp F H F' H' → Rp X.K F' v d' → Q' v H') → r x y H Q'
def DUn (X : Cx) (f : Value → Sem Value) (s : S1) : Prop :=
  ∃ r, UnR X f r ∧ ∀ (F H : Hp) (x : V) (d : D) (Q : D → Prop) (Q' : VK), Same F H → Rp X.K F x d → s d Q →
    (∀ d' v F' H', Q d' → Stp F H F' H' → Rp X.K F' v d' → Q' v H') → r x H Q'
def DCl (X : Cx) (f : Value) (s : SN) : Prop :=
  ∃ r, CallR X f r ∧ ∀ (F H : Hp) (xs : List V) (ds : List D) (Q : D → Prop) (Q' : VK), Same F H → RpA X.K F xs ds → s ds Q →
    (∀ d' v F' H', Q d' → Stp F H F' H' → Rp X.K F' v d' → Q' v H') → r xs H Q'

section
variable {X : Cx} {B : Bd} {e a b c : Expr} {ta tb tc : TD} {pos : Pos}

/-! ### names and constants -/
@[simp] def qVar (i : Nat) : TD := fun env Q => match env[i]? with
  | some (.val d) => Q d env
  | _ => False
theorem de_var {i : Nat} {x : Str} (h : PE X (.Name x pos) (tVar i)) : DE X B (.Name x pos) (qVar i) := by
  refine ⟨_, h, fun F H σ env Q Q' R ht k => ?_⟩
  unfold qVar at ht
  cases z : env[i]? with
  | none => rw [z] at ht; exact ht.elim
  | some c =>
    rw [z] at ht
    cases c with
    | val d =>
      obtain ⟨v, e1, e2⟩ := R.cells i _ z
      exact ⟨v, e1, k d env v F H ht (Same.refl _) R e2⟩
    | none => exact ht.elim
    | own _ _ => exact ht.elim
    | opq _ _ => exact ht.elim
/-- a name of the def -/
theorem dv (i : Nat) {x : Str} (hN : X.N[i]? = some x := by rfl) (hv : Vis X.env.scope x := by first | exact Or.inl rfl | exact Or.inr (Or.inl rfl) | exact Or.inr (Or.inr rfl)) (hd : (x == ("__debug__" : Str)) = false := by decide)
    (hcd : (x == ("__classdict__" : Str)) = false := by decide) : DE X B (.Name x pos) (qVar i) := de_var (pe_var hN hv hd hcd)
@[simp] def qC (d : D) : TD := fun env Q => Q d env
theorem de_tC {v : V} {d : D} (h : PE X e (tC v)) (r : ∀ F, Rp X.K F v d) : DE X B e (qC d) :=
  ⟨_, h, fun F H σ env Q Q' R ht k => k d env v F H ht (Same.refl _) R (r F)⟩
theorem de_int {i : Int} {j : Nat} : DE X B (.Constant (.int i) j pos) (qC (.int i)) := de_tC pe_int fun _ => .int i
theorem de_bl {b : Bool} {j : Nat} : DE X B (.Constant (.bool b) j pos) (qC (.bl b)) := de_tC pe_bl fun _ => .bl b
theorem de_non {j : Nat} : DE X B (.Constant .none j pos) (qC .non) := de_tC pe_non fun _ => .non
theorem de_str {x : Str} {j : Nat} : DE X B (.Constant (.str x) j pos) (qC (.str x)) := de_tC pe_str fun _ => .str x
/-- a module's constant -/
theorem de_glob {x : Str} {v : V} {u : Value} {d : D} (hg : Gl X x) (hm : X.mg x = some u) (r : RelV v u) (h : ∀ F, Rp X.K F v d) (hd : (x == ("__debug__" : Str)) = false := by decide) : DE X B (.Name x pos) (qC d) :=
  de_tC (pe_glob hg hm r hd) h

/-! ### operators -/
@[simp] def qOp (s : S2) (ta tb : TD) : TD := fun env Q => ta env fun d env1 => tb env1 fun e env2 => s d e fun r => Q r env2
@[simp] def qUn (s : S1) (ta : TD) : TD := fun env Q => ta env fun d env1 => s d fun r => Q r env1
theorem op_run {f : Value → Value → Sem Value} {s : S2} {te1 te2 : TE} {r : R2} (hr : ∀ (F H : Hp) (x y : V) (d e : D) (Q : D → Prop) (Q' : VK), Same F H → Rp X.K F x d → Rp X.K F y e → s d e Q →
      (∀ d' v F' H', Q d' → Stp F H F' H' → Rp X.K F' v d' → Q' v H') → r x y H Q')
    (h1 : ∀ (F H : Hp) (σ : St) (env : DEnv) (Q : DK) (Q' : VK), Rep X.K B F H σ env → ta env Q → (∀ d env' v F' H', Q d env' → Same F F' → Rep X.K B F' H' σ env' → Rp X.K F' v d → Q' v H') → te1 σ H Q')
    (h2 : ∀ (F H : Hp) (σ : St) (env : DEnv) (Q : DK) (Q' : VK), Rep X.K B F H σ env → tb env Q → (∀ d env' v F' H', Q d env' → Same F F' → Rep X.K B F' H' σ env' → Rp X.K F' v d → Q' v H') → te2 σ H Q') :
    ∀ (F H : Hp) (σ : St) (env : DEnv) (Q : DK) (Q' : VK), Rep X.K B F H σ env → qOp s ta tb env Q → (∀ d env' v F' H', Q d env' → Same F F' → Rep X.K B F' H' σ env' → Rp X.K F' v d → Q' v H') → tOp r te1 te2 σ H Q' := by
  intro F H σ env Q Q' R ht k
  refine h1 F H σ env _ _ R ht fun d env1 x F1 H1 q1 s1 R1 r1 => ?_
  refine h2 F1 H1 σ env1 _ _ R1 q1 fun d2 env2 y F2 H2 q2 s2 R2 r2 => ?_
  refine hr F2 H2 x y d d2 _ _ R2.sub (r1.mono s2) r2 q2 fun d' v F3 H3 q3 s3 r3 => ?_
  exact k d' env2 v F3 H3 q3 ((s1.trans s2).trans (s3.same R2.sub)) (R2.stp s3) r3
theorem de_op {op : Operator} {s : S2} (ho : DOp X (binaryOp op) s) (ha : DE X B a ta) (hb : DE X B b tb) : DE X B (.BinOp a op b pos) (qOp s ta tb) := by
  obtain ⟨r, h, hr⟩ := ho
  obtain ⟨te1, p1, h1⟩ := ha.ex
  obtain ⟨te2, p2, h2⟩ := hb.ex
  exact ⟨_, pe_op h p1 p2, op_run (f := binaryOp op) hr h1 h2⟩
theorem de_cmp {op : CmpOp} {s : S2} (ho : DOp X (compareOp op) s) (ha : DE X B a ta) (hb : DE X B b tb) (hm : behindInMarks op b = false) : DE X B (.Compare a [op] [b] pos) (qOp s ta tb) := by
  obtain ⟨r, h, hr⟩ := ho
  obtain ⟨te1, p1, h1⟩ := ha.ex
  obtain ⟨te2, p2, h2⟩ := hb.ex
  exact ⟨_, pe_cmpR h p1 p2 hm, op_run (f := compareOp op) hr h1 h2⟩
/-- a value that must be a truth -/
@[simp] def qTest (t : TD) : TDT := fun env Q => t env fun d env1 => match d with
  | .bl k => Q k env1
  | _ => False
theorem dt_cmp {op : CmpOp} {s : S2} (ho : DOp X (compareOp op) s) (ha : DE X B a ta) (hb : DE X B b tb) (hm : behindInMarks op b = false) : DT X B (.Compare a [op] [b] pos) (qTest (qOp s ta tb)) := by
  obtain ⟨r, h, hr⟩ := ho
  obtain ⟨te1, p1, h1⟩ := ha.ex
  obtain ⟨te2, p2, h2⟩ := hb.ex
  refine ⟨_, pt_cmpR h p1 p2 hm, fun F H σ env Q Q' R ht k => ?_⟩
  refine op_run (f := compareOp op) hr h1 h2 F H σ env _ _ R ht fun d env' v F' H' q s' R' r' => ?_
  cases d with
  | bl b => cases r' with
    | bl _ => exact ⟨b, rfl, k b env' F' H' q s' R'⟩
  | _ => exact q.elim
theorem dt_val {t : TD} (h : DE X B e t) (he : ∀ whole, isTrue e X.env whole = (do let v ← whole; standAt e.pos; holding [v] (truthy v)) := by intro _; rfl) : DT X B e (qTest t) := by
  obtain ⟨te, p, h⟩ := h.ex
  refine ⟨_, pt_val p he, fun F H σ env Q Q' R ht k => ?_⟩
  refine h F H σ env _ _ R ht fun d env' v F' H' q s' R' r' => ?_
  cases d with
  | bl b => cases r' with
    | bl _ => exact ⟨b, rfl, k b env' F' H' q s' R'⟩
  | _ => exact q.elim
theorem de_un {op : UnaryOp} {s : S1} (ho : DUn X (unaryOp op) s) (ha : DE X B a ta) : DE X B (.UnaryOp op a pos) (qUn s ta) := by
  obtain ⟨r, h, hr⟩ := ho
  obtain ⟨te1, p1, h1⟩ := ha.ex
  refine ⟨_, pe_un h p1, fun F H σ env Q Q' R ht k => ?_⟩
  refine h1 F H σ env _ _ R ht fun d env1 x F1 H1 q1 s1 R1 r1 => ?_
  refine hr F1 H1 x d _ _ R1.sub r1 q1 fun d' v F3 H3 q3 s3 r3 => ?_
  exact k d' env1 v F3 H3 q3 (s1.trans (s3.same R1.sub)) (R1.stp s3) r3
theorem de_ix {s : S2} (ho : DIx X s) (ha : DE X B a ta) (hb : DE X B b tb) (hs : PlainIx b := by exact fun _ _ => rfl) : DE X B (.Subscript a b pos) (qOp s ta tb) := by
  obtain ⟨r, h, hr⟩ := ho
  obtain ⟨te1, p1, h1⟩ := ha.ex
  obtain ⟨te2, p2, h2⟩ := hb.ex
  exact ⟨_, pe_ix h p1 p2 hs, op_run (f := fun a _ => pure a) hr h1 h2⟩
/-- a < b < c -/
@[simp] def qChain (s s' : S2) (ta tb tc : TD) : TD := fun env Q => ta env fun d env1 => tb env1 fun e env2 => s d e fun r => match r with
  | .bl true => tc env2 fun f env3 => s' e f fun r' => Q r' env3
  | .bl false => Q (.bl false) env2
  | _ => False
theorem chain_run {s s' : S2} {te1 te2 te3 : TE} {r r' : R2} (hr : ∀ (F H : Hp) (x y : V) (d e : D) (Q : D → Prop) (Q' : VK), Same F H → Rp X.K F x d → Rp X.K F y e → s d e Q →
      (∀ d' v F' H', Q d' → Stp F H F' H' → Rp X.K F' v d' → Q' v H') → r x y H Q')
    (hr' : ∀ (F H : Hp) (x y : V) (d e : D) (Q : D → Prop) (Q' : VK), Same F H → Rp X.K F x d → Rp X.K F y e → s' d e Q →
      (∀ d' v F' H', Q d' → Stp F H F' H' → Rp X.K F' v d' → Q' v H') → r' x y H Q')
    (h1 : ∀ (F H : Hp) (σ : St) (env : DEnv) (Q : DK) (Q' : VK), Rep X.K B F H σ env → ta env Q → (∀ d env' v F' H', Q d env' → Same F F' → Rep X.K B F' H' σ env' → Rp X.K F' v d → Q' v H') → te1 σ H Q')
    (h2 : ∀ (F H : Hp) (σ : St) (env : DEnv) (Q : DK) (Q' : VK), Rep X.K B F H σ env → tb env Q → (∀ d env' v F' H', Q d env' → Same F F' → Rep X.K B F' H' σ env' → Rp X.K F' v d → Q' v H') → te2 σ H Q')
    (h3 : ∀ (F H : Hp) (σ : St) (env : DEnv) (Q : DK) (Q' : VK), Rep X.K B F H σ env → tc env Q → (∀ d env' v F' H', Q d env' → Same F F' → Rep X.K B F' H' σ env' → Rp X.K F' v d → Q' v H') → te3 σ H Q') :
    ∀ (F H : Hp) (σ : St) (env : DEnv) (Q : DK) (Q' : VK), Rep X.K B F H σ env → qChain s s' ta tb tc env Q → (∀ d env' v F' H', Q d env' → Same F F' → Rep X.K B F' H' σ env' → Rp X.K F' v d → Q' v H') → tChain r r' te1 te2 te3 σ H Q' := by
  intro F H σ env Q Q' R ht k
  refine h1 F H σ env _ _ R ht fun d env1 x F1 H1 q1 s1 R1 r1 => ?_
  refine h2 F1 H1 σ env1 _ _ R1 q1 fun d2 env2 y F2 H2 q2 s2 R2 r2 => ?_
  refine hr F2 H2 x y d d2 _ _ R2.sub (r1.mono s2) r2 q2 fun d' v F3 H3 q3 s3 r3 => ?_
  have R3 := R2.stp s3
  have ss := s3.same R2.sub
  cases d' with
  | bl b => cases r3 with
    | bl _ =>
      cases b with
      | true =>
        refine ⟨true, rfl, iteT ?_⟩
        refine h3 F3 H3 σ env2 _ _ R3 q3 fun d4 env4 z F4 H4 q4 s4 R4 r4 => ?_
        refine hr' F4 H4 y z d2 d4 _ _ R4.sub (r2.mono (ss.trans s4)) r4 q4 fun d' v F5 H5 q5 s5 r5 => ?_
        exact k d' env4 v F5 H5 q5 ((((s1.trans s2).trans ss).trans s4).trans (s5.same R4.sub)) (R4.stp s5) r5
      | false => exact ⟨false, rfl, iteF (k _ env2 _ F3 H3 q3 ((s1.trans s2).trans ss) R3 (.bl false))⟩
  | _ => exact q3.elim
theorem de_chain {op op' : CmpOp} {s s' : S2} (ho : DOp X (compareOp op) s) (ho' : DOp X (compareOp op') s') (ha : DE X B a ta) (hb : DE X B b tb) (hc : DE X B c tc) (hm : lastMarks [op, op'] [b, c] = false := by with_unfolding_all rfl) :
    DE X B (.Compare a [op, op'] [b, c] pos) (qChain s s' ta tb tc) := by
  obtain ⟨r, h, hr⟩ := ho
  obtain ⟨r', h', hr'⟩ := ho'
  obtain ⟨te1, p1, h1⟩ := ha.ex
  obtain ⟨te2, p2, h2⟩ := hb.ex
  obtain ⟨te3, p3, h3⟩ := hc.ex
  exact ⟨_, pe_chain h h' p1 p2 p3 hm, chain_run hr hr' h1 h2 h3⟩
theorem dt_chain {op op' : CmpOp} {s s' : S2} (ho : DOp X (compareOp op) s) (ho' : DOp X (compareOp op') s') (ha : DE X B a ta) (hb : DE X B b tb) (hc : DE X B c tc) (hm : lastMarks [op, op'] [b, c] = false := by with_unfolding_all rfl) :
    DT X B (.Compare a [op, op'] [b, c] pos) (qTest (qChain s s' ta tb tc)) := by
  obtain ⟨r, h, hr⟩ := ho
  obtain ⟨r', h', hr'⟩ := ho'
  obtain ⟨te1, p1, h1⟩ := ha.ex
  obtain ⟨te2, p2, h2⟩ := hb.ex
  obtain ⟨te3, p3, h3⟩ := hc.ex
  refine ⟨_, pt_chain h h' p1 p2 p3 hm, fun F H σ env Q Q' R ht k => ?_⟩
  refine chain_run hr hr' h1 h2 h3 F H σ env _ _ R ht fun d env' v F' H' q s' R' r' => ?_
  cases d with
  | bl b => cases r' with
    | bl _ => exact ⟨b, rfl, k b env' F' H' q s' R'⟩
  | _ => exact q.elim

/-! ### and, or, not, if -/
@[simp] def qAnd (t u : TDT) : TDT := fun env Q => t env fun c env1 => match c with
  | true => u env1 Q
  | false => Q false env1
@[simp] def qOr (t u : TDT) : TDT := fun env Q => t env fun c env1 => match c with
  | true => Q true env1
  | false => u env1 Q
@[simp] def qNot (t : TDT) : TDT := fun env Q => t env fun c env1 => Q (!c) env1
variable {tA tB : TDT} {rest : List Expr}
theorem dw_and1 (ha : DT X B a tA) : DW X B (.BoolOp .And [a] pos) tA := by
  obtain ⟨te, p, h⟩ := ha.ex
  exact ⟨_, pw_and1 p, h⟩
theorem dw_or1 (ha : DT X B a tA) : DW X B (.BoolOp .Or [a] pos) tA := by
  obtain ⟨te, p, h⟩ := ha.ex
  exact ⟨_, pw_or1 p, h⟩
theorem dw_and (ha : DT X B a tA) (hb : DW X B (.BoolOp .And (b :: rest) pos) tB) : DW X B (.BoolOp .And (a :: b :: rest) pos) (qAnd tA tB) := by
  obtain ⟨te, p, h⟩ := ha.ex
  obtain ⟨te2, p2, h2⟩ := hb.ex
  refine ⟨_, pw_and p p2, fun F H σ env Q Q' R ht k => ?_⟩
  refine h F H σ env _ _ R ht fun c env1 F1 H1 q1 s1 R1 => ?_
  cases c with
  | true => exact iteT (h2 F1 H1 σ env1 _ _ R1 q1 fun c env2 F2 H2 q2 s2 R2 => k c env2 F2 H2 q2 (s1.trans s2) R2)
  | false => exact iteF (k _ env1 F1 H1 q1 s1 R1)
theorem dw_or (ha : DT X B a tA) (hb : DW X B (.BoolOp .Or (b :: rest) pos) tB) : DW X B (.BoolOp .Or (a :: b :: rest) pos) (qOr tA tB) := by
  obtain ⟨te, p, h⟩ := ha.ex
  obtain ⟨te2, p2, h2⟩ := hb.ex
  refine ⟨_, pw_or p p2, fun F H σ env Q Q' R ht k => ?_⟩
  refine h F H σ env _ _ R ht fun c env1 F1 H1 q1 s1 R1 => ?_
  cases c with
  | false => exact iteF (h2 F1 H1 σ env1 _ _ R1 q1 fun c env2 F2 H2 q2 s2 R2 => k c env2 F2 H2 q2 (s1.trans s2) R2)
  | true => exact iteT (k _ env1 F1 H1 q1 s1 R1)
theorem DW.dt {t : TDT} (h : DW X B e t) : DT X B e t := by
  obtain ⟨te, p, h⟩ := h.ex
  exact ⟨_, p.pt, h⟩
theorem dt_not (ha : DT X B a tA) : DT X B (.UnaryOp .Not a pos) (qNot tA) := by
  obtain ⟨te, p, h⟩ := ha.ex
  refine ⟨_, pt_not p, fun F H σ env Q Q' R ht k => ?_⟩
  exact h F H σ env _ _ R ht fun c env1 F1 H1 q1 s1 R1 => k _ env1 F1 H1 q1 s1 R1
/-- .. as values -/
@[simp] def qAndV (ta tb : TD) : TD := fun env Q => ta env fun d env1 => match d with
  | .bl true => tb env1 Q
  | .bl false => Q (.bl false) env1
  | _ => False
@[simp] def qOrV (ta tb : TD) : TD := fun env Q => ta env fun d env1 => match d with
  | .bl false => tb env1 Q
  | .bl true => Q (.bl true) env1
  | _ => False
@[simp] def qNotV (ta : TD) : TD := fun env Q => ta env fun d env1 => match d with
  | .bl k => Q (.bl (!k)) env1
  | _ => False
theorem de_one {op : BoolOp} {t : TD} (h : DE X B a t) : DE X B (.BoolOp op [a] pos) t := by
  obtain ⟨te, p, h⟩ := h.ex
  exact ⟨_, pe_one p, h⟩
theorem de_and (ha : DE X B a ta) (hb : DE X B (.BoolOp .And (b :: rest) pos) tb) : DE X B (.BoolOp .And (a :: b :: rest) pos) (qAndV ta tb) := by
  obtain ⟨te, p, h⟩ := ha.ex
  obtain ⟨te2, p2, h2⟩ := hb.ex
  refine ⟨_, pe_and p p2, fun F H σ env Q Q' R ht k => ?_⟩
  refine h F H σ env _ _ R ht fun d env1 v F1 H1 q1 s1 R1 r1 => ?_
  cases d with
  | bl c => cases r1 with
    | bl _ => cases c with
      | true => exact ⟨true, rfl, iteT (h2 F1 H1 σ env1 _ _ R1 q1 fun c env2 v F2 H2 q2 s2 R2 r2 => k c env2 v F2 H2 q2 (s1.trans s2) R2 r2)⟩
      | false => exact ⟨false, rfl, iteF (k _ env1 _ F1 H1 q1 s1 R1 (.bl false))⟩
  | _ => exact q1.elim
theorem de_or (ha : DE X B a ta) (hb : DE X B (.BoolOp .Or (b :: rest) pos) tb) : DE X B (.BoolOp .Or (a :: b :: rest) pos) (qOrV ta tb) := by
  obtain ⟨te, p, h⟩ := ha.ex
  obtain ⟨te2, p2, h2⟩ := hb.ex
  refine ⟨_, pe_or p p2, fun F H σ env Q Q' R ht k => ?_⟩
  refine h F H σ env _ _ R ht fun d env1 v F1 H1 q1 s1 R1 r1 => ?_
  cases d with
  | bl c => cases r1 with
    | bl _ => cases c with
      | false => exact ⟨false, rfl, iteF (h2 F1 H1 σ env1 _ _ R1 q1 fun c env2 v F2 H2 q2 s2 R2 r2 => k c env2 v F2 H2 q2 (s1.trans s2) R2 r2)⟩
      | true => exact ⟨true, rfl, iteT (k _ env1 _ F1 H1 q1 s1 R1 (.bl true))⟩
  | _ => exact q1.elim
theorem de_not (ha : DE X B a ta) : DE X B (.UnaryOp .Not a pos) (qNotV ta) := by
  obtain ⟨te, p, h⟩ := ha.ex
  refine ⟨_, pe_not p, fun F H σ env Q Q' R ht k => ?_⟩
  refine h F H σ env _ _ R ht fun d env1 v F1 H1 q1 s1 R1 r1 => ?_
  cases d with
  | bl c => cases r1 with
    | bl _ => exact ⟨c, rfl, k _ env1 _ F1 H1 q1 s1 R1 (.bl _)⟩
  | _ => exact q1.elim
@[simp] def qIf (t : TDT) (ta tb : TD) : TD := fun env Q => t env fun c env1 => match c with
  | true => ta env1 Q
  | false => tb env1 Q
theorem de_if {c : Expr} (hc : DT X B c tA) (ha : DE X B a ta) (hb : DE X B b tb) : DE X B (.IfExp c a b pos) (qIf tA ta tb) := by
  obtain ⟨tc, p, h⟩ := hc.ex
  obtain ⟨te1, p1, h1⟩ := ha.ex
  obtain ⟨te2, p2, h2⟩ := hb.ex
  refine ⟨_, pe_ifExp p p1 p2, fun F H σ env Q Q' R ht k => ?_⟩
  refine h F H σ env _ _ R ht fun c env1 F1 H1 q1 s1 R1 => ?_
  cases c with
  | true => exact iteT (h1 F1 H1 σ env1 _ _ R1 q1 fun c env2 v F2 H2 q2 s2 R2 r2 => k c env2 v F2 H2 q2 (s1.trans s2) R2 r2)
  | false => exact iteF (h2 F1 H1 σ env1 _ _ R1 q1 fun c env2 v F2 H2 q2 s2 R2 r2 => k c env2 v F2 H2 q2 (s1.trans s2) R2 r2)

/-! ### argument lists, tuples, lists, calls of built-ins -/
variable {es : List Expr} {tr : TDA}
@[simp] def qNil : TDA := fun env Q => Q [] env
@[simp] def qCons (ta : TD) (tr : TDA) : TDA := fun env Q => ta env fun d env1 => tr env1 fun ds env2 => Q (d :: ds) env2
theorem da_nil : DA X B [] qNil := ⟨_, pa_nil, fun F H σ env Q Q' R ht k => k [] env [] F H ht (Same.refl _) R .nil⟩
theorem da_cons (ha : DE X B e ta) (hr : DA X B es tr) (hs : starEach (e :: es) X.env = (false, eval e X.env) :: starEach es X.env := by rfl) : DA X B (e :: es) (qCons ta tr) := by
  obtain ⟨te, p, h⟩ := ha.ex
  obtain ⟨te2, p2, h2⟩ := hr.ex
  refine ⟨_, pa_cons p p2 hs, fun F H σ env Q Q' R ht k => ?_⟩
  refine h F H σ env _ _ R ht fun d env1 v F1 H1 q1 s1 R1 r1 => ?_
  refine h2 F1 H1 σ env1 _ _ R1 q1 fun ds env2 vs F2 H2 q2 s2 R2 r2 => ?_
  exact k _ env2 _ F2 H2 q2 (s1.trans s2) R2 (.cons (r1.mono s2) r2)
@[simp] def qTup (tr : TDA) : TD := fun env Q => tr env fun ds env1 => ds.length ≤ sizeLine ∧ Q (.tup ds) env1
@[simp] def qLst (tr : TDA) : TD := fun env Q => tr env fun ds env1 => ds.length ≤ sizeLine ∧ Q (.lst ds) env1
theorem de_tup {k : Nat} (h : DA X B es tr) : DE X B (.Tuple es k pos) (qTup tr) := by
  obtain ⟨te, p, h⟩ := h.ex
  refine ⟨_, pe_tup p, fun F H σ env Q Q' R ht k => ?_⟩
  refine h F H σ env _ _ R ht fun ds env1 vs F1 H1 q1 s1 R1 r1 => ?_
  refine ⟨by rw [r1.length]; exact q1.1, fun p hp => ?_⟩
  have sF : Same F1 (upd F1 p (.tup vs)) := same_upd (R1.freeF hp)
  exact k _ env1 _ _ _ q1.2 (s1.trans sF) (R1.alloc hp) (.tup (.of upd_same) (r1.mono sF))
theorem de_lst (h : DA X B es tr) : DE X B (.List es pos) (qLst tr) := by
  obtain ⟨te, p, h⟩ := h.ex
  refine ⟨_, pe_lst p, fun F H σ env Q Q' R ht k => ?_⟩
  refine h F H σ env _ _ R ht fun ds env1 vs F1 H1 q1 s1 R1 r1 => ?_
  refine ⟨by rw [r1.length]; exact q1.1, fun p hp => ?_⟩
  have sF : Same F1 (upd F1 p (.lst vs)) := same_upd (R1.freeF hp)
  exact k _ env1 _ _ _ q1.2 (s1.trans sF) (R1.alloc hp) (.lst upd_same (r1.mono sF))
@[simp] def qCl (s : SN) (tr : TDA) : TD := fun env Q => tr env fun ds env1 => s ds fun r => Q r env1
theorem cl_run {s : SN} {te : TA} {r : List V → Hp → VK → Prop} (hr : ∀ (F H : Hp) (xs : List V) (ds : List D) (Q : D → Prop) (Q' : VK), Same F H → RpA X.K F xs ds → s ds Q →
      (∀ d' v F' H', Q d' → Stp F H F' H' → Rp X.K F' v d' → Q' v H') → r xs H Q')
    (h : ∀ (F H : Hp) (σ : St) (env : DEnv) (Q : List D → DEnv → Prop) (Q' : List V → Hp → Prop), Rep X.K B F H σ env → tr env Q →
      (∀ ds env' vs F' H', Q ds env' → Same F F' → Rep X.K B F' H' σ env' → RpA X.K F' vs ds → Q' vs H') → te σ H Q') :
    ∀ (F H : Hp) (σ : St) (env : DEnv) (Q : DK) (Q' : VK), Rep X.K B F H σ env → qCl s tr env Q → (∀ d env' v F' H', Q d env' → Same F F' → Rep X.K B F' H' σ env' → Rp X.K F' v d → Q' v H') → tCB r te σ H Q' := by
  intro F H σ env Q Q' R ht k
  refine h F H σ env _ _ R ht fun ds env1 vs F1 H1 q1 s1 R1 r1 => ?_
  refine hr F1 H1 vs ds _ _ R1.sub r1 q1 fun d' v F3 H3 q3 s3 r3 => ?_
  exact k d' env1 v F3 H3 q3 (s1.trans (s3.same R1.sub)) (R1.stp s3) r3
theorem de_callB {x : Str} {p : Pos} {id : String} {s : SN} (hc : DCl X (.builtin id) s) (hg : Gl X x) (hm : X.mg x = none) (hv : bootBuiltins x = some (.builtin id)) (ha : DA X B (e :: es) tr) (hn : x ≠ "__name__" := by decide) (hdb : (x == ("__debug__" : Str)) = false := by decide)
    (he : starEach (e :: es) X.env = (false, eval e X.env) :: starEach es X.env := by rfl) (hpl : (backTo pos (starEach es X.env)).any (·.1) = false := by rfl) : DE X B (.Call (.Name x p) (e :: es) [] pos) (qCl s tr) := by
  obtain ⟨r, h, hr⟩ := hc
  obtain ⟨te, q, h1⟩ := ha.ex
  exact ⟨_, pe_callB h hg hm hv q hn hdb he hpl, cl_run hr h1⟩
theorem de_callTy {x : Str} {p : Pos} {T : String} {s : SN} (hc : DCl X (.type T) s) (hg : Gl X x) (hm : X.mg x = none) (hv : bootBuiltins x = some (.type T)) (ha : DA X B (e :: es) tr) (hn : x ≠ "__name__" := by decide) (hdb : (x == ("__debug__" : Str)) = false := by decide)
    (he : starEach (e :: es) X.env = (false, eval e X.env) :: starEach es X.env := by rfl) (hpl : (backTo pos (starEach es X.env)).any (·.1) = false := by rfl) : DE X B (.Call (.Name x p) (e :: es) [] pos) (qCl s tr) := by
  obtain ⟨r, h, hr⟩ := hc
  obtain ⟨te, q, h1⟩ := ha.ex
  exact ⟨_, pe_callTy h hg hm hv q hn hdb he hpl, cl_run hr h1⟩
/-! ### slices -/
abbrev TDO := DEnv → (Option Int → DEnv → Prop) → Prop
structure DO (X : Cx) (B : Bd) (e : Option Expr) (t : TDO) : Prop where
  ex : ∃ te, PO X e te ∧ ∀ (F H : Hp) (σ : St) (env : DEnv) (Q : Option Int → DEnv → Prop) (Q' : Option Int → Hp → Prop), Rep X.K B F H σ env → t env Q →
    (∀ o env' F' H', Q o env' → Same F F' → Rep X.K B F' H' σ env' → Q' o H') → te σ H Q'
@[simp] def qNoPart : TDO := fun env Q => Q none env
@[simp] def qPart (t : TD) : TDO := fun env Q => t env fun d env1 => match d with
  | .int i => Q (some i) env1
  | _ => False
theorem do_none : DO X B none qNoPart := ⟨_, po_none, fun F H σ env Q Q' R ht k => k none env F H ht (Same.refl _) R⟩
theorem do_some {t : TD} (h : DE X B e t) : DO X B (some e) (qPart t) := by
  obtain ⟨te, p, h⟩ := h.ex
  refine ⟨_, po_some p, fun F H σ env Q Q' R ht k => ?_⟩
  refine h F H σ env _ _ R ht fun d env' v F' H' q s' R' r' => ?_
  cases d with
  | int i => cases r' with
    | int _ => exact ⟨i, rfl, k _ env' F' H' q s' R'⟩
  | _ => exact q.elim
abbrev S3 := D → Option Int → Option Int → (D → Prop) → Prop
def DSl (X : Cx) (s : S3) : Prop :=
  ∃ r, SlR X r ∧ ∀ (F H : Hp) (x : V) (d : D) (lo hi : Option Int) (Q : D → Prop) (Q' : VK), Same F H → Rp X.K F x d → s d lo hi Q →
    (∀ d' v F' H', Q d' → Stp F H F' H' → Rp X.K F' v d' → Q' v H') → r x lo hi H Q'
@[simp] def qSl (s : S3) (t : TD) (tl th : TDO) : TD := fun env Q => t env fun d env1 => tl env1 fun lo env2 => th env2 fun hi env3 => s d lo hi fun r => Q r env3
theorem de_slice {s : S3} {lo hi : Option Expr} {tl th : TDO} {p2 : Pos} {t : TD} (hs : DSl X s) (he : DE X B e t) (hl : DO X B lo tl) (hh : DO X B hi th) : DE X B (.Subscript e (.Slice lo hi none p2) pos) (qSl s t tl th) := by
  obtain ⟨r, h, hr⟩ := hs
  obtain ⟨te, q, h1⟩ := he.ex
  obtain ⟨tel, ql, h2⟩ := hl.ex
  obtain ⟨teh, qh, h3⟩ := hh.ex
  refine ⟨_, pe_slice h q ql qh, fun F H σ env Q Q' R ht k => ?_⟩
  refine h1 F H σ env _ _ R ht fun d env1 v F1 H1 q1 s1 R1 r1 => ?_
  refine h2 F1 H1 σ env1 _ _ R1 q1 fun lo env2 F2 H2 q2 s2 R2 => ?_
  refine h3 F2 H2 σ env2 _ _ R2 q2 fun hi env3 F3 H3 q3 s3 R3 => ?_
  refine hr F3 H3 v d lo hi _ _ R3.sub (r1.mono (s2.trans s3)) q3 fun d' v F4 H4 q4 s4 r4 => ?_
  exact k d' env3 v F4 H4 q4 (((s1.trans s2).trans s3).trans (s4.same R3.sub)) (R3.stp s4) r4
end
end L2.DL

namespace L2.DL
open PySem PySem.Spec PyProof.Rows

/-! ### statements -/
structure DEnds where
  nx : DEnv → Prop
  rt : D → DEnv → Prop
  bk : DEnv → Prop := fun _ => False
  ct : DEnv → Prop := fun _ => False
  ro : OC → DEnv → Prop := fun _ _ => False
abbrev TDS := DEnds → DEnv → Prop
def Apart (p : Addr) (σ : St) (env : DEnv) : Prop := ∀ (i : Nat) (c : Cell), env[i]? = some c → c.isOwn = true → σ[i]? ≠ some (some (.ref p))
structure Lk (K : PySem.W.Frag) (B : Bd) (F : Hp) (DD : DEnds) (DH : Ends) : Prop where
  nx : ∀ (env' : DEnv) (σ' : St) (F' H' : Hp), DD.nx env' → Same F F' → Rep K B F' H' σ' env' → DH.nx σ' H'
  rt : ∀ (d : D) (env' : DEnv) (v : V) (σ' : St) (F' H' : Hp), DD.rt d env' → Same F F' → Rep K B F' H' σ' env' → Rp K F' v d → DH.rt v H'
  bk : ∀ (env' : DEnv) (σ' : St) (F' H' : Hp), DD.bk env' → Same F F' → Rep K B F' H' σ' env' → DH.bk σ' H'
  ct : ∀ (env' : DEnv) (σ' : St) (F' H' : Hp), DD.ct env' → Same F F' → Rep K B F' H' σ' env' → DH.ct σ' H'
  ro : ∀ (c : OC) (env' : DEnv) (p : Addr) (σ' : St) (F' H' : Hp), DD.ro c env' → Same F F' → Rep K B F' H' σ' env' → OcOk K F' H' p c → F' p = none → B.H0 p = none → B.P p = none → Apart p σ' env' → DH.rt (.ref p) H'
theorem Lk.mono {K : PySem.W.Frag} {B : Bd} {F F1 : Hp} {DD : DEnds} {DH : Ends} (l : Lk K B F DD DH) (s : Same F F1) : Lk K B F1 DD DH :=
  ⟨fun a b c d e f g => l.nx a b c d e (s.trans f) g, fun a b c d e f g h i j => l.rt a b c d e f g (s.trans h) i j, fun a b c d e f g => l.bk a b c d e (s.trans f) g, fun a b c d e f g => l.ct a b c d e (s.trans f) g, fun a b c d e f g h i => l.ro a b c d e f g (s.trans h) i⟩
structure DS (X : Cx) (B : Bd) (st : Stmt) (t : TDS) : Prop where
  ex : ∃ ts, PS X st ts ∧ ∀ (F H : Hp) (σ : St) (env : DEnv) (DD : DEnds) (DH : Ends), Rep X.K B F H σ env → t DD env → Lk X.K B F DD DH → ts DH σ H
structure DSs (X : Cx) (B : Bd) (st : List Stmt) (t : TDS) : Prop where
  ex : ∃ ts, PSs X st ts ∧ ∀ (F H : Hp) (σ : St) (env : DEnv) (DD : DEnds) (DH : Ends), Rep X.K B F H σ env → t DD env → Lk X.K B F DD DH → ts DH σ H
/-- targets; vs: the names stored -/
abbrev TDG := D → DEnv → (DEnv → Prop) → Prop
abbrev TDGs := List D → DEnv → (DEnv → Prop) → Prop
def Chg (vs : List Nat) (σ σ' : St) : Prop := σ'.length = σ.length ∧ ∀ i, i ∉ vs → σ'[i]? = σ[i]?
theorem Chg.refl {vs : List Nat} {σ : St} : Chg vs σ σ := ⟨rfl, fun _ _ => rfl⟩
theorem Chg.trans {vs : List Nat} {a b c : St} (h : Chg vs a b) (k : Chg vs b c) : Chg vs a c := ⟨k.1.trans h.1, fun i n => (k.2 i n).trans (h.2 i n)⟩
structure DG (X : Cx) (B : Bd) (tg : Expr) (vs : List Nat) (t : TDG) : Prop where
  ex : ∃ g, PG X tg g ∧ ∀ (F H : Hp) (σ : St) (env : DEnv) (d : D) (v : V) (Q : DEnv → Prop) (Q' : St → Hp → Prop), Rep X.K B F H σ env → Rp X.K F v d → t d env Q →
    (∀ env' σ', Q env' → Chg vs σ σ' → Rep X.K B F H σ' env' → Q' σ' H) → g v σ H Q'
structure DGs (X : Cx) (B : Bd) (tgs : List Expr) (vs : List Nat) (t : TDGs) : Prop where
  ex : ∃ g, PGs X tgs g ∧ ∀ (F H : Hp) (σ : St) (env : DEnv) (ds : List D) (us : List V) (Q : DEnv → Prop) (Q' : St → Hp → Prop), Rep X.K B F H σ env → RpA X.K F us ds → t ds env Q →
    (∀ env' σ', Q env' → Chg vs σ σ' → Rep X.K B F H σ' env' → Q' σ' H) → g us σ H Q'

section
variable {X : Cx} {B : Bd} {e a b c : Expr} {ta tb tc te : TD} {pos : Pos} {st : Stmt} {rest sts : List Stmt} {t u : TDS}
@[simp] def sNext : TDS := fun DD env => DD.nx env
@[simp] def sSeq (t u : TDS) : TDS := fun DD env => t { DD with nx := u DD } env
theorem dss_nil : DSs X B [] sNext := ⟨_, pss_nil, fun F H σ env DD DH R ht l => l.nx env σ F H ht (Same.refl _) R⟩
theorem dss_cons (h1 : DS X B st t) (h2 : DSs X B rest u) : DSs X B (st :: rest) (sSeq t u) := by
  obtain ⟨ts, p1, h1⟩ := h1.ex
  obtain ⟨us, p2, h2⟩ := h2.ex
  refine ⟨_, pss_cons p1 p2, fun F H σ env DD DH R ht l => ?_⟩
  refine h1 F H σ env _ _ R ht ⟨fun env' σ' F' H' q s R' => ?_, l.rt, l.bk, l.ct, l.ro⟩
  exact h2 F' H' σ' env' _ _ R' q (l.mono s)
theorem dss_one (h1 : DS X B st t) : DSs X B [st] t := by
  obtain ⟨ts, p1, h1⟩ := h1.ex
  exact ⟨_, pss_one p1, h1⟩
theorem ds_pass : DS X B (.Pass pos) sNext := ⟨_, ps_pass, fun F H σ env DD DH R ht l => l.nx env σ F H ht (Same.refl _) R⟩
@[simp] def sBreak : TDS := fun DD env => DD.bk env
@[simp] def sCont : TDS := fun DD env => DD.ct env
theorem ds_break : DS X B (.Break pos) sBreak := ⟨_, ps_break, fun F H σ env DD DH R ht l => l.bk env σ F H ht (Same.refl _) R⟩
theorem ds_continue : DS X B (.Continue pos) sCont := ⟨_, ps_continue, fun F H σ env DD DH R ht l => l.ct env σ F H ht (Same.refl _) R⟩
theorem ds_doc {x : Str} {j : Nat} {pos' : Pos} : DS X B (.Expr (.Constant (.str x) j pos) pos') sNext := ⟨_, ps_doc, fun F H σ env DD DH R ht l => l.nx env σ F H ht (Same.refl _) R⟩
@[simp] def sDrop (te : TD) : TDS := fun DD env => te env fun _ env1 => DD.nx env1
theorem ds_expr (he : DE X B e te) (hs : swapsWith e none pos.line X.env = pure false := by rfl) : DS X B (.Expr e pos) (sDrop te) := by
  obtain ⟨ts, p, h⟩ := he.ex
  refine ⟨_, ps_expr p hs, fun F H σ env DD DH R ht l => ?_⟩
  exact h F H σ env _ _ R ht fun d env' v F' H' q s R' _ => l.nx env' σ F' H' q s R'
@[simp] def sRet (te : TD) : TDS := fun DD env => te env DD.rt
theorem ds_ret (he : DE X B e te) : DS X B (.Return (some e) pos) (sRet te) := by
  obtain ⟨ts, p, h⟩ := he.ex
  refine ⟨_, ps_ret p, fun F H σ env DD DH R ht l => ?_⟩
  exact h F H σ env _ _ R ht fun d env' v F' H' q s R' r => l.rt d env' v σ F' H' q s R' r
@[simp] def sRetN : TDS := fun DD env => DD.rt .non env
theorem ds_retN : DS X B (.Return none pos) sRetN := ⟨_, ps_retN, fun F H σ env DD DH R ht l => l.rt .non env .non σ F H ht (Same.refl _) R .non⟩
@[simp] def sIf (c : TDT) (t u : TDS) : TDS := fun DD env => c env fun b env1 => match b with
  | true => t DD env1
  | false => u DD env1
theorem ds_if {c : Expr} {a b : List Stmt} {tc : TDT} (hc : DT X B c tc) (ha : DSs X B a t) (hb : DSs X B b u) : DS X B (.If c a b pos) (sIf tc t u) := by
  obtain ⟨tcs, p, h⟩ := hc.ex
  obtain ⟨ts, p1, h1⟩ := ha.ex
  obtain ⟨us, p2, h2⟩ := hb.ex
  refine ⟨_, ps_if p p1 p2, fun F H σ env DD DH R ht l => ?_⟩
  refine h F H σ env _ _ R ht fun b env' F' H' q s R' => ?_
  cases b with
  | true => exact iteT (h1 F' H' σ env' _ _ R' q (l.mono s))
  | false => exact iteF (h2 F' H' σ env' _ _ R' q (l.mono s))
@[simp] def sNever : TDS := fun _ _ => False
theorem ds_never : DS X B st sNever := ⟨_, ps_never, fun _ _ _ _ _ _ _ h _ => h.elim⟩
theorem dss_never : DSs X B sts sNever := ⟨_, pss_never, fun _ _ _ _ _ _ _ h _ => h.elim⟩

/-- a name's content is put, the row of names read at once -/
def setC : Nat → Cell → DEnv → (DEnv → Prop) → Prop
  | _, _, [], Q => Q []
  | 0, c, _ :: r, Q => Q (c :: r)
  | i + 1, c, a :: r, Q => setC i c r fun r' => Q (a :: r')
theorem setC_of : ∀ {i : Nat} {c : Cell} {env : DEnv} {Q : DEnv → Prop}, setC i c env Q → Q (env.set i c)
  | i, _, [], _, h => by cases i <;> exact h
  | 0, _, _ :: _, _, h => h
  | i + 1, c, a :: r, Q, h => setC_of (i := i) (c := c) (env := r) (Q := fun r' => Q (a :: r')) h
/-! ### targets -/
@[simp] def gN (i : Nat) : TDG := fun d env Q => setC i (.val d) env Q
theorem dg_name {i : Nat} {x : Str} (hN : X.N.Nodup) (hi : X.N[i]? = some x := by rfl) (hx : Loc X.env.scope x := by first | exact Or.inl rfl | exact Or.inr rfl) (hf : X.fn x = true ∨ X.env.scope.names.lookup x = some .local := by first | exact .inl rfl | exact .inr rfl | assumption) : DG X B (.Name x pos) [i] (gN i) := by
  refine ⟨_, pg_name (i := i) hN hi hx hf, fun F H σ env d v Q Q' R r ht k => ?_⟩
  refine k (env.set i (.val d)) (σ.set i (some v)) (setC_of ht) ⟨List.length_set, fun j n => ?_⟩ (R.set r i)
  exact List.getElem?_set_ne (fun e => n (by simp [e]))
@[simp] def gNilD : TDGs := fun ds env Q => ds = [] ∧ Q env
@[simp] def gConsD (t : TDG) (u : TDGs) : TDGs := fun ds env Q => match ds with
  | d :: r => t d env fun env1 => u r env1 Q
  | [] => False
theorem dgs_nil : DGs X B [] [] gNilD := by
  refine ⟨_, pgs_nil, fun F H σ env ds us Q Q' R r ht k => ?_⟩
  obtain ⟨rfl, ht⟩ := ht
  cases r
  exact ⟨rfl, k env σ ht .refl R⟩
theorem Chg.app {vs ws : List Nat} {σ σ1 σ2 : St} (h : Chg vs σ σ1) (k : Chg ws σ1 σ2) : Chg (vs ++ ws) σ σ2 :=
  ⟨k.1.trans h.1, fun i n => by
    rw [List.mem_append, not_or] at n
    exact (k.2 i n.2).trans (h.2 i n.1)⟩
theorem dgs_cons {es : List Expr} {vs ws : List Nat} {t : TDG} {u : TDGs} (h1 : DG X B e vs t) (h2 : DGs X B es ws u)
    (hs : (assignEach (e :: es) X.env).map (·.2) = assign e X.env :: (assignEach es X.env).map (·.2) := by rfl) : DGs X B (e :: es) (vs ++ ws) (gConsD t u) := by
  obtain ⟨g, p, h⟩ := h1.ex
  obtain ⟨g2, p2, h2⟩ := h2.ex
  refine ⟨_, pgs_cons p p2 hs, fun F H σ env ds us Q Q' R r ht k => ?_⟩
  cases r with
  | nil => exact ht.elim
  | cons r rr =>
    refine ⟨_, _, rfl, ?_⟩
    refine h F H σ env _ _ _ _ R r ht fun env1 σ1 q1 c1 R1 => ?_
    exact h2 F H σ1 env1 _ _ _ _ R1 rr q1 fun env2 σ2 q2 c2 R2 => k env2 σ2 q2 (c1.app c2) R2
@[simp] def gTupD (n : Nat) (t : TDGs) : TDG := fun d env Q => match d with
  | .tup ds => ds.length = n ∧ t ds env Q
  | _ => False
theorem dg_tup {es : List Expr} {k : Nat} {t : TDGs} {n : Nat} {vs : List Nat} (hc : X.calm = true) (h : DGs X B es vs t)
    (hn : (assignEach es X.env).length = n := by rfl) (hst : (assignEach es X.env).findIdx? (·.1) = none := by rfl) : DG X B (.Tuple es k pos) vs (gTupD n t) := by
  obtain ⟨g, p, h⟩ := h.ex
  refine ⟨_, pg_tup hc p hn hst, fun F H σ env d v Q Q' R r ht kk => ?_⟩
  cases r with
  | tup q ra => exact ⟨_, _, rfl, same_sqT R.sub q, ra.length.trans ht.1, h F H σ env _ _ _ _ R ra ht.2 kk⟩
  | _ => exact ht.elim
@[simp] def sAsg (te : TD) (g : TDG) : TDS := fun DD env => te env fun d env1 => g d env1 DD.nx
theorem ds_asg {tg : Expr} {g : TDG} {vs : List Nat} (he : DE X B e te) (hg : DG X B tg vs g) (hs : swapsWithSole [tg] e pos.line X.env = pure false := by rfl) (hw : swappedStores [tg] e X.env = pure none := by rfl)
    (h1 : (assignEach [tg] X.env).map (·.2) = [assign tg X.env] := by rfl) : DS X B (.Assign [tg] e pos) (sAsg te g) := by
  obtain ⟨ts, p, h⟩ := he.ex
  obtain ⟨gs, p2, h2⟩ := hg.ex
  refine ⟨_, ps_asg p p2 hs hw h1, fun F H σ env DD DH R ht l => ?_⟩
  refine h F H σ env _ _ R ht fun d env1 v F1 H1 q s1 R1 r1 => ?_
  exact h2 F1 H1 σ env1 d v _ _ R1 r1 q fun env2 σ2 q2 _ R2 => l.nx env2 σ2 F1 H1 q2 s1 R2
theorem ds_set {i : Nat} {x : Str} {pos' : Pos} (hN : X.N.Nodup) (he : DE X B e te) (hi : X.N[i]? = some x := by rfl) (hx : Loc X.env.scope x := by first | exact Or.inl rfl | exact Or.inr rfl) (hs : swapsWith e (some (.Name x pos')) pos.line X.env = pure false := by rfl) (hf : X.fn x = true ∨ X.env.scope.names.lookup x = some .local := by first | exact .inl rfl | exact .inr rfl | assumption) :
    DS X B (.Assign [.Name x pos'] e pos) (sAsg te (gN i)) := by
  obtain ⟨ts, p, h⟩ := he.ex
  refine ⟨_, ps_set (i := i) hN hi hx p hs hf, fun F H σ env DD DH R ht l => ?_⟩
  refine h F H σ env _ _ R ht fun d env1 v F1 H1 q s1 R1 r1 => ?_
  exact l.nx _ _ F1 H1 (setC_of q) s1 (R1.set r1 i)

/-! ### what a loop goes through -/
abbrev TDI := DEnv → (List D → DEnv → Prop) → Prop
def IterOk (K : PySem.W.Frag) (J : It) (ds : List D) (F0 : Hp) : Prop :=
  ∀ (F H : Hp) (i : Nat), Same F0 F → Same F H → (i = ds.length → J.stop i H) ∧ ∀ d, ds[i]? = some d → J.go i H ∧ ∀ x H', J.yld i H x H' → ∃ F', Stp F H F' H' ∧ Rp K F' x d
structure DI (X : Cx) (B : Bd) (tg iter : Expr) (t : TDI) : Prop where
  ex : ∃ wi, PI X tg iter wi ∧ ∀ (F H : Hp) (σ : St) (env : DEnv) (Q : List D → DEnv → Prop) (R' : It → Hp → Prop), Rep X.K B F H σ env → t env Q →
    (∀ ds env' J F' H', Q ds env' → Same F F' → Rep X.K B F' H' σ env' → IterOk X.K J ds F' → R' J H') → wi σ H R'
def forL0 (body : D → TDS) : List D → TDS
  | [], DD, env => DD.nx env
  | d :: r, DD, env => body d { nx := forL0 body r DD, ct := forL0 body r DD, bk := DD.nx, rt := DD.rt, ro := DD.ro } env
@[irreducible] def forL (body : D → TDS) : List D → TDS := forL0 body
theorem forL_nil (body : D → TDS) (DD : DEnds) (env : DEnv) : forL body [] DD env = DD.nx env := by unfold forL; rfl
theorem forL_cons (body : D → TDS) (d : D) (r : List D) (DD : DEnds) (env : DEnv) : forL body (d :: r) DD env = body d { nx := forL body r DD, ct := forL body r DD, bk := DD.nx, rt := DD.rt, ro := DD.ro } env := by unfold forL; rfl
@[simp] def sFor (ti : TDI) (g : TDG) (tb : TDS) : TDS := fun DD env => ti env fun ds env1 => forL (fun d DD env => g d env fun env2 => tb DD env2) ds DD env1
theorem ds_for {tg iter : Expr} {body : List Stmt} {ti : TDI} {g : TDG} {tb : TDS} {vs : List Nat} (hp : PassesOwn (model X.prog X.w) X.A X.env X.xe) (hc : X.calm = true) (hi : DI X B tg iter ti) (hg : DG X B tg vs g) (hb : DSs X B body tb)
    (hs : ∀ x, foldedSetIterable iter X.env x = pure x := by intro _; rfl) : DS X B (.For tg iter body [] pos) (sFor ti g tb) := by
  obtain ⟨wi, p, h⟩ := hi.ex
  obtain ⟨gs, p2, h2⟩ := hg.ex
  obtain ⟨ts, p3, h3⟩ := hb.ex
  refine ⟨_, ps_for hp hc p p2 p3 hs, fun F H σ env DD DH R ht l => ?_⟩
  refine h F H σ env _ _ R ht fun ds env1 J F1 H1 q s1 R1 io => ?_
  have l1 := l.mono s1
  refine ⟨fun i m σ H => ∃ F env, Same F1 F ∧ Rep X.K B F H σ env ∧ forL (fun d DD env => g d env fun env2 => tb DD env2) (ds.drop i) DD env ∧ m = ds.length - i ∧ i ≤ ds.length,
    ⟨ds.length, F1, env1, Same.refl _, R1, by simpa using q, by simp, Nat.zero_le _⟩, ?_⟩
  rintro i m σ3 H3 ⟨F3, env3, s3, R3, q3, rfl, hle⟩
  obtain ⟨i1, i2⟩ := io F3 H3 i s3 R3.sub
  by_cases hlt : i < ds.length
  · have hd : ds[i]? = some ds[i] := List.getElem?_eq_getElem hlt
    obtain ⟨go, yl⟩ := i2 _ hd
    rw [List.drop_eq_getElem_cons hlt, forL_cons] at q3
    refine .inr ⟨go, fun σ H => ∃ F env, Same F1 F ∧ Rep X.K B F H σ env ∧ forL (fun d DD env => g d env fun env2 => tb DD env2) (ds.drop (i + 1)) DD env, ?_, ?_⟩
    · rintro σ' H' ⟨F', env', s', R', q'⟩
      exact ⟨ds.length - (i + 1), by omega, F', env', s', R', q', rfl, hlt⟩
    · intro x H4 y4
      obtain ⟨F4, st4, r4⟩ := yl x H4 y4
      have R4 := R3.stp st4
      have s4 := s3.trans (st4.same R3.sub)
      refine h2 F4 H4 σ3 env3 _ x _ _ R4 r4 q3 fun env5 σ5 q5 _ R5 => ?_
      refine h3 F4 H4 σ5 env5 _ _ R5 q5 ⟨?_, fun d env' v σ' F' H' q s R' r' => l1.rt d env' v σ' F' H' q (s4.trans s) R' r', fun env' σ' F' H' q s R' => l1.nx env' σ' F' H' q (s4.trans s) R', ?_, fun c env' p σ' F' H' q s => l1.ro c env' p σ' F' H' q (s4.trans s)⟩
      · exact fun env' σ' F' H' q s R' => ⟨F', env', s4.trans s, R', q⟩
      · exact fun env' σ' F' H' q s R' => ⟨F', env', s4.trans s, R', q⟩
  · have e : i = ds.length := by omega
    refine .inl ⟨i1 e, ?_⟩
    rw [e, List.drop_length, forL_nil] at q3
    exact l1.nx env3 σ3 F3 H3 q3 s3 R3
/-- by what holds and a number that falls -/
def sWhile (tc : TDT) (tb : TDS) : TDS := fun DD env => ∃ W : Nat → DEnv → Prop, (∃ m, W m env) ∧ ∀ m env, W m env → tc env fun b env1 => match b with
  | true => tb { nx := fun e => ∃ m', m' < m ∧ W m' e, ct := fun e => ∃ m', m' < m ∧ W m' e, bk := DD.nx, rt := DD.rt, ro := DD.ro } env1
  | false => DD.nx env1
theorem ds_while {c : Expr} {body : List Stmt} {tc : TDT} {tb : TDS} (hp : PassesOwn (model X.prog X.w) X.A X.env X.xe) (hc : DT X B c tc) (hb : DSs X B body tb) : DS X B (.While c body [] pos) (sWhile tc tb) := by
  obtain ⟨tcs, p, h⟩ := hc.ex
  obtain ⟨ts, p3, h3⟩ := hb.ex
  refine ⟨_, ps_while hp p p3, fun F H σ env DD DH R ht l => ?_⟩
  obtain ⟨W, ⟨m0, w0⟩, turn⟩ := ht
  refine ⟨fun m σ H => ∃ F' env, Same F F' ∧ Rep X.K B F' H σ env ∧ W m env, ⟨m0, F, env, Same.refl _, R, w0⟩, ?_⟩
  rintro m σ1 H1 ⟨F1, env1, s1, R1, w1⟩
  refine h F1 H1 σ1 env1 _ _ R1 (turn m env1 w1) fun b env2 F2 H2 q2 s2 R2 => ?_
  cases b with
  | true =>
    refine iteT ⟨fun σ H => ∃ m' F' env, m' < m ∧ Same F F' ∧ Rep X.K B F' H σ env ∧ W m' env, ?_, ?_⟩
    · rintro σ' H' ⟨m', F', env', hm, s', R', w'⟩
      exact ⟨m', hm, F', env', s', R', w'⟩
    · refine h3 F2 H2 σ1 env2 _ _ R2 q2 ⟨?_, fun d env' v σ' F' H' q s R' r' => l.rt d env' v σ' F' H' q ((s1.trans s2).trans s) R' r', fun env' σ' F' H' q s R' => l.nx env' σ' F' H' q ((s1.trans s2).trans s) R', ?_, fun c env' p σ' F' H' q s => l.ro c env' p σ' F' H' q ((s1.trans s2).trans s)⟩
      · rintro env' σ' F' H' ⟨m', hm, w'⟩ s R'
        exact ⟨m', F', env', hm, (s1.trans s2).trans s, R', w'⟩
      · rintro env' σ' F' H' ⟨m', hm, w'⟩ s R'
        exact ⟨m', F', env', hm, (s1.trans s2).trans s, R', w'⟩
  | false => exact iteF (l.nx env2 σ1 F2 H2 q2 (s1.trans s2) R2)
/-- lists, tuples -/
@[simp] def qSeqI (t : TD) : TDI := fun env Q => t env fun d env1 => match d with
  | .lst ds => Q ds env1
  | .scr ds => Q ds env1
  | _ => False
@[simp] def qTupI (t : TD) : TDI := fun env Q => t env fun d env1 => match d with
  | .tup ds => Q ds env1
  | _ => False
theorem di_list {tg l : Expr} {t : TD} (hl : DE X B l t) : DI X B tg l (qSeqI t) := by
  obtain ⟨ts, p, h⟩ := hl.ex
  refine ⟨_, pi_list p, fun F H σ env Q R' R ht k => ?_⟩
  refine h F H σ env _ _ R ht fun d env1 v F1 H1 q1 s1 R1 r1 => ?_
  have key : ∀ {a : Addr} {vs : List V} {ds : List D}, SqL X.K F1 a vs → RpA X.K F1 vs ds → Q ds env1 → ∃ a', V.ref a = V.ref a' ∧ (∃ xs, SqL X.K H1 a' xs) ∧ R' (Itl X.K a') H1 := by
    intro a vs ds hs ra q1
    refine ⟨a, rfl, ⟨vs, R1.sub.seq hs⟩, k _ env1 _ F1 H1 q1 s1 R1 fun F H i s0 sH => ?_⟩
    have hq := sH.seq (s0.seq hs)
    refine ⟨fun e => ⟨vs, hq, by rw [ra.length, e]; exact Nat.le_refl _⟩, fun d e => ?_⟩
    obtain ⟨v, hv, rv⟩ := ra.get e
    refine ⟨⟨vs, v, hq, hv⟩, ?_⟩
    rintro x H' ⟨rfl, y⟩
    have := y vs hq
    rw [hv] at this; cases this
    exact ⟨F, .nil, rv.mono s0⟩
  cases r1 with
  | lst hs ra => exact key (.of hs) ra q1
  | scr hs ra => exact key hs ra q1
  | _ => exact q1.elim
theorem di_tup {tg l : Expr} {t : TD} (hl : DE X B l t) : DI X B tg l (qTupI t) := by
  obtain ⟨ts, p, h⟩ := hl.ex
  refine ⟨_, pi_tup p, fun F H σ env Q R' R ht k => ?_⟩
  refine h F H σ env _ _ R ht fun d env1 v F1 H1 q1 s1 R1 r1 => ?_
  cases r1 with
  | @tup a vs ds hs ra =>
    refine ⟨a, rfl, ⟨vs, same_sqT R1.sub hs⟩, k _ env1 _ F1 H1 q1 s1 R1 fun F H i s0 sH => ?_⟩
    have hq := same_sqT sH (same_sqT s0 hs)
    refine ⟨fun e => ⟨vs, hq, by rw [ra.length, e]; exact Nat.le_refl _⟩, fun d e => ?_⟩
    obtain ⟨v, hv, rv⟩ := ra.get e
    refine ⟨⟨vs, v, hq, hv⟩, ?_⟩
    rintro x H' ⟨rfl, y⟩
    have := y vs hq
    rw [hv] at this; cases this
    exact ⟨F, .nil, rv.mono s0⟩
  | _ => exact q1.elim
def rgD (lo : Int) (n : Nat) : List D := (List.range n).map fun (i : Nat) => D.int (lo + (i : Int))
theorem rgD_get {lo : Int} {n i : Nat} : (rgD lo n)[i]? = if i < n then some (D.int (lo + i)) else none := by
  unfold rgD
  rw [List.getElem?_map]
  by_cases h : i < n
  · rw [List.getElem?_range h, if_pos h]; rfl
  · rw [List.getElem?_eq_none (by simpa using Nat.le_of_not_lt h), if_neg h]; rfl
theorem rgD_len {lo : Int} {n : Nat} : (rgD lo n).length = n := by unfold rgD; simp
theorem iter_range {K : PySem.W.Frag} {lo : Int} {n : Nat} {F0 : Hp} : IterOk K (Itr lo n) (rgD lo n) F0 := fun F H i s0 sH => by
  refine ⟨fun e => by rw [rgD_len] at e; exact Nat.le_of_eq e.symm, fun d e => ?_⟩
  rw [rgD_get] at e
  by_cases h : i < n
  · rw [if_pos h] at e; cases e
    refine ⟨h, ?_⟩
    rintro x H' ⟨rfl, rfl⟩
    exact ⟨F, .nil, .int _⟩
  · rw [if_neg h] at e; cases e
@[simp] def SmallR (i : Int) : Prop := -(2 ^ 62) ≤ i ∧ i < 2 ^ 62
@[simp] def qRg1 (tr : TDA) : TDI := fun env Q => tr env fun ds env1 => match ds with
  | [.int j] => SmallR j ∧ Q (rgD 0 j.toNat) env1
  | _ => False
@[simp] def qRg2 (tr : TDA) : TDI := fun env Q => tr env fun ds env1 => match ds with
  | [.int i, .int j] => SmallR i ∧ SmallR j ∧ Q (rgD i (j - i).toNat) env1
  | _ => False
theorem RpA.int1 {K : PySem.W.Frag} {F : Hp} {vs : List V} {i : Int} (r : RpA K F vs [.int i]) : vs = [.int i] := by
  cases r with
  | cons r rr => cases rr; cases r; rfl
theorem RpA.int2 {K : PySem.W.Frag} {F : Hp} {vs : List V} {i j : Int} (r : RpA K F vs [.int i, .int j]) : vs = [.int i, .int j] := by
  cases r with
  | cons r rr => cases r; rw [rr.int1]
theorem di_range1 {tg a : Expr} {tr : TDA} {p : Pos} (hg : Gl X "range") (hm : X.mg "range" = none) (ha : DA X B [a] tr) (hs : starEach [a] X.env = [(false, eval a X.env)] := by rfl) : DI X B tg (.Call (.Name "range" p) [a] [] pos) (qRg1 tr) := by
  obtain ⟨ts, q, h⟩ := ha.ex
  refine ⟨_, pi_range1 hg hm q hs, fun F H σ env Q R' R ht k => ?_⟩
  refine h F H σ env _ _ R ht fun ds env1 vs F1 H1 q1 s1 R1 r1 => ?_
  split at q1
  · obtain ⟨⟨h1, h2⟩, q1⟩ := q1
    exact ⟨_, r1.int1, h1, h2, k _ env1 _ F1 H1 q1 s1 R1 iter_range⟩
  · exact q1.elim
theorem di_range2 {tg a b : Expr} {tr : TDA} {p : Pos} (hg : Gl X "range") (hm : X.mg "range" = none) (ha : DA X B [a, b] tr) (hs : starEach [a, b] X.env = [(false, eval a X.env), (false, eval b X.env)] := by rfl) (hs2 : starEach [b] X.env = [(false, eval b X.env)] := by rfl) :
    DI X B tg (.Call (.Name "range" p) [a, b] [] pos) (qRg2 tr) := by
  obtain ⟨ts, q, h⟩ := ha.ex
  refine ⟨_, pi_range2 hg hm q hs hs2, fun F H σ env Q R' R ht k => ?_⟩
  refine h F H σ env _ _ R ht fun ds env1 vs F1 H1 q1 s1 R1 r1 => ?_
  split at q1
  · obtain ⟨⟨h1, h2⟩, ⟨h3, h4⟩, q1⟩ := q1
    exact ⟨_, _, r1.int2, ⟨h1, h2, h3, h4⟩, k _ env1 _ F1 H1 q1 s1 R1 iter_range⟩
  · exact q1.elim
end
end L2.DL

namespace L2.DL
open PySem PySem.Spec PyProof.Rows

@[simp] def OC.frz : OC → D
  | .lst xs => .lst xs
  | .dct kvs => .dct kvs
section
variable {K : PySem.W.Frag} {B : Bd} {F F' H H' : Hp} {σ : St} {env : DEnv} {v : V} {d : D} {i : Nat} {c : OC} {p : Addr}
theorem Rep.newp (R : Rep K B F H σ env) (h : H p = none) : F p = none ∧ B.H0 p = none ∧ B.P p = none ∧ Apart p σ env := by
  refine ⟨R.freeF h, ?_, R.pin.free h, fun i c e w q => ?_⟩
  · cases z : B.H0 p with
    | none => rfl
    | some o =>
      by_cases m : B.M p
      · exact absurd h (R.mh p m)
      · rw [R.fix p o z m] at h; cases h
  · obtain ⟨a, e1, _, e3, _⟩ := (R.cells i c e).own_addr w
    rw [q] at e1; cases e1
    exact e3 h
/-- an object of one's own becomes data -/
theorem Rep.keepF (R : Rep K B F H σ env) {o : HO} (hH : H p = some o) (hF : F p = none) (h0 : B.H0 p = none) (hP : B.P p = none) (ap : Apart p σ env) : Rep K B (upd F p o) H σ env where
  len := R.len
  sub := fun b x e => by
    by_cases q : b = p
    · subst q; rw [upd_same] at e; rw [hH]; exact e
    · rw [upd_ne q] at e; exact R.sub _ _ e
  fix := R.fix
  gro := R.gro.trans (same_upd hF)
  new := fun b e n => by
    by_cases q : b = p
    · subst q; exact h0
    · rw [upd_ne q] at n; exact R.new b e n
  mf := fun b m => by
    have q : b ≠ p := fun q => by subst q; exact R.m0 b m h0
    rw [upd_ne q]; exact R.mf b m
  mh := R.mh
  m0 := R.m0
  pin := R.pin
  mp := R.mp
  pf := fun b x e => by
    have q : b ≠ p := fun q => by subst q; rw [hP] at e; cases e
    rw [upd_ne q]; exact R.pf b x e
  cells := fun j c e => (R.cells j c e).mono (same_upd hF) fun w a s n f => ⟨rfl, by
    have q : a ≠ p := fun q => by subst q; exact ap j c e w s
    rw [upd_ne q]; exact f⟩
  dis := R.dis
theorem OcOk.rp (h : OcOk K F H p c) (hF : F p = none) : ∃ o, H p = some o ∧ Rp K (upd F p o) (.ref p) c.frz := by
  cases c with
  | lst xs => obtain ⟨vs, h1, h2⟩ := h; exact ⟨_, h1, .lst upd_same (h2.mono (same_upd hF))⟩
  | dct xs => obtain ⟨vs, h1, h2⟩ := h; exact ⟨_, h1, .dct upd_same (h2.mono (same_upd hF))⟩
theorem Rep.setCell (R : Rep K B F H σ env) {cl : Cell} (i : Nat) (hc : i < env.length → CellOk K B F H (some (some v)) i cl) (hd : cl.isOwn = true → ∀ a, v = .ref a → ∀ (j : Nat) (c : Cell), j ≠ i → env[j]? = some c → c.isOwn = true → σ[j]? ≠ some (some (.ref a))) :
    Rep K B F H (σ.set i (some v)) (env.set i cl) where
  len := by rw [List.length_set, List.length_set]; exact R.len
  sub := R.sub
  fix := R.fix
  gro := R.gro
  new := R.new
  mf := R.mf
  mh := R.mh
  m0 := R.m0
  pin := R.pin
  mp := R.mp
  pf := R.pf
  cells := fun j c e => by
    by_cases q : i = j
    · subst q
      have hl : i < env.length := by
        have := (List.getElem?_eq_some_iff.mp e).1
        rw [List.length_set] at this; exact this
      rw [List.getElem?_set_self hl] at e
      cases e
      rw [List.getElem?_set_self (by rw [← R.len]; exact hl)]
      exact hc hl
    · rw [List.getElem?_set_ne q] at e ⊢
      exact R.cells j c e
  dis := fun j k a c c' e1 e2 w1 w2 s1 s2 => by
    have at_i : ∀ {j : Nat} {c : Cell}, i = j → (env.set i cl)[j]? = some c → (σ.set i (some v))[j]? = some (some (.ref a)) → c = cl ∧ v = .ref a := by
      intro j c q e s
      subst q
      have hl : i < env.length := by
        have := (List.getElem?_eq_some_iff.mp e).1
        rw [List.length_set] at this; exact this
      rw [List.getElem?_set_self hl] at e
      rw [List.getElem?_set_self (by rw [← R.len]; exact hl)] at s
      cases e; cases s; exact ⟨rfl, rfl⟩
    by_cases q : i = j
    · by_cases q' : i = k
      · exact q.symm.trans q'
      · obtain ⟨rfl, rfl⟩ := at_i q e1 s1
        rw [List.getElem?_set_ne q'] at e2 s2
        exact absurd s2 (hd w1 a rfl k c' (Ne.symm q') e2 w2)
    · by_cases q' : i = k
      · obtain ⟨rfl, rfl⟩ := at_i q' e2 s2
        rw [List.getElem?_set_ne q] at e1 s1
        exact absurd s1 (hd w2 a rfl j c (Ne.symm q) e1 w1)
      · rw [List.getElem?_set_ne q] at e1 s1
        rw [List.getElem?_set_ne q'] at e2 s2
        exact R.dis j k a c c' e1 e2 w1 w2 s1 s2
theorem Rep.setOwn (R : Rep K B F H σ env) (i : Nat) (h : OcOk K F H p c) (hF : F p = none) (h0 : B.H0 p = none) (hP : B.P p = none) (ap : Apart p σ env) : Rep K B F H (σ.set i (some (.ref p))) (env.set i (.own true c)) :=
  R.setCell i (fun _ => ⟨p, rfl, h, hF, hP, by simpa using h0⟩) fun _ a e j cl _ ej w => by cases e; exact ap j cl ej w
theorem set_id {α : Type} {l : List α} {i : Nat} {x : α} (h : l[i]? = some x) : l.set i x = l := by
  apply List.ext_getElem?
  intro j
  by_cases q : i = j
  · subst q
    rw [List.getElem?_set_self (List.getElem?_eq_some_iff.mp h).1, h]
  · rw [List.getElem?_set_ne q]
/-- a name's own object becomes data -/
theorem Rep.freezeAt (R : Rep K B F H σ env) (e : env[i]? = some (.own true c)) : ∃ F', Same F F' ∧ Rep K B F' H σ (env.set i (.val c.frz)) := by
  obtain ⟨a, s, h, hF, hP, h0⟩ := R.cells i _ e
  have h0 : B.H0 a = none := by simpa using h0
  obtain ⟨o, hH, r⟩ := h.rp hF
  have R1 : Rep K B F H σ (env.set i .none) := R.weak (by simp) fun j cl q => by
    by_cases w : i = j
    · subst w
      rw [List.getElem?_set_self (List.getElem?_eq_some_iff.mp e).1] at q
      cases q; exact .inr rfl
    · rw [List.getElem?_set_ne w] at q; exact .inl q
  have R2 := R1.keepF hH hF h0 hP fun j cl q w z => by
    by_cases y : i = j
    · subst y
      rw [List.getElem?_set_self (List.getElem?_eq_some_iff.mp e).1] at q
      cases q; cases w
    · rw [List.getElem?_set_ne y] at q
      exact y (R.dis i j a _ _ e q rfl w s z)
  refine ⟨upd F a o, same_upd hF, ?_⟩
  have R3 := R2.set r i
  rw [List.set_set, set_id s] at R3
  exact R3
/-- a name's own object changes -/
theorem Rep.writeAt (R : Rep K B F H σ env) {fr : Bool} {c c' : OC} {a : Addr} {o : HO} (e : env[i]? = some (.own fr c)) (s : σ[i]? = some (some (.ref a))) (h : OcOk K F (upd H a o) a c') : Rep K B F (upd H a o) σ (env.set i (.own fr c')) := by
  obtain ⟨a', s', hc, hF, hP, h0⟩ := R.cells i _ e
  rw [s] at s'; cases s'
  have sub : Same F (upd H a o) := fun b x q => by
    have : b ≠ a := fun z => by subst z; rw [hF] at q; cases q
    rw [upd_ne this]; exact R.sub _ _ q
  have R1 : Rep K B F (upd H a o) σ (env.set i .none) := by
    refine ⟨by rw [List.length_set]; exact R.len, sub, fun b x q m => ?_, R.gro, R.new, R.mf, fun b m => ?_, R.m0, fun b x q => ?_, R.mp, R.pf, fun j cl q => ?_, ?_⟩
    · have : b ≠ a := fun z => by
        subst z
        cases fr with
        | true => have : B.H0 b = none := by simpa using h0
                  rw [this] at q; cases q
        | false => exact m (by simpa using h0.1)
      rw [upd_ne this]; exact R.fix b x q m
    · by_cases z : b = a
      · subst z; rw [upd_same]; simp
      · rw [upd_ne z]; exact R.mh b m
    · have : b ≠ a := fun z => by subst z; rw [hP] at q; cases q
      rw [upd_ne this]; exact R.pin _ _ q
    · by_cases w : i = j
      · subst w
        rw [List.getElem?_set_self (List.getElem?_eq_some_iff.mp e).1] at q
        cases q; trivial
      · rw [List.getElem?_set_ne w] at q
        refine (R.cells j cl q).mono (Same.refl _) fun w' b s' n f => ⟨?_, f⟩
        have : b ≠ a := fun z => by subst z; exact w (R.dis i j b _ _ e q rfl w' s s')
        rw [upd_ne this]
    · intro j k b cl cl' e1 e2 w1 w2 s1 s2
      have n1 : i ≠ j := fun z => by
        subst z
        rw [List.getElem?_set_self (List.getElem?_eq_some_iff.mp e).1] at e1
        cases e1; cases w1
      have n2 : i ≠ k := fun z => by
        subst z
        rw [List.getElem?_set_self (List.getElem?_eq_some_iff.mp e).1] at e2
        cases e2; cases w2
      rw [List.getElem?_set_ne n1] at e1
      rw [List.getElem?_set_ne n2] at e2
      exact R.dis j k b _ _ e1 e2 w1 w2 s1 s2
  have R2 := R1.setCell (v := .ref a) (cl := .own fr c') i (fun _ => ⟨a, rfl, h, hF, hP, h0⟩) fun _ b eb j cl nj ej w z => by
    cases eb
    rw [List.getElem?_set_ne (Ne.symm nj)] at ej
    exact nj (R.dis j i a _ _ ej e w rfl z s)
  rw [List.set_set, set_id s] at R2
  exact R2
end

/-! ### what makes a new list or dict -/
abbrev TDF := DEnv → (OC → DEnv → Prop) → Prop
structure DF (X : Cx) (B : Bd) (e : Expr) (t : TDF) : Prop where
  ex : ∃ te, PE X e te ∧ ∀ (F H : Hp) (σ : St) (env : DEnv) (Q : OC → DEnv → Prop) (Q' : VK), Rep X.K B F H σ env → t env Q →
    (∀ c env' p F' H', Q c env' → Same F F' → Rep X.K B F' H' σ env' → OcOk X.K F' H' p c → F' p = none → B.H0 p = none → B.P p = none → Apart p σ env' → Q' (.ref p) H') → te σ H Q'
section
variable {X : Cx} {B : Bd} {e a b c : Expr} {ta tb tc te : TD} {pos : Pos} {st : Stmt} {rest sts : List Stmt} {t u : TDS} {tf : TDF} {es : List Expr} {tr : TDA}
@[simp] def qFz (t : TDF) : TD := fun env Q => t env fun c env1 => Q c.frz env1
theorem DF.de (h : DF X B e tf) : DE X B e (qFz tf) := by
  obtain ⟨te, p, h⟩ := h.ex
  refine ⟨te, p, fun F H σ env Q Q' R ht k => ?_⟩
  refine h F H σ env _ _ R ht fun c env' p F' H' q s R' oc hF h0 hP ap => ?_
  obtain ⟨o, hH, r⟩ := oc.rp hF
  exact k _ env' _ _ _ q (s.trans (same_upd hF)) (R'.keepF hH hF h0 hP ap) r
@[simp] def fLst (tr : TDA) : TDF := fun env Q => tr env fun ds env1 => ds.length ≤ sizeLine ∧ Q (.lst ds) env1
theorem df_lst (h : DA X B es tr) : DF X B (.List es pos) (fLst tr) := by
  obtain ⟨te, p, h⟩ := h.ex
  refine ⟨_, pe_lst p, fun F H σ env Q Q' R ht k => ?_⟩
  refine h F H σ env _ _ R ht fun ds env1 vs F1 H1 q1 s1 R1 r1 => ?_
  refine ⟨by rw [r1.length]; exact q1.1, fun p hp => ?_⟩
  obtain ⟨n1, n2, n4, n3⟩ := R1.newp hp
  exact k _ env1 p F1 _ q1.2 s1 (R1.junk hp) ⟨vs, upd_same, r1⟩ n1 n2 n4 n3
/-- a new object of one's own gets a name -/
@[simp] def sOwn (i : Nat) (tf : TDF) : TDS := fun DD env => tf env fun c env1 => setC i (.own true c) env1 DD.nx
theorem ds_own {i : Nat} {x : Str} {pos' : Pos} (hN : X.N.Nodup) (he : DF X B e tf) (hi : X.N[i]? = some x := by rfl) (hx : Loc X.env.scope x := by first | exact Or.inl rfl | exact Or.inr rfl) (hs : swapsWith e (some (.Name x pos')) pos.line X.env = pure false := by rfl) (hf : X.fn x = true ∨ X.env.scope.names.lookup x = some .local := by first | exact .inl rfl | exact .inr rfl | assumption) :
    DS X B (.Assign [.Name x pos'] e pos) (sOwn i tf) := by
  obtain ⟨ts, p, h⟩ := he.ex
  refine ⟨_, ps_set (i := i) hN hi hx p hs hf, fun F H σ env DD DH R ht l => ?_⟩
  refine h F H σ env _ _ R ht fun c env1 p F1 H1 q s1 R1 oc hF h0 hP ap => ?_
  exact l.nx _ _ F1 H1 (setC_of q) s1 (R1.setOwn i oc hF h0 hP ap)
/-- (no step of the program) a name's own object becomes data -/
@[simp] def sFz (i : Nat) (t : TDS) : TDS := fun DD env => match env[i]? with
  | some (.own true c) => setC i (.val c.frz) env fun e => t DD e
  | _ => False
theorem fz_run {ts : TS} {i : Nat} {K : PySem.W.Frag} (h : ∀ (F H : Hp) (σ : St) (env : DEnv) (DD : DEnds) (DH : Ends), Rep K B F H σ env → t DD env → Lk K B F DD DH → ts DH σ H) :
    ∀ (F H : Hp) (σ : St) (env : DEnv) (DD : DEnds) (DH : Ends), Rep K B F H σ env → sFz i t DD env → Lk K B F DD DH → ts DH σ H := by
  intro F H σ env DD DH R ht l
  unfold sFz at ht
  split at ht
  · rename_i c e
    obtain ⟨F', s, R'⟩ := R.freezeAt e
    exact h F' H σ _ DD DH R' (setC_of ht) (l.mono s)
  · exact ht.elim
theorem dss_fz (i : Nat) (h : DSs X B sts t) : DSs X B sts (sFz i t) := by
  obtain ⟨ts, p, h⟩ := h.ex
  exact ⟨ts, p, fz_run h⟩
theorem ds_fz (i : Nat) (h : DS X B st t) : DS X B st (sFz i t) := by
  obtain ⟨ts, p, h⟩ := h.ex
  exact ⟨ts, p, fz_run h⟩
/-- (no step) what is only known in part is opened -/
@[simp] def sOp (i : Nat) (t : TDS) : TDS := fun DD env => match env[i]? with
  | some (.opq fr φ) => ∀ c, φ c → setC i (.own fr c) env fun e => t DD e
  | _ => False
theorem Rep.openAt {K : PySem.W.Frag} {F H : Hp} {σ : St} {env : DEnv} {i : Nat} {fr : Bool} {φ : OC → Prop} (R : Rep K B F H σ env) (e : env[i]? = some (.opq fr φ)) : ∃ c, φ c ∧ Rep K B F H σ (env.set i (.own fr c)) := by
  obtain ⟨c, hc, ok⟩ := R.cells i _ e
  obtain ⟨a, s, _⟩ := id ok
  refine ⟨c, hc, ?_⟩
  have R2 := R.setCell (v := .ref a) (cl := .own fr c) i (fun _ => by rw [← s]; exact ok) fun _ b eb j cl nj ej w z => by
    cases eb
    exact nj (R.dis j i a _ _ ej e w rfl z s)
  rw [set_id s] at R2
  exact R2
theorem dss_op (i : Nat) (h : DSs X B sts t) : DSs X B sts (sOp i t) := by
  obtain ⟨ts, p, h⟩ := h.ex
  refine ⟨ts, p, fun F H σ env DD DH R ht l => ?_⟩
  unfold sOp at ht
  split at ht
  · rename_i fr φ e
    obtain ⟨c, hc, R'⟩ := R.openAt e
    exact h F H σ _ DD DH R' (setC_of (ht c hc)) l
  · exact ht.elim

/-- (no step) of one's own object no more is kept than what φ says -/
@[simp] def sCl (i : Nat) (φ : OC → Prop) (t : TDS) : TDS := fun DD env => match env[i]? with
  | some (.own fr c) => φ c ∧ setC i (.opq fr φ) env fun e => t DD e
  | _ => False
theorem Rep.closeAt {K : PySem.W.Frag} {F H : Hp} {σ : St} {env : DEnv} {i : Nat} {fr : Bool} {c : OC} {φ : OC → Prop} (R : Rep K B F H σ env) (e : env[i]? = some (.own fr c)) (hc : φ c) : Rep K B F H σ (env.set i (.opq fr φ)) := by
  have ok : OwnOk K B F H σ[i]? i fr c := R.cells i _ e
  obtain ⟨a, s, _⟩ := id ok
  have R2 := R.setCell (v := .ref a) (cl := .opq fr φ) i (fun _ => ⟨c, hc, by rw [← s]; exact ok⟩) fun _ b eb j cl nj ej w z => by
    cases eb
    exact nj (R.dis j i a _ _ ej e w rfl z s)
  rw [set_id s] at R2
  exact R2
theorem dss_cl (i : Nat) (φ : OC → Prop) (h : DSs X B sts t) : DSs X B sts (sCl i φ t) := by
  obtain ⟨ts, p, h⟩ := h.ex
  refine ⟨ts, p, fun F H σ env DD DH R ht l => ?_⟩
  unfold sCl at ht
  split at ht
  · rename_i fr c e
    exact h F H σ _ DD DH (R.closeAt e ht.1) (setC_of ht.2) l
  · exact ht.elim

/-! ### one's own list: append, pop, items stored -/
@[simp] def ownL (env : DEnv) (i : Nat) (k : Bool → List D → Prop) : Prop := match env[i]? with
  | some (.own fr (.lst xs)) => k fr xs
  | _ => False
theorem ownL_of {env : DEnv} {i : Nat} {k : Bool → List D → Prop} (h : ownL env i k) : ∃ fr xs, env[i]? = some (.own fr (.lst xs)) ∧ k fr xs := by
  unfold ownL at h
  split at h
  · rename_i fr xs e
    exact ⟨fr, xs, e, h⟩
  · exact h.elim
@[simp] def sApp (i : Nat) (te : TD) : TDS := fun DD env => ownL env i fun _ _ => te env fun d env1 => ownL env1 i fun fr xs =>
  xs.length < sizeLine ∧ setC i (.own fr (.lst (xs ++ [d]))) env1 DD.nx
theorem own_read {K : PySem.W.Frag} {F H : Hp} {σ : St} {env : DEnv} {i : Nat} {fr : Bool} {xs : List D} (R : Rep K B F H σ env) (e : env[i]? = some (.own fr (.lst xs))) : ∃ a vs, σ[i]? = some (some (.ref a)) ∧ H a = some (.lst vs) ∧ RpA K F vs xs := by
  obtain ⟨a, s, ⟨vs, h1, h2⟩, _⟩ := R.cells i _ e
  exact ⟨a, vs, s, h1, h2⟩
/-- as a term of the layer below -/
def canE (K : PySem.W.Frag) (B : Bd) (t : TD) : TE := fun σ H Q' => ∃ (F : Hp) (env : DEnv) (Q : DK), Rep K B F H σ env ∧ t env Q ∧
  ∀ d env' v F' H', Q d env' → Same F F' → Rep K B F' H' σ env' → Rp K F' v d → Q' v H'
theorem DE.pe (h : DE X B e te) : PE X e (canE X.K B te) := by
  obtain ⟨ts, p, h⟩ := h.ex
  exact ⟨fun pins s σ H Q I ⟨F, env, Qd, R, ht, k⟩ => p.run pins s σ H Q I (h F H σ env Qd Q R ht k)⟩
def canT (K : PySem.W.Frag) (B : Bd) (t : TDT) : TT := fun σ H Q' => ∃ (F : Hp) (env : DEnv) (Q : Bool → DEnv → Prop), Rep K B F H σ env ∧ t env Q ∧
  ∀ b env' F' H', Q b env' → Same F F' → Rep K B F' H' σ env' → Q' b H'
theorem DT.pt {e : Expr} {t : TDT} (h : DT X B e t) : PT X e (canT X.K B t) := by
  obtain ⟨ts, p, h⟩ := h.ex
  exact ⟨fun pins s σ H Q I ⟨F, env, Qd, R, ht, k⟩ => p.run pins s σ H Q I (h F H σ env Qd Q R ht k)⟩
def canG (K : PySem.W.Frag) (B : Bd) (vs : List Nat) (t : TDG) : TG := fun v σ H Q' => ∃ (F : Hp) (env : DEnv) (d : D) (Q : DEnv → Prop), Rep K B F H σ env ∧ Rp K F v d ∧ t d env Q ∧
  ∀ env' σ', Q env' → Chg vs σ σ' → Rep K B F H σ' env' → Q' σ' H
theorem DG.pg {e : Expr} {vs : List Nat} {t : TDG} (h : DG X B e vs t) : PG X e (canG X.K B vs t) := by
  obtain ⟨ts, p, h⟩ := h.ex
  exact ⟨fun pins s σ H v u Q I r ⟨F, env, d, Qd, R, rd, ht, k⟩ => p.run pins s σ H v u Q I r (h F H σ env d v Qd Q R rd ht k)⟩
theorem ds_append {i : Nat} {ce : Expr} {pos' : Pos} (p : PE X ce (tBM X.K "list" rAppend (tVar i) (tCons (canE X.K B te) tNil))) (hs' : swapsWith ce none pos'.line X.env = pure false := by rfl) :
    DS X B (.Expr ce pos') (sApp i te) := by
  refine ⟨_, ps_expr p hs', fun F H σ env DD DH R ht l => ?_⟩
  obtain ⟨fr, xs, e0, ht⟩ := ownL_of ht
  obtain ⟨a, vs, s, h1, _⟩ := own_read R e0
  refine ⟨_, s, .inl ⟨rfl, _, SqL.of h1⟩, F, env, _, R, ht, fun d env1 v F1 H1 q s1 R1 r1 => ?_⟩
  obtain ⟨fr, xs, e1, q⟩ := ownL_of q
  obtain ⟨a', vs', s', h1', ra⟩ := own_read R1 e1
  rw [s] at s'; cases s'
  refine ⟨a, vs', v, rfl, rfl, h1', by rw [ra.length]; exact q.1, ?_⟩
  exact l.nx _ σ F1 _ (setC_of q.2) s1 (R1.writeAt e1 s ⟨_, upd_same, ra.append (.one r1)⟩)
/-- x[k] = e, x one's own list -/
@[simp] def sSetL (i : Nat) (te tk : TD) : TDS := fun DD env => te env fun d env1 => ownL env1 i fun _ _ => tk env1 fun k env2 => match k with
  | .int j => ownL env2 i fun fr xs => ∃ m, ixN xs.length j = some m ∧ setC i (.own fr (.lst (xs.set m d))) env2 DD.nx
  | _ => False
theorem ds_setL {i : Nat} {tg : Expr} {tk : TD} (he : DE X B e te) (hg : PG X tg (gSub (tVar i) (canE X.K B tk) rSetL)) (hs : swapsWithSole [tg] e pos.line X.env = pure false := by rfl) (hw : swappedStores [tg] e X.env = pure none := by rfl)
    (h1 : (assignEach [tg] X.env).map (·.2) = [assign tg X.env] := by rfl) : DS X B (.Assign [tg] e pos) (sSetL i te tk) := by
  obtain ⟨ts, p, h⟩ := he.ex
  refine ⟨_, ps_asg p hg hs hw h1, fun F H σ env DD DH R ht l => ?_⟩
  refine h F H σ env _ _ R ht fun d env1 v F1 H1 q s1 R1 r1 => ?_
  obtain ⟨fr, xs, e1, q⟩ := ownL_of q
  obtain ⟨a, vs, s, h1, _⟩ := own_read R1 e1
  refine ⟨_, s, F1, env1, _, R1, q, fun k env2 w F2 H2 q2 s2 R2 r2 => ?_⟩
  split at q2
  · obtain ⟨fr, xs, e2, m, hm, q2⟩ := ownL_of q2
    obtain ⟨a', vs', s', h2, ra⟩ := own_read R2 e2
    rw [s] at s'; cases s'
    cases r2
    refine ⟨a, vs', _, m, rfl, rfl, h2, by rw [ra.length]; exact hm, ?_⟩
    exact l.nx _ σ F2 _ (setC_of q2) (s1.trans s2) (R2.writeAt e2 s ⟨_, upd_same, ra.set (r1.mono s2) m⟩)
  · exact q2.elim
/-- an item of one's own list -/
@[simp] def qIxO (i : Nat) (tk : TD) : TD := fun env Q => ownL env i fun _ _ => tk env fun k env1 => match k with
  | .int j => ownL env1 i fun _ xs => ∃ d, atI xs j = some d ∧ Q d env1
  | _ => False
theorem RpA.at {K : PySem.W.Frag} {F : Hp} {vs : List V} {ds : List D} {j : Int} {d : D} (r : RpA K F vs ds) (h : atI ds j = some d) : ∃ v, atI vs j = some v ∧ Rp K F v d := by
  unfold atI at h ⊢
  rw [r.length]
  cases z : ixN ds.length j with
  | none => rw [z] at h; cases h
  | some m =>
    rw [z] at h
    exact r.get h
theorem de_ixO {i : Nat} {ce : Expr} {tk : TD} (p : PE X ce (tOp (rIxL X.K) (tVar i) (canE X.K B tk))) : DE X B ce (qIxO i tk) := by
  refine ⟨_, p, fun F H σ env Q Q' R ht k => ?_⟩
  obtain ⟨fr, xs, e0, ht⟩ := ownL_of ht
  obtain ⟨a, vs, s, h1, _⟩ := own_read R e0
  refine ⟨_, s, F, env, _, R, ht, fun d env1 v F1 H1 q s1 R1 r1 => ?_⟩
  split at q
  · obtain ⟨fr, xs, e1, dd, hd, q⟩ := ownL_of q
    obtain ⟨a', vs', s', h2, ra⟩ := own_read R1 e1
    rw [s] at s'; cases s'
    cases r1
    obtain ⟨w, hw, rw'⟩ := ra.at hd
    exact ⟨a, vs', _, w, rfl, rfl, SqL.of h2, hw, k dd env1 w F1 H1 q s1 R1 rw'⟩
  · exact q.elim
/-- f(x), x one's own object: an answer that is no object -/
@[simp] def scalD (Q : D → Prop) : D → Prop
  | .non => Q .non
  | .bl b => Q (.bl b)
  | .int i => Q (.int i)
  | .str x => Q (.str x)
  | _ => False
theorem scal_rp {K : PySem.W.Frag} {F F' : Hp} {Q : D → Prop} {d : D} {v : V} (h : scalD Q d) (r : Rp K F v d) : Q d ∧ Rp K F' v d := by
  cases d with
  | non => cases r; exact ⟨h, .non⟩
  | bl b => cases r; exact ⟨h, .bl b⟩
  | int b => cases r; exact ⟨h, .int b⟩
  | str b => cases r; exact ⟨h, .str b⟩
  | _ => exact h.elim
theorem Rep.junkS {K : PySem.W.Frag} {F G G' H H' : Hp} {σ : St} {env : DEnv} (R : Rep K B F H σ env) (s : Stp G H G' H') : Rep K B F H' σ env := by
  rcases s with ⟨_, rfl⟩ | ⟨p, o, n, _, rfl⟩
  · exact R
  · exact R.junk n
/-- a view of one's own object -/
theorem own_view {K : PySem.W.Frag} {F H : Hp} {σ : St} {env : DEnv} {i : Nat} {fr : Bool} {c : OC} (R : Rep K B F H σ env) (e : env[i]? = some (.own fr c)) : ∃ a G, σ[i]? = some (some (.ref a)) ∧ Same F G ∧ Same G H ∧ Rp K G (.ref a) c.frz := by
  obtain ⟨a, s, oc, hF, _⟩ := R.cells i _ e
  obtain ⟨o, hH, r⟩ := oc.rp hF
  refine ⟨a, _, s, same_upd hF, fun b x q => ?_, r⟩
  by_cases z : b = a
  · subst z; rw [upd_same] at q; rw [hH]; exact q
  · rw [upd_ne z] at q; exact R.sub _ _ q
@[simp] def ownC (env : DEnv) (i : Nat) (k : Bool → OC → Prop) : Prop := match env[i]? with
  | some (.own fr c) => k fr c
  | _ => False
theorem ownC_of {env : DEnv} {i : Nat} {k : Bool → OC → Prop} (h : ownC env i k) : ∃ fr c, env[i]? = some (.own fr c) ∧ k fr c := by
  unfold ownC at h
  split at h
  · rename_i fr xs e
    exact ⟨fr, xs, e, h⟩
  · exact h.elim
@[simp] def qClO (s : SN) (i : Nat) : TD := fun env Q => ownC env i fun _ c => s [c.frz] (scalD fun r => Q r env)
theorem de_clO {i : Nat} {ce : Expr} {s : SN} {f : Value} (hc : DCl X f s) (p : ∀ r, CallR X f r → PE X ce (tCB r (tCons (tVar i) tNil))) : DE X B ce (qClO s i) := by
  obtain ⟨r, hr, h⟩ := hc
  refine ⟨_, p r hr, fun F H σ env Q Q' R ht k => ?_⟩
  obtain ⟨fr, c, e, ht⟩ := ownC_of ht
  obtain ⟨a, G, s1, s2, s3, rp⟩ := own_view R e
  refine ⟨_, s1, h G H _ _ _ _ s3 (.one rp) ht fun d' v G' H' q st r' => ?_⟩
  obtain ⟨q, r''⟩ := scal_rp (F' := F) q r'
  exact k d' env v F H' q (Same.refl _) (R.junkS st) r''
/-- x op e, e op x with one's own x: an answer that is no object -/
@[simp] def qOpL (s : S2) (i : Nat) (tb : TD) : TD := fun env Q => ownC env i fun _ _ => tb env fun d env1 => ownC env1 i fun _ c => s c.frz d (scalD fun r => Q r env1)
@[simp] def qOpR (s : S2) (ta : TD) (i : Nat) : TD := fun env Q => ta env fun d env1 => ownC env1 i fun _ c => s d c.frz (scalD fun r => Q r env1)
theorem op_runL {i : Nat} {s : S2} {r : R2} (h : ∀ (F H : Hp) (x y : V) (d e : D) (Q : D → Prop) (Q' : VK), Same F H → Rp X.K F x d → Rp X.K F y e → s d e Q →
    (∀ d' v F' H', Q d' → Stp F H F' H' → Rp X.K F' v d' → Q' v H') → r x y H Q') : ∀ (F H : Hp) (σ : St) (env : DEnv) (Q : DK) (Q' : VK), Rep X.K B F H σ env → qOpL s i tb env Q →
    (∀ d env' v F' H', Q d env' → Same F F' → Rep X.K B F' H' σ env' → Rp X.K F' v d → Q' v H') → tOp r (tVar i) (canE X.K B tb) σ H Q' := by
  intro F H σ env Q Q' R ht k
  obtain ⟨fr, c, e, ht⟩ := ownC_of ht
  obtain ⟨a, G, z1, z2, z3, rp⟩ := own_view R e
  refine ⟨_, z1, F, env, _, R, ht, fun d env1 v F1 H1 q s1 R1 r1 => ?_⟩
  obtain ⟨fr, c, e, q⟩ := ownC_of q
  obtain ⟨a', G, w1, w2, w3, rp⟩ := own_view R1 e
  rw [z1] at w1; cases w1
  refine h G H1 _ _ _ _ _ _ w3 rp (r1.mono w2) q fun d' v G' H' q st r' => ?_
  obtain ⟨q, r''⟩ := scal_rp (F' := F1) q r'
  exact k d' env1 v F1 H' q s1 (R1.junkS st) r''
theorem op_runR {i : Nat} {s : S2} {r : R2} (h : ∀ (F H : Hp) (x y : V) (d e : D) (Q : D → Prop) (Q' : VK), Same F H → Rp X.K F x d → Rp X.K F y e → s d e Q →
    (∀ d' v F' H', Q d' → Stp F H F' H' → Rp X.K F' v d' → Q' v H') → r x y H Q') : ∀ (F H : Hp) (σ : St) (env : DEnv) (Q : DK) (Q' : VK), Rep X.K B F H σ env → qOpR s ta i env Q →
    (∀ d env' v F' H', Q d env' → Same F F' → Rep X.K B F' H' σ env' → Rp X.K F' v d → Q' v H') → tOp r (canE X.K B ta) (tVar i) σ H Q' := by
  intro F H σ env Q Q' R ht k
  refine ⟨F, env, _, R, ht, fun d env1 v F1 H1 q s1 R1 r1 => ?_⟩
  obtain ⟨fr, c, e, q⟩ := ownC_of q
  obtain ⟨a', G, w1, w2, w3, rp⟩ := own_view R1 e
  refine ⟨_, w1, h G H1 _ _ _ _ _ _ w3 (r1.mono w2) rp q fun d' v G' H' q st r' => ?_⟩
  obtain ⟨q, r''⟩ := scal_rp (F' := F1) q r'
  exact k d' env1 v F1 H' q s1 (R1.junkS st) r''
theorem de_cmpL {i : Nat} {op : CmpOp} {s : S2} {x : Str} {p : Pos} (ho : DOp X (compareOp op) s) (ha : PE X (.Name x p) (tVar i)) (hb : DE X B b tb) (hm : behindInMarks op b = false) : DE X B (.Compare (.Name x p) [op] [b] pos) (qOpL s i tb) := by
  obtain ⟨r, h, hr⟩ := ho
  exact ⟨_, pe_cmpR h ha hb.pe hm, op_runL hr⟩
theorem de_cmpRo {i : Nat} {op : CmpOp} {s : S2} {x : Str} {p : Pos} (ho : DOp X (compareOp op) s) (ha : DE X B a ta) (hb : PE X (.Name x p) (tVar i)) (hm : behindInMarks op (.Name x p) = false) : DE X B (.Compare a [op] [.Name x p] pos) (qOpR s ta i) := by
  obtain ⟨r, h, hr⟩ := ho
  exact ⟨_, pe_cmpR h ha.pe hb hm, op_runR hr⟩
theorem dt_cmpL {i : Nat} {op : CmpOp} {s : S2} {x : Str} {p : Pos} (ho : DOp X (compareOp op) s) (ha : PE X (.Name x p) (tVar i)) (hb : DE X B b tb) (hm : behindInMarks op b = false) : DT X B (.Compare (.Name x p) [op] [b] pos) (qTest (qOpL s i tb)) := by
  obtain ⟨r, h, hr⟩ := ho
  refine ⟨_, pt_cmpR h ha hb.pe hm, fun F H σ env Q Q' R ht k => ?_⟩
  refine op_runL hr F H σ env _ _ R ht fun d env' v F' H' q s' R' r' => ?_
  cases d with
  | bl b => cases r' with
    | bl _ => exact ⟨b, rfl, k b env' F' H' q s' R'⟩
  | _ => exact q.elim
theorem dt_cmpRo {i : Nat} {op : CmpOp} {s : S2} {x : Str} {p : Pos} (ho : DOp X (compareOp op) s) (ha : DE X B a ta) (hb : PE X (.Name x p) (tVar i)) (hm : behindInMarks op (.Name x p) = false) : DT X B (.Compare a [op] [.Name x p] pos) (qTest (qOpR s ta i)) := by
  obtain ⟨r, h, hr⟩ := ho
  refine ⟨_, pt_cmpR h ha.pe hb hm, fun F H σ env Q Q' R ht k => ?_⟩
  refine op_runR hr F H σ env _ _ R ht fun d env' v F' H' q s' R' r' => ?_
  cases d with
  | bl b => cases r' with
    | bl _ => exact ⟨b, rfl, k b env' F' H' q s' R'⟩
  | _ => exact q.elim
end
end L2.DL

namespace L2.DL
open PySem PySem.Spec PyProof.Rows

/-! ### list comprehensions -/
@[simp] def wipeE (env : DEnv) : List Nat → DEnv
  | [] => env
  | v :: vs => (wipeE env vs).set v .none
@[simp] def Cell.dat : Cell → Cell
  | .val d => .val d
  | _ => .none
/-- behind a block: its own names are as they were -/
@[simp] def backE (env env' : DEnv) : List Nat → DEnv
  | [] => env'
  | v :: vs => (backE env env' vs).set v ((env[v]?.getD .none).dat)
def wipeC : List Nat → DEnv → (DEnv → Prop) → Prop
  | [], env, Q => Q env
  | v :: vs, env, Q => wipeC vs env fun e => setC v .none e Q
theorem wipeC_of : ∀ {vs : List Nat} {env : DEnv} {Q : DEnv → Prop}, wipeC vs env Q → Q (wipeE env vs)
  | [], _, _, h => h
  | _ :: vs, _, _, h => setC_of (wipeC_of (vs := vs) h)
def backC : List Nat → DEnv → DEnv → (DEnv → Prop) → Prop
  | [], _, env', Q => Q env'
  | v :: vs, env, env', Q => backC vs env env' fun e => match env[v]? with
    | some c => setC v c.dat e Q
    | none => setC v .none e Q
theorem backC_of : ∀ {vs : List Nat} {env env' : DEnv} {Q : DEnv → Prop}, backC vs env env' Q → Q (backE env env' vs)
  | [], _, _, _, h => h
  | v :: vs, env, env', Q, h => by
    have h := backC_of (vs := vs) h
    show Q ((backE env env' vs).set v ((env[v]?.getD .none).dat))
    split at h
    · rename_i c e
      rw [e]; exact setC_of h
    · rename_i e
      rw [e]; exact setC_of h
section
variable {K : PySem.W.Frag} {B : Bd} {F F' H H' : Hp} {σ σ' : St} {env env' : DEnv}
theorem wipeE_len : ∀ vs : List Nat, (wipeE env vs).length = env.length
  | [] => rfl
  | v :: vs => by unfold wipeE; rw [List.length_set, wipeE_len vs]
theorem wipeE_get {i : Nat} {c : Cell} : ∀ {vs : List Nat}, (wipeE env vs)[i]? = some c → (env[i]? = some c ∧ i ∉ vs) ∨ c = .none
  | [], h => .inl ⟨h, by simp⟩
  | v :: vs, h => by
    unfold wipeE at h
    by_cases q : v = i
    · subst q
      by_cases hl : v < (wipeE env vs).length
      · rw [List.getElem?_set_self hl] at h; cases h; exact .inr rfl
      · rw [List.getElem?_eq_none (by simpa using hl)] at h; cases h
    · rw [List.getElem?_set_ne q] at h
      rcases wipeE_get h with ⟨h1, h2⟩ | h1
      · exact .inl ⟨h1, by simp only [List.mem_cons, not_or]; exact ⟨fun e => q e.symm, h2⟩⟩
      · exact .inr h1
theorem wipe_out' {i : Nat} : ∀ {vs : List Nat}, i ∉ vs → (wipe σ vs)[i]? = σ[i]?
  | [], _ => rfl
  | v :: vs, h => by
    unfold wipe
    simp only [List.mem_cons, not_or] at h
    rw [List.getElem?_set_ne (Ne.symm h.1), wipe_out' h.2]
theorem wipe_in {i : Nat} : ∀ {vs : List Nat}, i ∈ vs → i < σ.length → (wipe σ vs)[i]? = some none
  | v :: vs, h, hl => by
    unfold wipe
    by_cases q : v = i
    · subst q
      rw [List.getElem?_set_self (by rw [wipe_length]; exact hl)]
    · rw [List.getElem?_set_ne q]
      rcases List.mem_cons.mp h with e | e
      · exact absurd e.symm q
      · exact wipe_in e hl
theorem wipe_chg {vs : List Nat} (h : Chg vs σ σ') : wipe σ' vs = wipe σ vs := by
  apply List.ext_getElem?
  intro i
  by_cases hi : i ∈ vs
  · by_cases hl : i < σ.length
    · rw [wipe_in hi hl, wipe_in hi (by rw [h.1]; exact hl)]
    · rw [List.getElem?_eq_none (by rw [wipe_length, h.1]; omega), List.getElem?_eq_none (by rw [wipe_length]; omega)]
  · rw [wipe_out' hi, wipe_out' hi, h.2 i hi]
theorem wipe_wipe {vs : List Nat} : wipe (wipe σ vs) vs = wipe σ vs := wipe_chg ⟨wipe_length σ vs, fun i n => wipe_out' n⟩
/-- into a block -/
theorem Rep.wipe (R : Rep K B F H σ env) (vs : List Nat) : Rep K B F H (wipe σ vs) (wipeE env vs) where
  len := by rw [wipeE_len, wipe_length]; exact R.len
  sub := R.sub
  fix := R.fix
  gro := R.gro
  new := R.new
  mf := R.mf
  mh := R.mh
  m0 := R.m0
  pin := R.pin
  mp := R.mp
  pf := R.pf
  cells := fun i c e => by
    rcases wipeE_get e with ⟨h1, h2⟩ | h1
    · rw [wipe_out' h2]; exact R.cells i c h1
    · subst h1; trivial
  dis := fun i j a c c' e1 e2 w1 w2 s1 s2 => by
    rcases wipeE_get e1 with ⟨h1, h2⟩ | h1
    · rcases wipeE_get e2 with ⟨h3, h4⟩ | h3
      · rw [wipe_out' h2] at s1
        rw [wipe_out' h4] at s2
        exact R.dis i j a c c' h1 h3 w1 w2 s1 s2
      · subst h3; cases w2
    · subst h1; cases w1
theorem backE_len (h : env'.length = env.length) : ∀ vs : List Nat, (backE env env' vs).length = env.length
  | [] => h
  | v :: vs => by unfold backE; rw [List.length_set, backE_len h vs]
theorem backE_get {i : Nat} {c : Cell} : ∀ {vs : List Nat}, (backE env env' vs)[i]? = some c → (env'[i]? = some c ∧ i ∉ vs) ∨ c = ((env[i]?.getD .none).dat)
  | [], h => .inl ⟨h, by simp⟩
  | v :: vs, h => by
    unfold backE at h
    by_cases q : v = i
    · subst q
      by_cases hl : v < (backE env env' vs).length
      · rw [List.getElem?_set_self hl] at h; cases h; exact .inr rfl
      · rw [List.getElem?_eq_none (by simpa using hl)] at h; cases h
    · rw [List.getElem?_set_ne q] at h
      rcases backE_get h with ⟨h1, h2⟩ | h1
      · exact .inl ⟨h1, by simp only [List.mem_cons, not_or]; exact ⟨fun e => q e.symm, h2⟩⟩
      · exact .inr h1
/-- out of a block -/
theorem Rep.back {vs : List Nat} (R : Rep K B F H σ env) (R' : Rep K B F' H' (L2.wipe σ vs) env') (s : Same F F') : Rep K B F' H' σ (backE env env' vs) where
  len := by rw [backE_len (by rw [R'.len, wipe_length, R.len])]; exact R.len
  sub := R'.sub
  fix := R'.fix
  gro := R'.gro
  new := R'.new
  mf := R'.mf
  mh := R'.mh
  m0 := R'.m0
  pin := R'.pin
  mp := R'.mp
  pf := R'.pf
  cells := fun i c e => by
    rcases backE_get e with ⟨h1, h2⟩ | h1
    · have := R'.cells i c h1
      rw [wipe_out' h2] at this; exact this
    · subst h1
      cases z : env[i]? with
      | none => trivial
      | some c =>
        cases c with
        | val d =>
          obtain ⟨v, e1, r⟩ := R.cells i _ z
          exact ⟨v, e1, r.mono s⟩
        | _ => trivial
  dis := fun i j a c c' e1 e2 w1 w2 s1 s2 => by
    have dat : ∀ {i : Nat} {c : Cell}, c = ((env[i]?.getD .none).dat) → c.isOwn = true → False := by
      rintro i c rfl w
      cases z : (env[i]?.getD Cell.none) <;> rw [z] at w <;> cases w
    rcases backE_get e1 with ⟨h1, h2⟩ | h1
    · rcases backE_get e2 with ⟨h3, h4⟩ | h3
      · exact R'.dis i j a c c' h1 h3 w1 w2 (by rw [wipe_out' h2]; exact s1) (by rw [wipe_out' h4]; exact s2)
      · exact (dat h3 w2).elim
    · exact (dat h1 w1).elim
end
/-- the tests of a comprehension: none, one -/
structure DTs (X : Cx) (B : Bd) (ifs : List Expr) (t : TDT) : Prop where
  pt : PTs X ifs (canT X.K B t)
@[simp] def qYes : TDT := fun env Q => Q true env
section
variable {X : Cx} {B : Bd} {e a b c : Expr} {ta tb tc te : TD} {pos : Pos} {st : Stmt} {rest sts : List Stmt} {t u : TDS} {tf : TDF} {es : List Expr} {tr : TDA}
theorem dts_nil : DTs X B [] qYes := ⟨⟨fun pins s σ H Q I ⟨F, env, Qd, R, ht, k⟩ => pts_nil.run pins s σ H Q I (k _ _ F H ht (Same.refl _) R)⟩⟩
theorem dts_one {c : Expr} {t : TDT} (h : DT X B c t) : DTs X B [c] t := ⟨pts_one h.pt⟩
def mapL0 (vs : List Nat) (g : TDG) (tt : TDT) (te : TD) : List D → DEnv → (List D → DEnv → Prop) → Prop
  | [], env, Q => Q [] env
  | d :: r, env, Q => g d env fun env1 => tt env1 fun b env2 => match b with
    | true => te env2 fun x env3 => wipeC vs env3 fun e => mapL0 vs g tt te r e fun xs env4 => Q (x :: xs) env4
    | false => wipeC vs env2 fun e => mapL0 vs g tt te r e Q
@[irreducible] def mapL (vs : List Nat) (g : TDG) (tt : TDT) (te : TD) : List D → DEnv → (List D → DEnv → Prop) → Prop := mapL0 vs g tt te
theorem mapL_nil (vs : List Nat) (g : TDG) (tt : TDT) (te : TD) (env : DEnv) (Q : List D → DEnv → Prop) : mapL vs g tt te [] env Q = Q [] env := by unfold mapL; rfl
theorem mapL_cons (vs : List Nat) (g : TDG) (tt : TDT) (te : TD) (d : D) (r : List D) (env : DEnv) (Q : List D → DEnv → Prop) : mapL vs g tt te (d :: r) env Q = g d env fun env1 => tt env1 fun b env2 => match b with
    | true => te env2 fun x env3 => wipeC vs env3 fun e => mapL vs g tt te r e fun xs env4 => Q (x :: xs) env4
    | false => wipeC vs env2 fun e => mapL vs g tt te r e Q := by unfold mapL; rfl
@[simp] def fComp (ti : TDI) (g : TDG) (tt : TDT) (te : TD) (vs : List Nat) : TDF := fun env Q => ti env fun ds env1 => ds.length ≤ sizeLine ∧ wipeC vs env1 fun e => mapL vs g tt te ds e fun xs env2 => backC vs env1 env2 fun e => Q (.lst xs) e
abbrev Bd.withP (B : Bd) (P : Hp) : Bd := { B with P := P }
theorem Rep.pinned {K : PySem.W.Frag} {F H : Hp} {σ : St} {env : DEnv} {p : Addr} {o : HO} (R : Rep K B F H σ env) (hH : H p = some o) (hF : F p = none) (h0 : B.H0 p = none) (ap : Apart p σ env) : Rep K (B.withP (upd B.P p o)) F H σ env := by
  have own : ∀ {q : Option (Option V)} {i : Nat} {fr : Bool} {c : OC}, (∀ a, q = some (some (.ref a)) → a ≠ p) → OwnOk K B F H q i fr c → OwnOk K (B.withP (upd B.P p o)) F H q i fr c := by
    rintro q i fr c n ⟨a, h1, h2, h3, h4, h5⟩
    exact ⟨a, h1, h2, h3, by show upd B.P p o a = none; rw [upd_ne (n a h1)]; exact h4, h5⟩
  refine ⟨R.len, R.sub, R.fix, R.gro, R.new, R.mf, R.mh, R.m0, fun b x e => ?_, fun b m => ?_, fun b x e => ?_, fun i c e => ?_, R.dis⟩
  · have e : upd B.P p o b = some x := e
    by_cases q : b = p
    · subst q; rw [upd_same] at e; rw [hH]; exact e
    · rw [upd_ne q] at e; exact R.pin _ _ e
  · have q : b ≠ p := fun q => by subst q; exact R.m0 b m h0
    show upd B.P p o b = none
    rw [upd_ne q]; exact R.mp b m
  · have e : upd B.P p o b = some x := e
    by_cases q : b = p
    · subst q; exact hF
    · rw [upd_ne q] at e; exact R.pf b x e
  · have h := R.cells i c e
    cases c with
    | none => trivial
    | val d => exact h
    | own fr c => exact own (fun a q z => ap i _ e rfl (by rw [q, z])) h
    | opq fr φ =>
      obtain ⟨c, h1, h2⟩ := h
      exact ⟨c, h1, own (fun a q z => ap i _ e rfl (by rw [q, z])) h2⟩
theorem Rep.unpinned {K : PySem.W.Frag} {F H : Hp} {σ : St} {env : DEnv} {p : Addr} {o : HO} (hp : B.P p = none) (R : Rep K (B.withP (upd B.P p o)) F H σ env) : Rep K B F H σ env ∧ H p = some o ∧ F p = none ∧ Apart p σ env := by
  have sP : Same B.P (upd B.P p o) := same_upd hp
  have own : ∀ {q : Option (Option V)} {i : Nat} {fr : Bool} {c : OC}, OwnOk K (B.withP (upd B.P p o)) F H q i fr c → OwnOk K B F H q i fr c ∧ ∀ a, q = some (some (.ref a)) → a ≠ p := by
    rintro q i fr c ⟨a, h1, h2, h3, h4, h5⟩
    have h4 : upd B.P p o a = none := h4
    refine ⟨⟨a, h1, h2, h3, sP.free h4, h5⟩, fun b e z => ?_⟩
    rw [h1] at e; cases e
    subst z; rw [upd_same] at h4; cases h4
  refine ⟨⟨R.len, R.sub, R.fix, R.gro, R.new, R.mf, R.mh, R.m0, fun b x e => R.pin _ _ (sP _ _ e), fun b m => sP.free (R.mp b m), fun b x e => R.pf b x (sP _ _ e), fun i c e => ?_, R.dis⟩, R.pin p o upd_same, R.pf p o upd_same, fun i c e w q => ?_⟩
  · have h := R.cells i c e
    cases c with
    | none => trivial
    | val d => exact h
    | own fr c => exact (own h).1
    | opq fr φ => obtain ⟨c, h1, h2⟩ := h; exact ⟨c, h1, (own h2).1⟩
  · have h := R.cells i c e
    cases c with
    | none => cases w
    | val d => cases w
    | own fr c => exact (own h).2 p q rfl
    | opq fr φ => obtain ⟨c, h1, h2⟩ := h; exact (own h2).2 p q rfl
/-- an object that nobody else knows changes -/
theorem Rep.poke {K : PySem.W.Frag} {F H : Hp} {σ : St} {env : DEnv} {p : Addr} {o o' : HO} (R : Rep K B F H σ env) (hH : H p = some o) (hF : F p = none) (h0 : B.H0 p = none) (hP : B.P p = none) (ap : Apart p σ env) : Rep K B F (upd H p o') σ env := by
  refine ⟨R.len, fun b x e => ?_, fun b x e m => ?_, R.gro, R.new, R.mf, fun b m => ?_, R.m0, fun b x e => ?_, R.mp, R.pf, fun i c e => ?_, R.dis⟩
  · have q : b ≠ p := fun q => by subst q; rw [hF] at e; cases e
    rw [upd_ne q]; exact R.sub _ _ e
  · have q : b ≠ p := fun q => by subst q; rw [h0] at e; cases e
    rw [upd_ne q]; exact R.fix b x e m
  · have q : b ≠ p := fun q => by subst q; exact R.m0 b m h0
    rw [upd_ne q]; exact R.mh b m
  · have q : b ≠ p := fun q => by subst q; rw [hP] at e; cases e
    rw [upd_ne q]; exact R.pin _ _ e
  · refine (R.cells i c e).mono (Same.refl _) fun w a s n f => ⟨?_, f⟩
    have q : a ≠ p := fun q => by subst q; exact ap i c e w s
    rw [upd_ne q]
def xE (K : PySem.W.Frag) (B : Bd) (t : TD) : TE := fun σ H Q => ∃ P, canE K (B.withP P) t σ H Q
def xT (K : PySem.W.Frag) (B : Bd) (t : TDT) : TT := fun σ H Q => ∃ P, canT K (B.withP P) t σ H Q
def xG (K : PySem.W.Frag) (B : Bd) (vs : List Nat) (t : TDG) : TG := fun v σ H Q => ∃ P, canG K (B.withP P) vs t v σ H Q
theorem xe' {X : Cx} {K : PySem.W.Frag} {t : TD} (h : ∀ P, PE X e (canE K (B.withP P) t)) : PE X e (xE K B t) := ⟨fun pins s σ H Q I ⟨P, q⟩ => (h P).run pins s σ H Q I q⟩
theorem xt {X : Cx} {K : PySem.W.Frag} {ifs : List Expr} {t : TDT} (h : ∀ P, PTs X ifs (canT K (B.withP P) t)) : PTs X ifs (xT K B t) := ⟨fun pins s σ H Q I ⟨P, q⟩ => (h P).run pins s σ H Q I q⟩
theorem xg {X : Cx} {K : PySem.W.Frag} {vs : List Nat} {t : TDG} (h : ∀ P, PG X e (canG K (B.withP P) vs t)) : PG X e (xG K B vs t) := ⟨fun pins s σ H v u Q I r ⟨P, q⟩ => (h P).run pins s σ H v u Q I r q⟩
theorem comp_read {wi : TI} {ti : TDI} {g : TDG} {tt : TDT} {vs : List Nat}
    (h : ∀ (F H : Hp) (σ : St) (env : DEnv) (Q : List D → DEnv → Prop) (R' : It → Hp → Prop), Rep X.K B F H σ env → ti env Q →
      (∀ ds env' J F' H', Q ds env' → Same F F' → Rep X.K B F' H' σ env' → IterOk X.K J ds F' → R' J H') → wi σ H R') :
    ∀ (F H : Hp) (σ : St) (env : DEnv) (Q : OC → DEnv → Prop) (Q' : VK), Rep X.K B F H σ env → fComp ti g tt te vs env Q →
    (∀ c env' p F' H', Q c env' → Same F F' → Rep X.K B F' H' σ env' → OcOk X.K F' H' p c → F' p = none → B.H0 p = none → B.P p = none → Apart p σ env' → Q' (.ref p) H') → tLc wi (xG X.K B vs g) (xT X.K B tt) (xE X.K B te) vs σ H Q' := by
  intro F H σ env Q Q' R hq k
  refine h F H σ env _ _ R hq fun ds env1 J F1 H1 q1 s1 R1 io => ?_
  obtain ⟨hsz, q1⟩ := q1
  have q1 := wipeC_of q1
  intro D hD
  obtain ⟨n1, n2, n4, n3⟩ := R1.newp hD
  have apw : ∀ {env : DEnv} {σ' : St}, Apart D σ' env → Apart D (wipe σ' vs) (wipeE env vs) := by
    intro env σ' n i c e w q
    rcases wipeE_get e with ⟨h1, h2⟩ | h1
    · rw [wipe_out' h2] at q; exact n i c h1 w q
    · subst h1; cases w
  refine ⟨fun i m H => ∃ F env acc vacc, Same F1 F ∧ Rep X.K B F H (wipe σ vs) env ∧ H D = some (.lst vacc) ∧ RpA X.K F vacc acc ∧ F D = none ∧ Apart D (wipe σ vs) env ∧ acc.length ≤ i ∧
      mapL vs g tt te (ds.drop i) env (fun xs env2 => backC vs env1 env2 fun e => Q (.lst (acc ++ xs)) e) ∧ m = ds.length - i ∧ i ≤ ds.length, ⟨ds.length, F1, wipeE env1 vs, [], [], Same.refl _, (R1.junk hD).wipe vs, upd_same, .nil, n1, apw n3, Nat.le_refl _, by simpa using q1, by simp, Nat.zero_le _⟩, ?_⟩
  rintro i m H3 ⟨F3, env3, acc, vacc, s3, R3, hD3, ra3, fD3, ap3, hle, q3, rfl, hi⟩
  obtain ⟨j1, j2⟩ := io F3 H3 i s3 R3.sub
  by_cases hlt : i < ds.length
  · have hd : ds[i]? = some ds[i] := List.getElem?_eq_getElem hlt
    obtain ⟨go, yl⟩ := j2 _ hd
    rw [List.drop_eq_getElem_cons hlt, mapL_cons] at q3
    refine .inr ⟨go, fun H => ∃ F env acc vacc, Same F1 F ∧ Rep X.K B F H (wipe σ vs) env ∧ H D = some (.lst vacc) ∧ RpA X.K F vacc acc ∧ F D = none ∧ Apart D (wipe σ vs) env ∧ acc.length ≤ i + 1 ∧
      mapL vs g tt te (ds.drop (i + 1)) env (fun xs env2 => backC vs env1 env2 fun e => Q (.lst (acc ++ xs)) e), ?_, ?_⟩
    · rintro H' ⟨F', env', acc', vacc', a1, a2, a3, a4, a5, a6, a7, a8⟩
      exact ⟨ds.length - (i + 1), by omega, F', env', acc', vacc', a1, a2, a3, a4, a5, a6, a7, a8, rfl, hlt⟩
    · intro x H4 y4
      obtain ⟨F4, st4, r4⟩ := yl x H4 y4
      have R3p := R3.pinned hD3 fD3 n2 ap3
      have R4 := R3p.stp st4
      have s34 := st4.same R3p.sub
      refine ⟨upd B.P D (.lst vacc), F4, env3, _, _, R4, r4, q3, fun env5 σ5 q5 c5 R5 => ⟨(wipe_chg c5).trans wipe_wipe, ?_⟩⟩
      have w5 : wipe σ5 vs = wipe σ vs := (wipe_chg c5).trans wipe_wipe
      refine ⟨upd B.P D (.lst vacc), F4, env5, _, R5, q5, fun b env6 F6 H6 q6 s6 R6 => ?_⟩
      cases b with
      | true =>
        refine iteT ⟨upd B.P D (.lst vacc), F6, env6, _, R6, q6, fun d env7 v7 F7 H7 q7 s7 R7 r7 => ?_⟩
        obtain ⟨R7', hD7, fD7, ap7⟩ := Rep.unpinned n4 R7
        refine ⟨vacc, hD7, ?_, ?_⟩
        · rw [ra3.length]; omega
        · have ss : Same F3 F7 := (s34.trans s6).trans s7
          have R8 := R7'.wipe vs
          rw [w5] at R8
          have ap8 := apw ap7
          rw [w5] at ap8
          refine ⟨F7, wipeE env7 vs, acc ++ [d], vacc ++ [v7], s3.trans ss, ?_, upd_same, (ra3.mono ss).append (.one r7), fD7, ap8, by rw [List.length_append]; show acc.length + 1 ≤ i + 1; omega, ?_⟩
          · exact R8.poke hD7 fD7 n2 n4 ap8
          · simpa [List.append_assoc] using wipeC_of q7
      | false =>
        refine iteF ?_
        obtain ⟨R7', hD7, fD7, ap7⟩ := Rep.unpinned n4 R6
        have R8 := R7'.wipe vs
        rw [w5] at R8
        have ap8 := apw ap7
        rw [w5] at ap8
        exact ⟨F6, wipeE env6 vs, acc, vacc, s3.trans (s34.trans s6), R8, hD7, ra3.mono (s34.trans s6), fD7, ap8, by omega, wipeC_of q6⟩
  · have e : i = ds.length := by omega
    refine .inl ⟨j1 e, ?_⟩
    rw [e, List.drop_length, mapL_nil] at q3
    have q3 : Q (.lst (acc ++ [])) (backE env1 env3 vs) := backC_of q3
    rw [List.append_nil] at q3
    have RB := R1.back R3 s3
    refine k _ _ D F3 H3 q3 (s1.trans s3) RB ⟨vacc, hD3, ra3⟩ fD3 n2 n4 ?_
    intro j c ec w q
    rcases backE_get ec with ⟨h1, h2⟩ | h1
    · exact ap3 j c h1 w (by rw [wipe_out' h2]; exact q)
    · subst h1
      cases z : (env1[j]?.getD Cell.none) <;> rw [z] at w <;> cases w
theorem df_comp {elt tg iter : Expr} {ifs : List Expr} {scope : Scope} {own : List (Str × Nat)} {ti : TDI} {g : TDG} {tt : TDT} (hc : X.calm = true) (hN : X.N.Nodup) (hi : DI X B tg iter ti) (ok : BlkOk X.N X.env.scope scope own)
    (hg : ∀ (P : Hp) (s : Shared) (H : Hp) (C : Addr) (cl : List (Str × Addr)) (fp : List Addr), DG (X.blk s H scope (compEnvC scope cl C X.env) fp) (B.withP P) tg (own.map (·.2)) g) (ht : ∀ (P : Hp) (s : Shared) (H : Hp) (C : Addr) (cl : List (Str × Addr)) (fp : List Addr), DTs (X.blk s H scope (compEnvC scope cl C X.env) fp) (B.withP P) ifs tt)
    (he : ∀ (P : Hp) (s : Shared) (H : Hp) (C : Addr) (cl : List (Str × Addr)) (fp : List Addr), DE (X.blk s H scope (compEnvC scope cl C X.env) fp) (B.withP P) elt te) (hs : ∀ x, foldedSetIterable iter X.env x = pure x := by intro _; rfl) :
    DF X B (.ListComp elt [⟨tg, iter, ifs, 0⟩] scope pos) (fComp ti g tt te (own.map (·.2))) := by
  obtain ⟨wi, p, h⟩ := hi.ex
  exact ⟨_, pe_lc (g := xG X.K B (own.map (·.2)) g) (tt := xT X.K B tt) (te := xE X.K B te) hc hN p ok (fun s H C cl fp => xg (fun P => (hg P s H C cl fp).pg)) (fun s H C cl fp => xt (fun P => (ht P s H C cl fp).pt)) (fun s H C cl fp => xe' (fun P => (he P s H C cl fp).pe)) hs, comp_read h⟩
/-- x = [..] on one line -/
theorem ds_ownLc {i : Nat} {y : Str} {py spos : Pos} {elt tg iter : Expr} {ifs : List Expr} {scope : Scope} {own : List (Str × Nat)} {ti : TDI} {g : TDG} {tt : TDT} (hc : X.calm = true) (hN : X.N.Nodup) (hi : DI X B tg iter ti) (ok : BlkOk X.N X.env.scope scope own)
    (hg : ∀ (P : Hp) (s : Shared) (H : Hp) (C : Addr) (cl : List (Str × Addr)) (fp : List Addr), DG (X.blk s H scope (compEnvC scope cl C X.env) fp) (B.withP P) tg (own.map (·.2)) g) (ht : ∀ (P : Hp) (s : Shared) (H : Hp) (C : Addr) (cl : List (Str × Addr)) (fp : List Addr), DTs (X.blk s H scope (compEnvC scope cl C X.env) fp) (B.withP P) ifs tt)
    (he : ∀ (P : Hp) (s : Shared) (H : Hp) (C : Addr) (cl : List (Str × Addr)) (fp : List Addr), DE (X.blk s H scope (compEnvC scope cl C X.env) fp) (B.withP P) elt te)
    (hsw : swapsWith (.ListComp elt [⟨tg, iter, ifs, 0⟩] scope pos) (some (.Name y py)) spos.line X.env = pure true) (hy : X.N[i]? = some y := by rfl) (hyl : X.env.scope.names.lookup y = some .local := by rfl) (hs : ∀ x, foldedSetIterable iter X.env x = pure x := by intro _; rfl) :
    DS X B (.Assign [.Name y py] (.ListComp elt [⟨tg, iter, ifs, 0⟩] scope pos) spos) (sOwn i (fComp ti g tt te (own.map (·.2)))) := by
  obtain ⟨wi, p, h⟩ := hi.ex
  refine ⟨_, ps_setLc (i := i) (g := xG X.K B (own.map (·.2)) g) (tt := xT X.K B tt) (te := xE X.K B te) hc hN hy hyl hsw p ok (fun s H C cl fp => xg (fun P => (hg P s H C cl fp).pg)) (fun s H C cl fp => xt (fun P => (ht P s H C cl fp).pt)) (fun s H C cl fp => xe' (fun P => (he P s H C cl fp).pe)) hs, fun F H σ env DD DH R ht l => ?_⟩
  refine comp_read h F H σ env _ _ R ht fun c env1 p F1 H1 q s1 R1 oc hF h0 hP ap => ?_
  exact l.nx _ _ F1 H1 (setC_of q) s1 (R1.setOwn i oc hF h0 hP ap)
/-- what was made is kept as data at once -/
@[simp] def sFzAt (i : Nat) (t : TDS) : TDS := fun DD env => t { DD with nx := fun env1 => match env1[i]? with
  | some (.own true c) => setC i (.val c.frz) env1 DD.nx
  | _ => False } env
theorem ds_keep (i : Nat) (h : DS X B st t) : DS X B st (sFzAt i t) := by
  obtain ⟨ts, p, h⟩ := h.ex
  refine ⟨ts, p, fun F H σ env DD DH R ht l => ?_⟩
  refine h F H σ env _ _ R ht ⟨fun env' σ' F' H' q s R' => ?_, l.rt, l.bk, l.ct, l.ro⟩
  have q : (match env'[i]? with
    | some (.own true c) => setC i (.val c.frz) env' DD.nx
    | _ => False) := q
  split at q
  · rename_i c e
    obtain ⟨F2, s2, R2⟩ := R'.freezeAt e
    exact l.nx _ σ' F2 H' (setC_of q) (s.trans s2) R2
  · exact q.elim
end
end L2.DL

namespace L2.DL
open PySem PySem.Spec PyProof.Rows

/-! ### what a def does with the contents of its parameters: the answer, and the contents behind (none where it is data) -/
abbrev FSpec := List Cell → (D → List Cell → Prop) → Prop
def spD (K : PySem.W.Frag) (n : Nat) (spec : FSpec) : Sp := fun vs H Q _ => ∃ (F : Hp) (M : Addr → Prop) (cs : List Cell), vs.length = n ∧ Rep K ⟨M, H, F, vs, fun _ => none⟩ F H (vs.map some) cs ∧
  ∃ Qd, spec cs Qd ∧ ∀ d cs' v F' H', Qd d cs' → Same F F' → Rep K ⟨M, H, F, vs, fun _ => none⟩ F' H' (vs.map some) cs' → Rp K F' v d → Q v H'
/-- weaker knowledge of a content -/
@[simp] def Cell.le : Cell → Cell → Prop
  | _, .none => True
  | .own false c, .own false c' => c = c'
  | .own false c, .opq false φ => φ c
  | .opq false φ, .opq false φ' => ∀ c, φ c → φ' c
  | _, _ => False
@[simp] def Outs : DEnv → List Cell → Prop
  | _, [] => True
  | e :: env, c :: cs => e.le c ∧ Outs env cs
  | [], _ :: _ => False
theorem Outs.get : ∀ {env : DEnv} {cs' : List Cell}, Outs env cs' → ∀ (i : Nat) (c : Cell), cs'[i]? = some c → ∃ e, env[i]? = some e ∧ e.le c
  | _, [], _, i, c, e => by simp at e
  | e :: env, c :: cs, h, 0, c', q => by
    rw [List.getElem?_cons_zero] at q; cases q
    exact ⟨e, rfl, h.1⟩
  | e :: env, c :: cs, h, i + 1, c', q => Outs.get (env := env) (cs' := cs) h.2 i c' (by simpa using q)
  | [], _ :: _, h, _, _, _ => h.elim
@[simp] def fnEnds (n : Nat) (Q : D → List Cell → Prop) : DEnds := { nx := fun env => ∃ cs', cs'.length = n ∧ Outs env cs' ∧ Q .non cs', rt := fun d env => ∃ cs', cs'.length = n ∧ Outs env cs' ∧ Q d cs' }
section
variable {K : PySem.W.Frag} {B : Bd} {F F' H H' : Hp} {σ σ' : St} {env env' : DEnv}
theorem Rep.pad (R : Rep K B F H σ env) (k : Nat) : Rep K B F H (σ ++ List.replicate k none) (env ++ List.replicate k .none) where
  len := by rw [List.length_append, List.length_append, List.length_replicate, List.length_replicate, R.len]
  sub := R.sub
  fix := R.fix
  gro := R.gro
  new := R.new
  mf := R.mf
  mh := R.mh
  m0 := R.m0
  pin := R.pin
  mp := R.mp
  pf := R.pf
  cells := fun i c e => by
    by_cases hl : i < env.length
    · rw [List.getElem?_append_left hl] at e
      rw [List.getElem?_append_left (by rw [← R.len]; exact hl)]
      exact R.cells i c e
    · rw [List.getElem?_append_right (by omega), List.getElem?_replicate] at e
      split at e
      · cases e; trivial
      · cases e
  dis := fun i j a c c' e1 e2 w1 w2 s1 s2 => by
    have low : ∀ {i : Nat} {c : Cell}, (env ++ List.replicate k Cell.none)[i]? = some c → c.isOwn = true → i < env.length := by
      intro i c e w
      by_cases hl : i < env.length
      · exact hl
      · rw [List.getElem?_append_right (by omega), List.getElem?_replicate] at e
        split at e
        · cases e; cases w
        · cases e
    have l1 := low e1 w1
    have l2 := low e2 w2
    rw [List.getElem?_append_left l1] at e1
    rw [List.getElem?_append_left l2] at e2
    rw [List.getElem?_append_left (by rw [← R.len]; exact l1)] at s1
    rw [List.getElem?_append_left (by rw [← R.len]; exact l2)] at s2
    exact R.dis i j a c c' e1 e2 w1 w2 s1 s2
theorem le_own {e c : Cell} {o : Option (Option V)} {i : Nat} (h : e.le c) (w : c.isOwn = true) (ok : CellOk K B F H o i e) : CellOk K B F H o i c ∧ e.isOwn = true ∧ ∃ a, o = some (some (.ref a)) ∧ B.par[i]? = some (.ref a) := by
  have key : ∀ {x : OC}, OwnOk K B F H o i false x → ∃ a, o = some (some (.ref a)) ∧ B.par[i]? = some (.ref a) := by
    rintro x ⟨a, h1, _, _, _, h4⟩
    exact ⟨a, h1, by simpa using h4.2⟩
  cases c with
  | none => cases w
  | val d => cases w
  | own fr x =>
    cases e with
    | own fr' x' =>
      cases fr' with
      | true => cases fr <;> exact False.elim h
      | false =>
        cases fr with
        | true => exact False.elim h
        | false => obtain rfl : x' = x := h; exact ⟨ok, rfl, key ok⟩
    | opq fr' φ => cases fr' <;> cases fr <;> exact False.elim h
    | none => cases fr <;> exact False.elim h
    | val d => cases fr <;> exact False.elim h
  | opq fr φ =>
    cases e with
    | own fr' x' =>
      cases fr' with
      | true => cases fr <;> exact False.elim h
      | false =>
        cases fr with
        | true => exact False.elim h
        | false => exact ⟨⟨x', h, ok⟩, rfl, key ok⟩
    | opq fr' φ' =>
      cases fr' with
      | true => cases fr <;> exact False.elim h
      | false =>
        cases fr with
        | true => exact False.elim h
        | false =>
          obtain ⟨c, h1, h2⟩ := ok
          exact ⟨⟨c, h c h1, h2⟩, rfl, key h2⟩
    | none => cases fr <;> exact False.elim h
    | val d => cases fr <;> exact False.elim h
/-- the parameters' contents behind the body -/
theorem Rep.outs {vs : List V} {cs' : List Cell} (R : Rep K B F' H' σ' env') (hv : B.par = vs) (hl : cs'.length = vs.length) (h : Outs env' cs') : Rep K B F' H' (vs.map some) cs' where
  len := by rw [List.length_map]; exact hl
  sub := R.sub
  fix := R.fix
  gro := R.gro
  new := R.new
  mf := R.mf
  mh := R.mh
  m0 := R.m0
  pin := R.pin
  mp := R.mp
  pf := R.pf
  cells := fun i c e => by
    obtain ⟨e', h1, h2⟩ := h.get i c e
    cases w : c.isOwn with
    | true =>
      obtain ⟨k1, _, a, k3, k4⟩ := le_own h2 w (R.cells i e' h1)
      have : (vs.map some)[i]? = σ'[i]? := by
        rw [List.getElem?_map, ← hv, k4, k3]; rfl
      rw [this]; exact k1
    | false =>
      cases c with
      | none => trivial
      | val d => cases e' <;> exact False.elim h2
      | own _ _ => cases w
      | opq _ _ => cases w
  dis := fun i j a c c' e1 e2 w1 w2 s1 s2 => by
    obtain ⟨x1, h1, l1⟩ := h.get i c e1
    obtain ⟨x2, h2, l2⟩ := h.get j c' e2
    obtain ⟨_, o1, a1, k1, p1⟩ := le_own l1 w1 (R.cells i x1 h1)
    obtain ⟨_, o2, a2, k2, p2⟩ := le_own l2 w2 (R.cells j x2 h2)
    rw [List.getElem?_map, ← hv, p1] at s1
    rw [List.getElem?_map, ← hv, p2] at s2
    cases s1; cases s2
    exact R.dis i j a x1 x2 h1 h2 o1 o2 k1 k2
end
section
variable {P : Program} {w : World} {K : PySem.W.Frag} {mg : Str → Option Value} {base : Heap}
/-- THE RULE for a def -/
theorem okD {x qual : Str} {st : Stmt} {f : Addr} {fd : FuncData} {N ps : List Str} {k : Nat} {spec : FSpec} (F : Fun K x qual st f fd) (S : FnScope N ps (defScope st))
    (hbody : ∀ (cdv : Value) (A : Around) (outer : List Env) (s : Shared) (H : Hp) (E : XK) (B : Bd) (cs : List Cell) (Q : D → List Cell → Prop), Room k (A.deeper (envOfC qual (defScope st) s.heap.objs.size f cdv)) → cs.length = ps.length → spec cs Q →
      ∃ t, DSs (cxOf CX0 P w K mg base N qual (defScope st) f cdv A outer s H E).nox B (defBody st) t ∧ t (fnEnds ps.length Q) (cs ++ List.replicate (N.length - ps.length) .none)) :
    FnOk P w K mg base CX0 (k + 1) f fd ps (spD K ps.length spec) := by
  refine F.ok S (fun vs H Q E h => ?_) (fun cdv A outer s H vs Q E hr h => ?_)
  · obtain ⟨_, _, _, h, _⟩ := h; exact h
  · obtain ⟨F0, M, cs, hl, R, Qd, hs, hq⟩ := h
    have hcs : cs.length = ps.length := by rw [R.len, List.length_map, hl]
    obtain ⟨t, d, ht⟩ := hbody cdv A outer s H E ⟨M, H, F0, vs, fun _ => none⟩ cs _ hr hcs hs
    obtain ⟨ts, p, h⟩ := d.ex
    refine ⟨ts, p, ?_⟩
    have R0 := R.pad (N.length - ps.length)
    have e0 : start N vs = vs.map some ++ List.replicate (N.length - ps.length) none := by unfold start; rw [hl]
    rw [e0]
    refine h F0 H _ _ _ _ R0 ht ⟨?_, ?_, fun _ _ _ _ q => q.elim, fun _ _ _ _ q => q.elim, fun _ _ _ _ _ _ q => q.elim⟩
    · rintro env' σ' F' H' ⟨cs', l', o', q'⟩ s' R'
      exact hq _ _ .non F' H' q' s' (R'.outs rfl (l'.trans hl.symm) o') .non
    · rintro d env' v σ' F' H' ⟨cs', l', o', q'⟩ s' R' r'
      exact hq _ _ v F' H' q' s' (R'.outs rfl (l'.trans hl.symm) o') r'
end

/-! ### a call: arguments by their data, or a name's own object handed in -/
inductive Arg where
  | d (x : D) | s (i : Nat)
abbrev TDR := DEnv → (List Arg → DEnv → Prop) → Prop
def ArgR (K : PySem.W.Frag) (F : Hp) (σ : St) (v : V) : Arg → Prop
  | .d x => Rp K F v x
  | .s i => σ[i]? = some (some v)
abbrev ArgsR (K : PySem.W.Frag) (F : Hp) (σ : St) : List V → List Arg → Prop := Paired (ArgR K F σ)
structure DR (X : Cx) (B : Bd) (es : List Expr) (t : TDR) : Prop where
  ex : ∃ te, PA X es te ∧ ∀ (F H : Hp) (σ : St) (env : DEnv) (Q : List Arg → DEnv → Prop) (Q' : List V → Hp → Prop), Rep X.K B F H σ env → t env Q →
    (∀ as env' vs F' H', Q as env' → Same F F' → Rep X.K B F' H' σ env' → ArgsR X.K F' σ vs as → Q' vs H') → te σ H Q'
@[simp] def isS (i : Nat) : Arg → Bool
  | .s j => i == j
  | .d _ => false
@[simp] def Cell.hand : Cell → Cell
  | .own _ c => .own false c
  | .opq _ φ => .opq false φ
  | c => c
@[simp] def Cell.fr : Cell → Bool
  | .own b _ => b
  | .opq b _ => b
  | _ => false
@[simp] def Cell.take (old new : Cell) : Cell := match old.isOwn, new with
  | true, .own _ c => .own old.fr c
  | true, .opq _ φ => .opq old.fr φ
  | true, _ => .none
  | false, _ => old
@[simp] def handIn (env : DEnv) (as : List Arg) : List Cell := as.map fun
  | .d x => .val x
  | .s i => (env[i]?.getD .none).hand
@[simp] def takeBack (env : DEnv) (as : List Arg) (cs : List Cell) : DEnv := env.mapIdx fun i c => match as.findIdx? (isS i) with
  | some k => c.take (cs.getD k .none)
  | none => c
@[simp] def slotsOf (as : List Arg) : List Nat := as.filterMap fun
  | .s i => some i
  | .d _ => none
section
variable {X : Cx} {B : Bd} {e a b c : Expr} {ta tb tc te : TD} {pos : Pos} {es : List Expr} {tr : TDR}
@[simp] def rNil : TDR := fun env Q => Q [] env
@[simp] def rCons (ta : TD) (tr : TDR) : TDR := fun env Q => ta env fun d env1 => tr env1 fun as env2 => Q (.d d :: as) env2
@[simp] def rSlot (i : Nat) (tr : TDR) : TDR := fun env Q => match env[i]? with
  | some c => (match c.isOwn with
    | true => tr env fun as env2 => Q (.s i :: as) env2
    | false => False)
  | none => False
theorem dr_nil : DR X B [] rNil := ⟨_, pa_nil, fun F H σ env Q Q' R ht k => k [] env [] F H ht (Same.refl _) R .nil⟩
theorem ArgR.mono {K : PySem.W.Frag} {F F' : Hp} {σ : St} {v : V} {a : Arg} (s : Same F F') (h : ArgR K F σ v a) : ArgR K F' σ v a := by
  cases a with
  | d x => exact Rp.mono s h
  | s i => exact h
theorem dr_cons (ha : DE X B e ta) (hr : DR X B es tr) (hs : starEach (e :: es) X.env = (false, eval e X.env) :: starEach es X.env := by rfl) : DR X B (e :: es) (rCons ta tr) := by
  obtain ⟨te, p, h⟩ := ha.ex
  obtain ⟨te2, p2, h2⟩ := hr.ex
  refine ⟨_, pa_cons p p2 hs, fun F H σ env Q Q' R ht k => ?_⟩
  refine h F H σ env _ _ R ht fun d env1 v F1 H1 q1 s1 R1 r1 => ?_
  refine h2 F1 H1 σ env1 _ _ R1 q1 fun ds env2 vs F2 H2 q2 s2 R2 r2 => ?_
  exact k _ env2 _ F2 H2 q2 (s1.trans s2) R2 (.cons (Rp.mono s2 r1) r2)
theorem dr_slot {i : Nat} {x : Str} {p : Pos} (ha : PE X (.Name x p) (tVar i)) (hr : DR X B es tr) (hs : starEach (.Name x p :: es) X.env = (false, eval (.Name x p) X.env) :: starEach es X.env := by rfl) : DR X B (.Name x p :: es) (rSlot i tr) := by
  obtain ⟨te2, p2, h2⟩ := hr.ex
  refine ⟨_, pa_cons ha p2 hs, fun F H σ env Q Q' R ht k => ?_⟩
  have ht : (∃ c, env[i]? = some c ∧ c.isOwn = true) ∧ tr env fun as env2 => Q (.s i :: as) env2 := by
    unfold rSlot at ht
    split at ht
    · rename_i c hc
      split at ht
      · rename_i hw; exact ⟨⟨c, hc, hw⟩, ht⟩
      · exact ht.elim
    · exact ht.elim
  obtain ⟨⟨c, e, w⟩, ht⟩ := ht
  obtain ⟨a, s, _⟩ := (R.cells i c e).own_addr w
  refine ⟨_, s, h2 F H σ env _ _ R ht fun ds env2 vs F2 H2 q2 s2 R2 r2 => ?_⟩
  exact k _ env2 _ F2 H2 q2 s2 R2 (.cons s r2)
theorem mem_slots {i : Nat} {as : List Arg} : i ∈ slotsOf as ↔ .s i ∈ as := by
  unfold slotsOf
  rw [List.mem_filterMap]
  constructor
  · rintro ⟨a, h, e⟩
    cases a with
    | s j => cases e; exact h
    | d x => cases e
  · exact fun h => ⟨_, h, rfl⟩
theorem slots_inj {as : List Arg} {i k l : Nat} (nd : (slotsOf as).Nodup) (h1 : as[k]? = some (.s i)) (h2 : as[l]? = some (.s i)) : k = l := by
  induction as generalizing k l with
  | nil => simp at h1
  | cons a r ih =>
    have nd' : (slotsOf r).Nodup := by
      cases a with
      | d x => exact nd
      | s j => exact (List.nodup_cons.mp nd).2
    cases k with
    | zero =>
      cases l with
      | zero => rfl
      | succ l =>
        simp at h1 h2
        subst h1
        have : i ∈ slotsOf r := mem_slots.mpr (List.mem_of_getElem? h2)
        exact absurd this (List.nodup_cons.mp nd).1
    | succ k =>
      cases l with
      | zero =>
        simp at h1 h2
        subst h2
        have : i ∈ slotsOf r := mem_slots.mpr (List.mem_of_getElem? h1)
        exact absurd this (List.nodup_cons.mp nd).1
      | succ l => exact congrArg (· + 1) (ih (k := k) (l := l) nd' (by simpa using h1) (by simpa using h2))
theorem args_get {K : PySem.W.Frag} {F : Hp} {σ : St} : ∀ {vs : List V} {as : List Arg} {k : Nat} {a : Arg}, ArgsR K F σ vs as → as[k]? = some a → ∃ v, vs[k]? = some v ∧ ArgR K F σ v a
  | _, _, _, _, .nil, e => by simp at e
  | _, _, 0, _, .cons r _, e => by simp at e; subst e; exact ⟨_, rfl, r⟩
  | _, _, k + 1, a, .cons _ t, e => by
    obtain ⟨u, h1, h2⟩ := args_get (k := k) (a := a) t (by simpa using e)
    exact ⟨u, by simpa using h1, h2⟩
end
end L2.DL

namespace L2.DL
open PySem PySem.Spec PyProof.Rows

section
variable {K : PySem.W.Frag} {B : Bd} {F H : Hp} {σ : St} {env : DEnv} {vs : List V} {as : List Arg}
theorem hand_own {c : Cell} (w : c.hand.isOwn = true) : c.isOwn = true := by
  cases c with
  | none => cases w
  | val d => cases w
  | own _ _ => rfl
  | opq _ _ => rfl
/-- the addresses handed in -/
def HandM (σ : St) (env : DEnv) (as : List Arg) : Addr → Prop := fun b => ∃ i c, Arg.s i ∈ as ∧ env[i]? = some c ∧ c.isOwn = true ∧ σ[i]? = some (some (.ref b))
theorem HandM.addr (R : Rep K B F H σ env) {b : Addr} (h : HandM σ env as b) : F b = none ∧ H b ≠ none ∧ B.P b = none ∧ (B.H0 b = none ∨ B.M b) := by
  obtain ⟨i, c, _, e, w, s⟩ := h
  obtain ⟨a, s', r⟩ := (R.cells i c e).own_addr w
  rw [s] at s'; cases s'
  exact r
theorem handIn_get {k : Nat} {c : Cell} (e : (handIn env as)[k]? = some c) : ∃ a, as[k]? = some a ∧ c = (match a with | .d x => .val x | .s i => (env[i]?.getD .none).hand) := by
  unfold handIn at e
  rw [List.getElem?_map] at e
  cases z : as[k]? with
  | none => rw [z] at e; cases e
  | some a => rw [z] at e; cases e; exact ⟨a, rfl, by cases a <;> rfl⟩
theorem Rep.handed (R : Rep K B F H σ env) (ra : ArgsR K F σ vs as) (nd : (slotsOf as).Nodup) : Rep K ⟨HandM σ env as, H, F, vs, fun _ => none⟩ F H (vs.map some) (handIn env as) where
  len := by unfold handIn; rw [List.length_map, List.length_map, Paired.length ra]
  sub := R.sub
  fix := fun b o e _ => e
  gro := Same.refl _
  new := fun b e n => absurd e n
  mf := fun b m => (m.addr R).1
  mh := fun b m => (m.addr R).2.1
  m0 := fun b m => (m.addr R).2.1
  pin := fun b o e => by cases e
  mp := fun _ _ => rfl
  pf := fun b o e => by cases e
  cells := fun k c e => by
    obtain ⟨a, ea, rfl⟩ := handIn_get e
    obtain ⟨v, ev, rv⟩ := args_get ra ea
    have ev' : (vs.map some)[k]? = some (some v) := by rw [List.getElem?_map, ev]; rfl
    cases a with
    | d x => exact ⟨v, ev', rv⟩
    | s i =>
      have sv : σ[i]? = some (some v) := rv
      show CellOk _ _ _ _ _ _ ((env[i]?.getD .none).hand)
      cases z : env[i]? with
      | none => trivial
      | some c0 =>
        have h := R.cells i c0 z
        have own : ∀ {fr : Bool} {c : OC}, c0.isOwn = true → OwnOk K B F H σ[i]? i fr c → OwnOk K ⟨HandM σ env as, H, F, vs, fun _ => none⟩ F H (vs.map some)[k]? k false c := by
          rintro fr c w ⟨a, h1, h2, h3, h4, h5⟩
          rw [sv] at h1; cases h1
          exact ⟨a, ev', h2, h3, rfl, by simpa using ⟨⟨i, c0, List.mem_of_getElem? ea, z, w, sv⟩, ev⟩⟩
        cases c0 with
        | none => trivial
        | val d =>
          obtain ⟨v', h1, h2⟩ := h
          rw [sv] at h1; cases h1
          exact ⟨v, ev', h2⟩
        | own fr c => exact own rfl h
        | opq fr φ => obtain ⟨c, h1, h2⟩ := h; exact ⟨c, h1, own rfl h2⟩
  dis := fun k l b c c' e1 e2 w1 w2 s1 s2 => by
    have key : ∀ {k : Nat} {c : Cell}, (handIn env as)[k]? = some c → c.isOwn = true → (vs.map some)[k]? = some (some (.ref b)) → ∃ i c0, as[k]? = some (.s i) ∧ env[i]? = some c0 ∧ c0.isOwn = true ∧ σ[i]? = some (some (.ref b)) := by
      intro k c e w s
      obtain ⟨a, ea, rfl⟩ := handIn_get e
      obtain ⟨v, ev, rv⟩ := args_get ra ea
      rw [List.getElem?_map, ev] at s
      cases s
      cases a with
      | d x => cases w
      | s i =>
        have w : ((env[i]?.getD .none).hand).isOwn = true := w
        cases z : env[i]? with
        | none => rw [z] at w; cases w
        | some c0 =>
          rw [z] at w
          exact ⟨i, c0, ea, z, hand_own w, rv⟩
    obtain ⟨i, c0, a1, z1, o1, t1⟩ := key e1 w1 s1
    obtain ⟨j, c1, a2, z2, o2, t2⟩ := key e2 w2 s2
    have := R.dis i j b c0 c1 z1 z2 o1 o2 t1 t2
    subst this
    exact slots_inj nd a1 a2
theorem find_slot {i k : Nat} (h : as.findIdx? (isS i) = some k) : as[k]? = some (.s i) := by
  obtain ⟨hk, h1, _⟩ := List.findIdx?_eq_some_iff_getElem.mp h
  rw [List.getElem?_eq_getElem hk]
  cases z : as[k] with
  | d x => rw [z] at h1; cases h1
  | s j => rw [z] at h1; rw [eq_of_beq (show (i == j) = true from h1)]
theorem find_none {i : Nat} (h : as.findIdx? (isS i) = none) : Arg.s i ∉ as := fun m => by
  have := List.findIdx?_eq_none_iff.mp h _ m
  simp [isS] at this
theorem Rep.taken {F' H' : Hp} {cs : List Cell} (R : Rep K B F H σ env) (ra : ArgsR K F σ vs as) (s : Same F F') (R' : Rep K ⟨HandM σ env as, H, F, vs, fun _ => none⟩ F' H' (vs.map some) cs) : Rep K B F' H' σ (takeBack env as cs) := by
  have newF : ∀ b, F b = none → H b ≠ none → F' b = none := fun b f h => by
    cases z : F' b with
    | none => rfl
    | some o => exact absurd (R'.new b f (by rw [z]; simp)) h
  have keep : ∀ b o, H b = some o → ¬ HandM σ env as b → H' b = some o := R'.fix
  have nget : ∀ {i : Nat} {c : Cell}, (takeBack env as cs)[i]? = some c → ∃ c0, env[i]? = some c0 ∧ c = (match as.findIdx? (isS i) with | some k => c0.take (cs.getD k .none) | none => c0) := by
    intro i c e
    unfold takeBack at e
    rw [List.getElem?_mapIdx] at e
    cases z : env[i]? with
    | none => rw [z] at e; cases e
    | some c0 => rw [z] at e; cases e; exact ⟨c0, rfl, rfl⟩
  have oldOwn : ∀ {i : Nat} {c0 : Cell}, ((match as.findIdx? (isS i) with | some k => c0.take (cs.getD k .none) | none => c0) : Cell).isOwn = true → c0.isOwn = true := by
    intro i c0 w
    cases z : as.findIdx? (isS i) with
    | none => rw [z] at w; exact w
    | some k =>
      rw [z] at w
      cases y : c0.isOwn with
      | true => rfl
      | false =>
        have w : (c0.take (cs.getD k .none)).isOwn = true := w
        unfold Cell.take at w
        rw [y] at w
        generalize cs.getD k Cell.none = cc at w
        cases cc <;> (have w' : c0.isOwn = true := w; rw [y] at w'; cases w')
  refine ⟨?_, R'.sub, fun b o e m => ?_, R.gro.trans s, fun b e n => ?_, fun b m => newF b (R.mf b m) (R.mh b m), fun b m => ?_, R.m0, fun b o e => ?_, R.mp, fun b o e => newF b (R.pf b o e) (by rw [R.pin b o e]; simp), fun i c e => ?_, ?_⟩
  · unfold takeBack; rw [List.length_mapIdx]; exact R.len
  · refine keep b o (R.fix b o e m) fun h => ?_
    rcases (h.addr R).2.2.2 with q | q
    · rw [q] at e; cases e
    · exact m q
  · by_cases q : F b = none
    · exact (R.newp (R'.new b q n)).2.1
    · exact R.new b e q
  · by_cases q : HandM σ env as b
    · exact R'.mh b q
    · cases z : H b with
      | none => exact absurd z (R.mh b m)
      | some o => rw [keep b o z q]; simp
  · refine keep b o (R.pin b o e) fun h => ?_
    have := (h.addr R).2.2.1
    rw [this] at e; cases e
  · obtain ⟨c0, e0, rfl⟩ := nget e
    have h0 := R.cells i c0 e0
    cases z : as.findIdx? (isS i) with
    | none =>
      refine h0.mono s fun w a sa n f => ⟨?_, newF a f n⟩
      cases y : H a with
      | none => exact absurd y n
      | some o =>
        refine keep a o y ?_
        rintro ⟨j, c1, m1, e1, w1, s1⟩
        have := R.dis i j a c0 c1 e0 e1 w w1 sa s1
        subst this
        exact find_none z m1
    | some k =>
      have ea := find_slot z
      obtain ⟨v, ev, rv⟩ := args_get ra ea
      have sv : σ[i]? = some (some v) := rv
      show CellOk K B F' H' σ[i]? i (c0.take (cs.getD k .none))
      unfold Cell.take
      cases y : c0.isOwn with
      | false =>
        have mn : CellOk K B F' H' σ[i]? i c0 := h0.mono s fun w => by rw [y] at w; cases w
        cases (cs.getD k Cell.none) <;> exact mn
      | true =>
        obtain ⟨a, sa, fa, na, pa, _⟩ := h0.own_addr y
        rw [sv] at sa; cases sa
        have flag : if c0.fr = true then B.H0 a = none else B.M a ∧ B.par[i]? = some (.ref a) := by
          cases c0 with
          | none => cases y
          | val d => cases y
          | own fr c =>
            obtain ⟨a', h1, _, _, _, h5⟩ := h0
            rw [sv] at h1; cases h1; exact h5
          | opq fr φ =>
            obtain ⟨c, _, a', h1, _, _, _, h5⟩ := h0
            rw [sv] at h1; cases h1; exact h5
        have ok : ∀ {fr : Bool} {x : OC}, OwnOk K ⟨HandM σ env as, H, F, vs, fun _ => none⟩ F' H' (vs.map some)[k]? k fr x → OwnOk K B F' H' σ[i]? i c0.fr x := by
          rintro fr x ⟨b, h1, h2, h3, _, _⟩
          rw [List.getElem?_map, ev] at h1
          cases h1
          exact ⟨a, sv, h2, h3, pa, flag⟩
        rw [List.getD_eq_getElem?_getD]
        cases y2 : cs[k]? with
        | none => trivial
        | some c' =>
          have h' := R'.cells k c' y2
          cases c' with
          | none => trivial
          | val d => trivial
          | own fr x => exact ok h'
          | opq fr φ => obtain ⟨x, h1, h2⟩ := h'; exact ⟨x, h1, ok h2⟩
  · intro i j a c c' e1 e2 w1 w2 s1 s2
    obtain ⟨c0, z1, rfl⟩ := nget e1
    obtain ⟨c1, z2, rfl⟩ := nget e2
    exact R.dis i j a c0 c1 z1 z2 (oldOwn w1) (oldOwn w2) s1 s2
end
section
variable {X : Cx} {B : Bd} {e : Expr} {es : List Expr} {pos : Pos} {tr : TDR}
/-- what a call leaves behind in the caller's names, slot by slot -/
def putBack : DEnv → List Arg → List Cell → DEnv
  | env, [], _ => env
  | env, .d _ :: as, cs => putBack env as cs.tail
  | env, .s i :: as, cs => putBack (env.set i ((env[i]?.getD .none).take (cs.headD .none))) as cs.tail
theorem take_get (i : Nat) : ∀ (as : List Arg) (cs : List Cell) (env : DEnv), (slotsOf as).Nodup →
    (putBack env as cs)[i]? = env[i]?.map fun c => match as.findIdx? (isS i) with | some k => c.take (cs.getD k .none) | none => c
  | [], cs, env, _ => by
    show env[i]? = _
    cases env[i]? <;> rfl
  | .d x :: as, cs, env, nd => by
    show (putBack env as cs.tail)[i]? = _
    rw [take_get i as cs.tail env nd, List.findIdx?_cons]
    show _ = env[i]?.map fun c => match (as.findIdx? (isS i)).map (· + 1) with | some k => c.take (cs.getD k .none) | none => c
    cases as.findIdx? (isS i) with
    | none => rfl
    | some k => cases cs <;> rfl
  | .s j :: as, cs, env, nd => by
    have nd : (j :: slotsOf as).Nodup := nd
    obtain ⟨nj, nd⟩ := List.nodup_cons.mp nd
    show (putBack (env.set j ((env[j]?.getD .none).take (cs.headD .none))) as cs.tail)[i]? = _
    rw [take_get i as cs.tail _ nd, List.findIdx?_cons]
    by_cases q : i = j
    · subst q
      have fn : as.findIdx? (isS i) = none := List.findIdx?_eq_none_iff.mpr fun a m => by
        cases a with
        | d x => rfl
        | s k =>
          cases z : (isS i (.s k)) with
          | false => rfl
          | true =>
            have : i = k := eq_of_beq z
            subst this
            exact absurd (mem_slots.mpr m) nj
      have t : isS i (.s i) = true := beq_self_eq_true i
      rw [fn, if_pos t, List.getElem?_set_self']
      cases e : env[i]? with
      | none => rfl
      | some c => cases cs <;> rfl
    · have t : ¬ isS i (.s j) = true := fun h => q (eq_of_beq h)
      rw [if_neg t, List.getElem?_set_ne (fun h => q h.symm)]
      cases as.findIdx? (isS i) with
      | none => rfl
      | some k => cases cs <;> rfl
theorem take_put {env : DEnv} {as : List Arg} {cs : List Cell} (nd : (slotsOf as).Nodup) : takeBack env as cs = putBack env as cs := by
  refine List.ext_getElem? fun i => ?_
  rw [take_get i as cs env nd]
  unfold takeBack
  first | (rw [List.getElem?_mapIdx]; done) | (rw [List.getElem?_mapIdx]; rfl)
/-- the same, read at once -/
def putC : DEnv → List Arg → List Cell → (DEnv → Prop) → Prop
  | env, [], _, Q => Q env
  | env, .d _ :: as, cs, Q => putC env as cs.tail Q
  | env, .s i :: as, cs, Q => match env[i]? with
    | some (.own fr _) => (match cs.headD .none with
      | .own _ c => setC i (.own fr c) env fun e => putC e as cs.tail Q
      | .opq _ φ => setC i (.opq fr φ) env fun e => putC e as cs.tail Q
      | _ => setC i .none env fun e => putC e as cs.tail Q)
    | some (.opq fr _) => (match cs.headD .none with
      | .own _ c => setC i (.own fr c) env fun e => putC e as cs.tail Q
      | .opq _ φ => setC i (.opq fr φ) env fun e => putC e as cs.tail Q
      | _ => setC i .none env fun e => putC e as cs.tail Q)
    | _ => False
theorem putC_of : ∀ {as : List Arg} {cs : List Cell} {env : DEnv} {Q : DEnv → Prop}, putC env as cs Q → Q (putBack env as cs)
  | [], _, _, _, h => h
  | .d _ :: as, cs, env, Q, h => putC_of (as := as) (cs := cs.tail) h
  | .s i :: as, cs, env, Q, h => by
    have key : ∀ old : Cell, env[i]? = some old → ∀ new, cs.headD .none = new → (setC i (old.take new) env fun e => putC e as cs.tail Q) → Q (putBack env (.s i :: as) cs) := fun old e new e2 h => by
      show Q (putBack (env.set i ((env[i]?.getD .none).take (cs.headD .none))) as cs.tail)
      rw [e, e2]
      exact putC_of (setC_of h)
    unfold putC at h
    split at h
    · rename_i fr c0 e
      split at h
      · rename_i e2; exact key _ e _ e2 h
      · rename_i e2; exact key _ e _ e2 h
      · rename_i e1 e2
        refine key _ e _ rfl ?_
        cases z : cs.headD Cell.none with
        | none => exact h
        | val d => exact h
        | own fr' c => exact absurd z (e1 _ _)
        | opq fr' φ => exact absurd z (e2 _ _)
    · rename_i fr c0 e
      split at h
      · rename_i e2; exact key _ e _ e2 h
      · rename_i e2; exact key _ e _ e2 h
      · rename_i e1 e2
        refine key _ e _ rfl ?_
        cases z : cs.headD Cell.none with
        | none => exact h
        | val d => exact h
        | own fr' c => exact absurd z (e1 _ _)
        | opq fr' φ => exact absurd z (e2 _ _)
    · exact h.elim
def nodB : List Nat → Bool
  | [] => true
  | x :: r => !(r.any fun y => Nat.beq x y) && nodB r
theorem nodB_ok : ∀ {l : List Nat}, nodB l = true → l.Nodup
  | [], _ => .nil
  | x :: r, h => by
    have h : (!(r.any fun y => Nat.beq x y) && nodB r) = true := h
    rw [Bool.and_eq_true] at h
    refine List.nodup_cons.mpr ⟨fun m => ?_, nodB_ok h.2⟩
    have : (r.any fun y => Nat.beq x y) = true := List.any_eq_true.mpr ⟨x, m, Nat.beq_refl x⟩
    rw [this] at h; cases h.1
def callOk (n : Nat) (as : List Arg) : Bool := Nat.beq as.length n && nodB (slotsOf as)
theorem callOk_ok {n : Nat} {as : List Arg} (h : callOk n as = true) : as.length = n ∧ (slotsOf as).Nodup := by
  unfold callOk at h
  rw [Bool.and_eq_true] at h
  exact ⟨Nat.eq_of_beq_eq_true h.1, nodB_ok h.2⟩
@[simp] def qCall (spec : FSpec) (n : Nat) (tr : TDR) : TD := fun env Q => tr env fun as env1 => match callOk n as with
  | true => spec (handIn env1 as) fun d cs => putC env1 as cs fun env2 => Q d env2
  | false => False
theorem de_call {k n : Nat} {f : Addr} {fd : FuncData} {ps : List Str} {spec : FSpec} {x : Str} {p : Pos} (G : FnOk X.prog X.w X.K X.mg X.base CX0 k f fd ps (spD X.K n spec)) (hr : Room k X.A) (hg : Gl X x) (hm : X.mg x = some (.ref f)) (hk : PySem.W.keepIn X.K (.ref f) = true) (hb : Binds X.K fd ps [])
    (ha : DR X B (e :: es) tr) (hdb : (x == ("__debug__" : Str)) = false := by decide) (he : starEach (e :: es) X.env = (false, eval e X.env) :: starEach es X.env := by rfl) (hpl : (backTo pos (starEach es X.env)).any (·.1) = false := by rfl) :
    DE X B (.Call (.Name x p) (e :: es) [] pos) (qCall spec n tr) := by
  obtain ⟨te, q, h⟩ := ha.ex
  refine ⟨_, pe_call G hr hg hm hk hb .nil pass0 q hdb he hpl, fun F H σ env Q Q' R ht k => ?_⟩
  refine h F H σ env _ _ R ht fun as env1 vs F1 H1 q1 s1 R1 ra => ?_
  have q1 : callOk n as = true ∧ spec (handIn env1 as) fun d cs => putC env1 as cs fun env2 => Q d env2 := by
    split at q1
    · rename_i hc; exact ⟨hc, q1⟩
    · exact q1.elim
  obtain ⟨hc, hs⟩ := q1
  obtain ⟨hn, nd⟩ := callOk_ok hc
  rw [List.append_nil]
  refine ⟨F1, HandM σ env1 as, handIn env1 as, by rw [Paired.length ra, hn], R1.handed ra nd, _, hs, fun d cs v F' H' q s' R' r' => ?_⟩
  exact k d _ v F' H' (putC_of q) (s1.trans s') (take_put (cs := cs) nd ▸ R1.taken ra s' R') r'
end
end L2.DL

namespace L2.DL
open PySem PySem.Spec PyProof.Rows

/-! ### data as PyData, for == at any depth -/
mutual
def D.py : D → PyData
  | .non => .none
  | .bl b => .bool b
  | .int i => .int i
  | .str x => .str x
  | .tup xs => .tuple (D.pys xs)
  | .lst xs => .list (D.pys xs)
  | .scr xs => .list (D.pys xs)
  | .atm _ => .none
  | .dct _ => .none
def D.pys : List D → List PyData
  | [] => []
  | d :: r => d.py :: D.pys r
end
mutual
/-- no dict, no class, no def within -/
def D.pl : D → Bool
  | .non => true
  | .bl _ => true
  | .int _ => true
  | .str _ => true
  | .tup xs => D.pls xs
  | .lst xs => D.pls xs
  | .scr xs => D.pls xs
  | .atm _ => false
  | .dct _ => false
def D.pls : List D → Bool
  | [] => true
  | d :: r => d.pl && D.pls r
end
section
variable {K : PySem.W.Frag} {F H : Hp}
mutual
theorem dp_of (s : Same F H) : ∀ (d : D) (v : V), Rp K F v d → d.pl = true → Dp K H v d.py
  | .non, _, h, _ => by cases h; rw [D.py]; exact .non
  | .bl b, _, h, _ => by cases h; rw [D.py]; exact .bl b
  | .int b, _, h, _ => by cases h; rw [D.py]; exact .int b
  | .str b, _, h, _ => by cases h; rw [D.py]; exact .str b
  | .tup xs, _, h, p => by
    cases h with
    | tup hs ha => rw [D.py]; exact .tup (same_sqT s hs) (dps_of s xs _ ha (by rw [D.pl] at p; exact p))
  | .lst xs, _, h, p => by
    cases h with
    | lst hs ha => rw [D.py]; exact .lst (.of (s _ _ hs)) (dps_of s xs _ ha (by rw [D.pl] at p; exact p))
  | .scr xs, _, h, p => by
    cases h with
    | scr hs ha => rw [D.py]; exact .lst (s.seq hs) (dps_of s xs _ ha (by rw [D.pl] at p; exact p))
  | .atm _, _, _, p => by rw [D.pl] at p; cases p
  | .dct _, _, _, p => by rw [D.pl] at p; cases p
theorem dps_of (s : Same F H) : ∀ (ds : List D) (vs : List V), RpA K F vs ds → D.pls ds = true → DpAll K H vs (D.pys ds)
  | [], _, h, _ => by cases h; rw [D.pys]; exact .nil
  | d :: r, _, h, p => by
    cases h with
    | cons h1 h2 =>
      rw [D.pls, Bool.and_eq_true] at p
      rw [D.pys]
      exact .cons (dp_of s d _ h1 p.1) (dps_of s r _ h2 p.2)
end
end
/-- == of data that are no objects -/
@[simp] def eqS : D → D → Option Bool
  | .non, .non => some true
  | .int i, .int j => some (decide (i = j))
  | .bl i, .bl j => some (decide (i = j))
  | .str i, .str j => some (decide (i = j))
  | .non, .int _ => some false
  | .non, .bl _ => some false
  | .non, .str _ => some false
  | .int _, .non => some false
  | .bl _, .non => some false
  | .str _, .non => some false
  | .int _, .str _ => some false
  | .str _, .int _ => some false
  | .bl _, .str _ => some false
  | .str _, .bl _ => some false
  | _, _ => none
def deepOk (d e : D) : Prop := d.pl = true ∧ e.pl = true ∧ SeqAt.shaped d.py = true ∧ SeqAt.shaped e.py = true
@[simp] def eqD : S2 := fun d e Q => match eqS d e with
  | some b => Q (.bl b)
  | none => deepOk d e ∧ Q (.bl (PyData.eqv d.py e.py))
@[simp] def neD : S2 := fun d e Q => match eqS d e with
  | some b => Q (.bl (!b))
  | none => deepOk d e ∧ Q (.bl (!PyData.eqv d.py e.py))
theorem eqS_rp {K : PySem.W.Frag} {F : Hp} {x y : V} {d e : D} {b : Bool} (h : eqS d e = some b) (rx : Rp K F x d) (ry : Rp K F y e) : scal x y = true ∧ decide (x = y) = b := by
  cases rx <;> cases ry <;> first
    | (cases h; done)
    | (injection h with h; subst h; refine ⟨rfl, ?_⟩; first | rfl | (rw [decide_eq_decide]; simp) | simp)
section
variable {X : Cx}
theorem o_eq (hu : X.A.units + 64 < cLine) : DOp X (compareOp .Eq) eqD := by
  refine ⟨_, op_eq.or (op_eqD hu), fun F H x y d e Q Q' s rx ry h k => ?_⟩
  unfold eqD at h
  split at h
  · rename_i b hb
    obtain ⟨h1, h2⟩ := eqS_rp hb rx ry
    exact .inl ⟨h1, by rw [h2]; exact k _ _ F H h .nil (.bl _)⟩
  · obtain ⟨⟨p1, p2, p3, p4⟩, h⟩ := h
    exact .inr ⟨_, _, dp_of s d x rx p1, dp_of s e y ry p2, p3, p4, k _ _ F H h .nil (.bl _)⟩
theorem o_ne (hu : X.A.units + 64 < cLine) : DOp X (compareOp .NotEq) neD := by
  refine ⟨_, op_ne.or (op_neD hu), fun F H x y d e Q Q' s rx ry h k => ?_⟩
  unfold neD at h
  split at h
  · rename_i b hb
    obtain ⟨h1, h2⟩ := eqS_rp hb rx ry
    exact .inl ⟨h1, by rw [h2]; exact k _ _ F H h .nil (.bl _)⟩
  · obtain ⟨⟨p1, p2, p3, p4⟩, h⟩ := h
    exact .inr ⟨_, _, dp_of s d x rx p1, dp_of s e y ry p2, p3, p4, k _ _ F H h .nil (.bl _)⟩

/-! ### whole numbers -/
@[simp] def i2 (f : Int → Int → (D → Prop) → Prop) : S2 := fun d e Q => match d, e with
  | .int i, .int j => f i j Q
  | _, _ => False
theorem o_int {f : Value → Value → Sem Value} {C : Int → Int → Prop} {g : Int → Int → V} {g' : Int → Int → D} (h : OpR X f (rI C g)) (hg : ∀ F i j, Rp X.K F (g i j) (g' i j)) : DOp X f (i2 fun i j Q => C i j ∧ Q (g' i j)) := by
  refine ⟨_, h, fun F H x y d e Q Q' s rx ry h k => ?_⟩
  cases rx <;> cases ry <;> first | exact h.elim | exact ⟨_, _, rfl, rfl, h.1, k _ _ F H h.2 .nil (hg F _ _)⟩
theorem o_int0 {f : Value → Value → Sem Value} {g : Int → Int → V} {g' : Int → Int → D} (h : OpR X f (rI0 g)) (hg : ∀ F i j, Rp X.K F (g i j) (g' i j)) : DOp X f (i2 fun i j Q => Q (g' i j)) := by
  refine ⟨_, h, fun F H x y d e Q Q' s rx ry h k => ?_⟩
  cases rx <;> cases ry <;> first | exact h.elim | exact ⟨_, _, rfl, rfl, k _ _ F H h .nil (hg F _ _)⟩
theorem o_sub : DOp X (binaryOp .Sub) (i2 fun i j Q => Q (.int (i - j))) := o_int0 op_sub fun _ _ _ => .int _
theorem o_mod : DOp X (binaryOp .Mod) (i2 fun i j Q => 0 < j ∧ Q (.int (i % j))) := o_int op_mod fun _ _ _ => .int _
theorem o_pow : DOp X (binaryOp .Pow) (i2 fun i j Q => CPow i j ∧ Q (.int (i ^ j.toNat))) := o_int op_pow fun _ _ _ => .int _
theorem o_shl : DOp X (binaryOp .LShift) (i2 fun i j Q => CPow i j ∧ Q (.int (i * 2 ^ j.toNat))) := o_int op_shl fun _ _ _ => .int _
theorem o_shr : DOp X (binaryOp .RShift) (i2 fun i j Q => 0 ≤ j ∧ Q (.int (i / 2 ^ j.toNat))) := o_int op_shr fun _ _ _ => .int _
theorem o_band : DOp X (binaryOp .BitAnd) (i2 fun i j Q => Q (.int (Builtin.bitAnd i j))) := o_int0 op_and fun _ _ _ => .int _
theorem o_bor : DOp X (binaryOp .BitOr) (i2 fun i j Q => Q (.int (Builtin.bitOr i j))) := o_int0 op_or fun _ _ _ => .int _
def CDv (i j : Int) : Prop := CDiv i j ∨ CDivW i j
theorem o_fdiv : DOp X (binaryOp .FloorDiv) (i2 fun i j Q => CDv i j ∧ Q (.int (i / j))) := by
  refine ⟨_, op_fdiv.or op_fdivW, fun F H x y d e Q Q' s rx ry h k => ?_⟩
  cases rx <;> cases ry <;> first | exact h.elim | skip
  rcases h.1 with c | c
  · exact .inl ⟨_, _, rfl, rfl, c, k _ _ F H h.2 .nil (.int _)⟩
  · exact .inr ⟨_, _, rfl, rfl, c, k _ _ F H h.2 .nil (.int _)⟩
theorem o_lt : DOp X (compareOp .Lt) (i2 fun i j Q => Q (.bl (decide (i < j)))) := o_int0 op_lt fun _ _ _ => .bl _
theorem o_le : DOp X (compareOp .LtE) (i2 fun i j Q => Q (.bl (decide (i ≤ j)))) := o_int0 op_le fun _ _ _ => .bl _
theorem o_gt : DOp X (compareOp .Gt) (i2 fun i j Q => Q (.bl (decide (j < i)))) := o_int0 op_gt fun _ _ _ => .bl _
theorem o_ge : DOp X (compareOp .GtE) (i2 fun i j Q => Q (.bl (decide (j ≤ i)))) := o_int0 op_ge fun _ _ _ => .bl _
/-! ### +, * -/
@[simp] def addD : S2 := fun d e Q => match d, e with
  | .int i, .int j => Q (.int (i + j))
  | .str a, .str b => a.length + b.length ≤ sizeLine ∧ Q (.str (a ++ b))
  | .lst a, .lst b => a.length + b.length ≤ sizeLine ∧ Q (.lst (a ++ b))
  | .tup a, .tup b => a.length + b.length ≤ sizeLine ∧ Q (.tup (a ++ b))
  | _, _ => False
theorem o_add : DOp X (binaryOp .Add) addD := by
  refine ⟨_, op_add.or (op_add_str.or (op_cat.or op_catA)), fun F H x y d e Q Q' s rx ry h k => ?_⟩
  cases rx with
  | int i => cases ry <;> first | exact h.elim | exact .inl ⟨_, _, rfl, rfl, k _ _ F H h .nil (.int _)⟩
  | str i => cases ry <;> first | exact h.elim | exact .inr (.inl ⟨_, _, rfl, rfl, h.1, k _ _ F H h.2 .nil (.str _)⟩)
  | lst h1 r1 =>
    cases ry with
    | lst h2 r2 =>
      refine .inr (.inr (.inl ⟨_, _, _, _, rfl, rfl, s _ _ h1, s _ _ h2, by rw [r1.length, r2.length]; exact h.1, fun p hp => ?_⟩))
      exact k _ _ _ _ h.2 (.new hp) (.lst upd_same ((r1.append r2).mono (same_upd (s.free hp))))
    | _ => exact h.elim
  | @tup a vs ds h1 r1 =>
    cases ry with
    | @tup b ws es h2 r2 =>
      refine .inr (.inr (.inr ⟨_, _, vs, ws, rfl, rfl, same_sqT s h1, same_sqT s h2, by rw [r1.length, r2.length]; exact h.1, fun e1 => ?_, fun _ e2 => ?_, fun _ _ p hp => ?_⟩))
      · subst e1; cases r1; exact k _ _ F H h.2 .nil (.tup h2 r2)
      · subst e2; cases r2
        have h2' := h.2
        rw [List.append_nil] at h2'
        exact k _ _ F H h2' .nil (.tup h1 r1)
      · exact k _ _ _ _ h.2 (.new hp) (.tup (.of upd_same) ((r1.append r2).mono (same_upd (s.free hp))))
    | _ => exact h.elim
  | _ => exact h.elim
def CMl (i j : Int) : Prop := CMul i j ∨ CMulW i j
theorem rep_size (a : Array Nat) : ∀ (n : Nat) (b : Array Nat), (List.foldl (· ++ ·) b (List.replicate n a)).size = b.size + n * a.size
  | 0, b => by simp
  | n + 1, b => by
    rw [List.replicate_succ, List.foldl_cons, rep_size a n, Array.size_append, Nat.add_mul]
    omega
def repS (z : Str) (n : Nat) : Str := ⟨(List.replicate n z.cps).foldl (· ++ ·) #[]⟩
def CRs (z : Str) (n : Int) : Prop := 0 ≤ n ∧ n ≤ 100000 ∧ 0 < z.length ∧ z.length ≤ 100
theorem repS1e (z : Str) : repS z 1 = z := by
  show (⟨#[] ++ z.cps⟩ : Str) = z
  rw [Array.empty_append]
theorem op_mulS : OpR X (binaryOp .Mult) (fun x y H Q => ∃ z n, x = .str z ∧ y = .int n ∧ CRs z n ∧ Q (.str (repS z n.toNat)) H) := by
  intro pins s σ H x y v u Q I rx ry h
  obtain ⟨z, n, rfl, rfl, ⟨h1, h2, h3, h4⟩, q⟩ := h
  obtain ⟨t, rfl⟩ := rx
  obtain ⟨t', rfl⟩ := ry
  have hm : z.length * n.toNat ≤ 100 * 100000 := Nat.mul_le_mul h4 (by omega)
  refine PySem.P.mul_str ?_ (fun e1 e2 => ?_) (fun _ _ => ?_) ?_
  · rw [decide_eq_false (by omega), decide_eq_false (by omega)]; rfl
  · have n0 : 0 < n := by omega
    have : (2 ^ 63 - 1 : Int) / n ≥ (2 ^ 63 - 1) / 100000 := by
      apply Int.le_ediv_of_mul_le n0
      have : ((2 ^ 63 - 1) / 100000 : Int) * n ≤ ((2 ^ 63 - 1) / 100000 : Int) * 100000 := Int.mul_le_mul_of_nonneg_left h2 (by decide)
      omega
    omega
  · show decide (z.length * n.toNat > sizeLine) = false
    rw [decide_eq_false_iff_not]
    have : (10000000 : Nat) ≤ sizeLine := by decide
    omega
  · obtain rfl | rfl | h1 : n = 0 ∨ n = 1 ∨ 1 < n := by omega
    · exact ⟨by decide, .str _, H, I.tok _, ⟨_, rfl⟩, q⟩
    · rw [if_neg (by decide), if_pos (show ((1 : Int) == 1 || z.length == 0) = true from rfl)]
      rw [show (1 : Int).toNat = 1 from rfl, repS1e] at q
      exact ⟨.str z, H, I.tok _, ⟨_, rfl⟩, q⟩
    · rw [if_neg (by omega), if_neg (by simp; omega)]
      refine ⟨?_, ?_⟩
      · show (List.foldl (· ++ ·) #[] (List.replicate n.toNat z.cps)).size ≤ sizeLine
        rw [rep_size]
        have : (10000000 : Nat) ≤ sizeLine := by decide
        have hm' : n.toNat * z.cps.size ≤ 100 * 100000 := by rw [Nat.mul_comm]; exact hm
        show 0 + n.toNat * z.cps.size ≤ sizeLine
        omega
      · exact ⟨.str _, H, I.tok _, ⟨_, rfl⟩, q⟩
@[simp] def mulD : S2 := fun d e Q => match d, e with
  | .int i, .int j => CMl i j ∧ Q (.int (i * j))
  | .lst a, .int k => -(2 ^ 63) ≤ k ∧ k < 2 ^ 63 ∧ a.length * k.toNat ≤ sizeLine ∧ Q (.lst (List.replicate k.toNat a).flatten)
  | .str z, .int n => CRs z n ∧ Q (.str (repS z n.toNat))
  | _, _ => False
theorem RpA.rep {K : PySem.W.Frag} {F : Hp} {vs : List V} {ds : List D} (r : RpA K F vs ds) : ∀ n : Nat, RpA K F (List.replicate n vs).flatten (List.replicate n ds).flatten
  | 0 => .nil
  | n + 1 => by rw [List.replicate_succ, List.flatten_cons, List.replicate_succ, List.flatten_cons]; exact r.append (RpA.rep r n)
theorem o_mul : DOp X (binaryOp .Mult) mulD := by
  refine ⟨_, op_mul.or (op_mulW.or (op_rep.or op_mulS)), fun F H x y d e Q Q' s rx ry h k => ?_⟩
  cases rx with
  | int i =>
    cases ry <;> first | exact h.elim | skip
    rcases h.1 with c | c
    · exact .inl ⟨_, _, rfl, rfl, c, k _ _ F H h.2 .nil (.int _)⟩
    · exact .inr (.inl ⟨_, _, rfl, rfl, c, k _ _ F H h.2 .nil (.int _)⟩)
  | lst h1 r1 =>
    cases ry <;> first | exact h.elim | skip
    obtain ⟨c1, c2, c3, h⟩ := h
    refine .inr (.inr (.inl ⟨_, _, _, rfl, rfl, s _ _ h1, c1, c2, by rw [r1.length]; exact c3, fun p hp => ?_⟩))
    exact k _ _ _ _ h (.new hp) (.lst upd_same ((r1.rep _).mono (same_upd (s.free hp))))
  | str z =>
    cases ry <;> first | exact h.elim | skip
    exact .inr (.inr (.inr ⟨_, _, rfl, rfl, h.1, k _ _ F H h.2 .nil (.str _)⟩))
  | _ => cases ry <;> exact h.elim
/-! ### items -/
@[simp] def ixD : S2 := fun d e Q => match d, e with
  | .tup xs, .int i => ∃ x, atI xs i = some x ∧ Q x
  | .lst xs, .int i => ∃ x, atI xs i = some x ∧ Q x
  | .scr xs, .int i => ∃ x, atI xs i = some x ∧ Q x
  | .str z, .int i => z.length ≤ sizeLine ∧ ∃ c, atI z.cps.toList i = some c ∧ Q (.str ⟨#[c]⟩)
  | .dct kvs, .str k => ∃ x, (kvs.find? fun kv => decide (kv.1 = Sum.inr k)).map (·.2) = some x ∧ Q x
  | .dct kvs, .int k => ∃ x, (kvs.find? fun kv => decide (kv.1 = Sum.inl k)).map (·.2) = some x ∧ Q x
  | _, _ => False
def rIxD : R2 := fun x y H Q => ∃ a v, x = .ref a ∧ DGet H a y (some v) ∧ Q v H
theorem ix_dict (hu : X.A.units + 1 < cLine) : IxR X rIxD := by
  intro value slice pins s σ H x y v u Q I rx ry h hs
  obtain ⟨a, z, rfl, g, q⟩ := h
  cases rx
  rcases g with ⟨kvs, k, e, ey, l⟩ | ⟨kvs, k, b, e, ey, eb, l⟩
  · subst ey
    obtain ⟨zz, hd, vs, rel, dd⟩ := dk_rd I.hok e
    obtain ⟨w', hw, rw'⟩ := RelO.some_of (v := z) (o := valueAt vs k) (by rw [l]; exact rel.val k)
    exact subscriptTail_builtinR (x := w') dd.typeIs PySem.F.slot_dict_getitem.lookup (wpAny_getItem_of (kV_is ry) dd.mapOf hw ⟨rfl, ⟨z, H, I.tok _, rw', q⟩⟩) hs
  · subst ey
    cases (show u = Value.ref b from ry)
    obtain ⟨zz, hd, xs, rel, dd⟩ := dt_rd I.hok e
    obtain ⟨w', hw, rw'⟩ := RelO.some_of (v := z) (o := (atKey xs k).map (·.2)) (by rw [l]; exact rel.val k)
    obtain ⟨p, hp, hp2⟩ := Option.map_eq_some_iff.mp hw
    refine subscriptTail_builtinR (x := w') dd.typeIs PySem.F.slot_dict_getitem.lookup (wpAny_getItem_heap (tupleKind_room_in1 hu) (key_of I.hok eb) dd hp ?_) hs
    exact ⟨hp2, ⟨z, H, I.tok _, by rw [hp2]; exact rw', q⟩⟩
theorem RpK.find {K : PySem.W.Frag} {F : Hp} {k : Key} {x : D} : ∀ {kvs : List (Key × V)} {ds : List (Key × D)}, RpK K F kvs ds → (ds.find? fun kv => decide (kv.1 = k)).map (·.2) = some x → ∃ v, valV kvs k = some v ∧ Rp K F v x
  | _, _, .nil, e => by simp at e
  | (_ :: _), (_ :: _), .cons (k := k') h t, e => by
    by_cases q : k' = k
    · subst q
      rw [List.find?_cons_of_pos (by simp)] at e
      cases e
      exact ⟨_, valV_pos rfl, h⟩
    · rw [List.find?_cons_of_neg (by simpa using q)] at e
      obtain ⟨v, h1, h2⟩ := RpK.find t e
      exact ⟨v, by rw [valV_neg q]; exact h1, h2⟩
theorem o_ix (hu : X.A.units + 1 < cLine) : DIx X ixD := by
  refine ⟨_, ix_list.or (ix_tup.or (ix_str.or (ix_dict hu))), fun F H x y d e Q Q' s rx ry h k => ?_⟩
  cases rx with
  | lst h1 r1 =>
    cases ry <;> first | exact h.elim | skip
    obtain ⟨x, hx, h⟩ := h
    obtain ⟨v, hv, rv⟩ := r1.at hx
    exact .inl ⟨_, _, _, _, rfl, rfl, .of (s _ _ h1), hv, k _ _ F H h .nil rv⟩
  | scr h1 r1 =>
    cases ry <;> first | exact h.elim | skip
    obtain ⟨x, hx, h⟩ := h
    obtain ⟨v, hv, rv⟩ := r1.at hx
    exact .inl ⟨_, _, _, _, rfl, rfl, s.seq h1, hv, k _ _ F H h .nil rv⟩
  | tup h1 r1 =>
    cases ry <;> first | exact h.elim | skip
    obtain ⟨x, hx, h⟩ := h
    obtain ⟨v, hv, rv⟩ := r1.at hx
    exact .inr (.inl ⟨_, _, _, _, rfl, rfl, same_sqT s h1, hv, k _ _ F H h .nil rv⟩)
  | str z =>
    cases ry <;> first | exact h.elim | skip
    obtain ⟨h1, c, hc, h⟩ := h
    exact .inr (.inr (.inl ⟨_, _, _, rfl, rfl, h1, hc, k _ _ F H h .nil (.str _)⟩))
  | dct h1 r1 =>
    cases ry <;> first | exact h.elim | skip
    · obtain ⟨x, hx, h⟩ := h
      obtain ⟨v, hv, rv⟩ := r1.find hx
      exact .inr (.inr (.inr ⟨_, v, rfl, .inl ⟨_, _, .inl (s _ _ h1), rfl, hv.symm⟩, k _ _ F H h .nil rv⟩))
    · obtain ⟨x, hx, h⟩ := h
      obtain ⟨v, hv, rv⟩ := r1.find hx
      exact .inr (.inr (.inr ⟨_, v, rfl, .inl ⟨_, _, .inl (s _ _ h1), rfl, hv.symm⟩, k _ _ F H h .nil rv⟩))
  | _ => cases ry <;> exact h.elim
/-! ### in -/
@[simp] def eqF : D → D → Bool
  | .non, .non => true
  | .bl a, .bl b => a == b
  | .bl a, .int b => (if a then 1 else 0) == b
  | .int a, .bl b => a == (if b then 1 else 0)
  | .int a, .int b => a == b
  | .str a, .str b => a == b
  | _, _ => false
@[simp] def flatD : D → Bool
  | .non => true
  | .bl _ => true
  | .int _ => true
  | .str _ => true
  | _ => false
@[simp] def inL (x : D) (ys : List D) (Q : Bool → Prop) : Prop := flatD x = true ∧ ys.all flatD = true ∧ Q (ys.any fun y => eqF y x)
@[simp] def inB (x d : D) (Q : Bool → Prop) : Prop := match d with
  | .tup ys => inL x ys Q
  | .lst ys => inL x ys Q
  | .scr ys => inL x ys Q
  | .str z => ∃ c : Nat, x = .str ⟨#[c]⟩ ∧ Q (decide (c ∈ z.cps.toList))
  | .dct kvs => match x with
    | .str k => Q (kvs.any fun kv => decide (kv.1 = Sum.inr k))
    | .int k => Q (kvs.any fun kv => decide (kv.1 = Sum.inl k))
    | _ => False
  | _ => False
theorem flat_rp {K : PySem.W.Frag} {F : Hp} {v : V} {d : D} (r : Rp K F v d) (f : flatD d = true) : flatV v = true := by
  cases r <;> first | rfl | cases f
theorem flats_rp {K : PySem.W.Frag} {F : Hp} : ∀ {vs : List V} {ds : List D}, RpA K F vs ds → ds.all flatD = true → vs.all flatV = true
  | _, _, .nil, _ => rfl
  | _, _, .cons h t, f => by
    rw [List.all_cons, Bool.and_eq_true] at f ⊢
    exact ⟨flat_rp h f.1, flats_rp t f.2⟩
theorem eqF_rp {K : PySem.W.Frag} {F : Hp} {u v : V} {d e : D} (r : Rp K F u d) (q : Rp K F v e) (f : flatD d = true) (g : flatD e = true) : eqV u v = eqF d e := by
  cases r <;> cases q <;> first | exact absurd (show false = true from f) (by decide) | exact absurd (show false = true from g) (by decide) | rfl
theorem any_rp {K : PySem.W.Frag} {F : Hp} {v : V} {e : D} (q : Rp K F v e) (g : flatD e = true) : ∀ {vs : List V} {ds : List D}, RpA K F vs ds → ds.all flatD = true → inV v vs = ds.any fun y => eqF y e
  | _, _, .nil, _ => rfl
  | _, _, .cons h t, f => by
    rw [List.all_cons, Bool.and_eq_true] at f
    unfold inV
    rw [List.any_cons, List.any_cons, eqF_rp h q f.1 g]
    exact congrArg _ (any_rp q g t f.2)
theorem RpK.any {K : PySem.W.Frag} {F : Hp} {k : Key} : ∀ {kvs : List (Key × V)} {ds : List (Key × D)}, RpK K F kvs ds → (valV kvs k).isSome = ds.any fun kv => decide (kv.1 = k)
  | _, _, .nil => rfl
  | _, _, .cons (k := k') h t => by
    rw [List.any_cons]
    by_cases q : k' = k
    · subst q
      rw [valV_pos rfl]; simp
    · rw [valV_neg q, RpK.any t]; simp [q]
def rInAll (K : PySem.W.Frag) (neg : Bool) : R2 := fun x y H Q =>
  rIn K neg x y H Q ∨ (∃ (c : Nat) (z : Str), x = .str ⟨#[c]⟩ ∧ y = .str z ∧ Q (.bl (if neg then !decide (c ∈ z.cps.toList) else decide (c ∈ z.cps.toList))) H) ∨ ∃ a o, y = .ref a ∧ DGet H a x o ∧ Q (.bl (if neg then !o.isSome else o.isSome)) H
theorem op_inAll (hu : X.A.units + 1 < cLine) : OpR X (compareOp .In) (rInAll X.K false) := by
  refine op_in_seq.or (op_in_sign.or ?_)
  intro pins s σ H x y v u Q I rx ry h
  obtain ⟨a, o, rfl, g, q⟩ := h
  cases ry
  exact d_in hu I g rx fun s' I' => ⟨.bl _, H, I', rfl, q⟩
theorem op_ninAll (hu : X.A.units + 1 < cLine) : OpR X (compareOp .NotIn) (rInAll X.K true) := by
  refine op_notIn_seq.or (op_notIn_sign.or ?_)
  intro pins s σ H x y v u Q I rx ry h
  obtain ⟨a, o, rfl, g, q⟩ := h
  cases ry
  exact d_notIn hu I g rx fun s' I' => ⟨.bl _, H, I', rfl, q⟩
theorem in_run {neg : Bool} {F H : Hp} {x y : V} {d e : D} {Q : D → Prop} {Q' : VK} (s : Same F H) (rx : Rp X.K F x d) (ry : Rp X.K F y e) (h : inB d e fun b => Q (.bl (if neg then !b else b)))
    (k : ∀ d' v F' H', Q d' → Stp F H F' H' → Rp X.K F' v d' → Q' v H') : rInAll X.K neg x y H Q' := by
  have seqc : ∀ {a : Addr} {vs : List V} {ds : List D}, (SqL X.K H a vs ∨ SqT X.K H a vs) → RpA X.K F vs ds → inL d ds (fun b => Q (.bl (if neg then !b else b))) → rIn X.K neg x (.ref a) H Q' := by
    intro a vs ds hs ra hq
    obtain ⟨h1, h2, h3⟩ := hq
    refine ⟨a, vs, rfl, hs, flat_rp rx h1, flats_rp ra h2, ?_⟩
    rw [any_rp rx h1 ra h2]
    exact k _ _ F H h3 .nil (.bl _)
  cases ry with
  | tup h1 r1 => exact .inl (seqc (.inr (same_sqT s h1)) r1 h)
  | lst h1 r1 => exact .inl (seqc (.inl (.of (s _ _ h1))) r1 h)
  | scr h1 r1 => exact .inl (seqc (.inl (s.seq h1)) r1 h)
  | str z =>
    obtain ⟨c, rfl, h⟩ := h
    cases rx
    exact .inr (.inl ⟨c, z, rfl, rfl, k _ _ F H h .nil (.bl _)⟩)
  | @dct a kvs ds h1 r1 =>
    have dk : ∀ (kk : Key), x = kV kk → Q (.bl (if neg then !(ds.any fun kv => decide (kv.1 = kk)) else ds.any fun kv => decide (kv.1 = kk))) → rInAll X.K neg x (.ref a) H Q' := by
      intro kk ex hq
      refine .inr (.inr ⟨a, valV kvs kk, rfl, .inl ⟨kvs, kk, .inl (s _ _ h1), ex, rfl⟩, ?_⟩)
      rw [r1.any]
      exact k _ _ F H hq .nil (.bl _)
    cases rx with
    | str z => exact dk (Sum.inr z) rfl h
    | int z => exact dk (Sum.inl z) rfl h
    | _ => exact h.elim
  | _ => exact h.elim
@[simp] def inD : S2 := fun d e Q => inB d e fun b => Q (.bl b)
@[simp] def ninD : S2 := fun d e Q => inB d e fun b => Q (.bl (!b))
theorem o_in (hu : X.A.units + 1 < cLine) : DOp X (compareOp .In) inD := ⟨_, op_inAll hu, fun F H x y d e Q Q' s rx ry h k => in_run (neg := false) s rx ry h k⟩
theorem o_nin (hu : X.A.units + 1 < cLine) : DOp X (compareOp .NotIn) ninD := ⟨_, op_ninAll hu, fun F H x y d e Q Q' s rx ry h k => in_run (neg := true) s rx ry h k⟩
/-! ### is None -/
@[simp] def isN : D → (Bool → Prop) → Prop
  | .non, Q => Q true
  | .atm _, _ => False
  | _, Q => Q false
@[simp] def isD : S2 := fun d e Q => match e with
  | .non => isN d fun b => Q (.bl b)
  | _ => False
@[simp] def isnD : S2 := fun d e Q => match e with
  | .non => isN d fun b => Q (.bl (!b))
  | _ => False
theorem isN_rp {K : PySem.W.Frag} {F : Hp} {x : V} {d : D} {Q : Bool → Prop} (r : Rp K F x d) (h : isN d Q) : Q (decide (x = .non)) := by
  cases r <;> first | exact h | exact h.elim | (rw [decide_eq_false (by intro e; cases e)]; exact h)
theorem o_is : DOp X (compareOp .Is) isD := by
  refine ⟨_, op_isN, fun F H x y d e Q Q' s rx ry h k => ?_⟩
  cases ry <;> first | exact h.elim | exact ⟨rfl, k _ _ F H (isN_rp (Q := fun b => Q (.bl b)) rx h) .nil (.bl _)⟩
theorem o_isn : DOp X (compareOp .IsNot) isnD := by
  refine ⟨_, op_notN, fun F H x y d e Q Q' s rx ry h k => ?_⟩
  cases ry <;> first | exact h.elim | exact ⟨rfl, k _ _ F H (isN_rp (Q := fun b => Q (.bl (!b))) rx h) .nil (.bl _)⟩
end
end L2.DL

namespace L2.DL
open PySem PySem.Spec PyProof.Rows

section
variable {K : PySem.W.Frag} {F H : Hp} {x y : V} {d e : D} {vs : List V}
theorem rpa1 (r : RpA K F vs [d]) : ∃ v, vs = [v] ∧ Rp K F v d := by
  cases r with
  | cons r rr => cases rr; exact ⟨_, rfl, r⟩
theorem rpa2 (r : RpA K F vs [d, e]) : ∃ v w, vs = [v, w] ∧ Rp K F v d ∧ Rp K F w e := by
  cases r with
  | cons r rr => obtain ⟨w, rfl, r2⟩ := rpa1 rr; exact ⟨_, _, rfl, r, r2⟩
end
section
variable {X : Cx}
/-- one argument -/
@[simp] def n1 (f : D → (D → Prop) → Prop) : SN := fun ds Q => match ds with
  | [d] => f d Q
  | _ => False
@[simp] def n2 (f : D → D → (D → Prop) → Prop) : SN := fun ds Q => match ds with
  | [d, e] => f d e Q
  | _ => False
theorem n1_of {f : D → (D → Prop) → Prop} {ds : List D} {Q : D → Prop} (h : n1 f ds Q) : ∃ d, ds = [d] ∧ f d Q := by
  unfold n1 at h
  split at h
  · exact ⟨_, rfl, h⟩
  · exact h.elim
theorem n2_of {f : D → D → (D → Prop) → Prop} {ds : List D} {Q : D → Prop} (h : n2 f ds Q) : ∃ d e, ds = [d, e] ∧ f d e Q := by
  unfold n2 at h
  split at h
  · exact ⟨_, _, rfl, h⟩
  · exact h.elim
@[simp] def lenD : D → (D → Prop) → Prop := fun d Q => match d with
  | .str z => z.length ≤ sizeLine ∧ Q (.int z.length)
  | .tup xs => Q (.int xs.length)
  | .lst xs => Q (.int xs.length)
  | .scr xs => Q (.int xs.length)
  | .dct kvs => Q (.int kvs.length)
  | _ => False
theorem call_lenK : CallR X (.builtin "len") (fun xs H Q => ∃ a kvs, xs = [.ref a] ∧ H a = some (.dK kvs) ∧ Q (.int kvs.length) H) := by
  intro pins s σ H xs us Q I r h
  obtain ⟨a, kvs, rfl, e, q⟩ := h
  exact call_lenD pins s σ H _ us Q I r ⟨a, kvs, rfl, e, q⟩
theorem c_len : DCl X (.builtin "len") (n1 lenD) := by
  refine ⟨_, call_len.or call_lenK, fun F H xs ds Q Q' s r h k => ?_⟩
  obtain ⟨d, rfl, h⟩ := n1_of h
  obtain ⟨v, rfl, r1⟩ := rpa1 r
  cases r1 with
  | str z => exact .inl ⟨_, _, rfl, ⟨h.1, rfl⟩, k _ _ F H h.2 .nil (.int _)⟩
  | tup h1 ra => exact .inl ⟨_, _, rfl, .inr ⟨_, same_sqT s h1, rfl⟩, by rw [ra.length]; exact k _ _ F H h .nil (.int _)⟩
  | lst h1 ra => exact .inl ⟨_, _, rfl, .inl ⟨_, .of (s _ _ h1), rfl⟩, by rw [ra.length]; exact k _ _ F H h .nil (.int _)⟩
  | scr h1 ra => exact .inl ⟨_, _, rfl, .inl ⟨_, s.seq h1, rfl⟩, by rw [ra.length]; exact k _ _ F H h .nil (.int _)⟩
  | dct h1 ra => exact .inr ⟨_, _, rfl, s _ _ h1, by rw [ra.length]; exact k _ _ F H h .nil (.int _)⟩
  | _ => exact h.elim
/-! ### isinstance -/
inductive TyN where
  | int | bool | str | tup | lst | dct
def TyN.nm : TyN → String
  | .int => "int"
  | .bool => "bool"
  | .str => "str"
  | .tup => "tuple"
  | .lst => "list"
  | .dct => "dict"
@[simp] def isI : TyN → D → Bool
  | .int, .int _ => true
  | .int, .bl _ => true
  | .bool, .bl _ => true
  | .str, .str _ => true
  | .tup, .tup _ => true
  | .lst, .lst _ => true
  | .lst, .scr _ => true
  | .dct, .dct _ => true
  | _, _ => false
@[simp] def noAtm : D → Bool
  | .atm _ => false
  | _ => true
def D.tn : D → String
  | .non => "NoneType"
  | .bl _ => "bool"
  | .int _ => "int"
  | .str _ => "str"
  | .tup _ => "tuple"
  | .lst _ => "list"
  | .scr _ => "list"
  | .dct _ => "dict"
  | .atm _ => ""
theorem kit_tbl : ∀ t : TyN, kitB "NoneType" t.nm = some (isI t .non) ∧ kitB "bool" t.nm = some (isI t (.bl true)) ∧ kitB "int" t.nm = some (isI t (.int 0)) ∧ kitB "str" t.nm = some (isI t (.str ⟨#[]⟩)) ∧
    kitB "tuple" t.nm = some (isI t (.tup [])) ∧ kitB "list" t.nm = some (isI t (.lst [])) ∧ kitB "dict" t.nm = some (isI t (.dct [])) := by
  intro t
  cases t <;> decide +kernel
theorem kit_D (t : TyN) (d : D) (h : noAtm d = true) : kitB d.tn t.nm = some (isI t d) := by
  obtain ⟨h1, h2, h3, h4, h5, h6, h7⟩ := kit_tbl t
  cases d with
  | non => exact h1
  | bl b => rw [show isI t (.bl b) = isI t (.bl true) by cases t <;> rfl]; exact h2
  | int i => rw [show isI t (.int i) = isI t (.int 0) by cases t <;> rfl]; exact h3
  | str i => rw [show isI t (.str i) = isI t (.str ⟨#[]⟩) by cases t <;> rfl]; exact h4
  | tup i => rw [show isI t (.tup i) = isI t (.tup []) by cases t <;> rfl]; exact h5
  | lst i => rw [show isI t (.lst i) = isI t (.lst []) by cases t <;> rfl]; exact h6
  | scr i => rw [show isI t (.scr i) = isI t (.lst []) by cases t <;> rfl]; exact h6
  | dct i => rw [show isI t (.dct i) = isI t (.dct []) by cases t <;> rfl]; exact h7
  | atm v => cases h
theorem tyx_of {K : PySem.W.Frag} {F H : Hp} {x : V} {d : D} (s : Same F H) (r : Rp K F x d) (h : noAtm d = true) : TyX K H x (.type d.tn) := by
  cases r with
  | non => exact .base .non
  | bl b => exact .base (.bl b)
  | int b => exact .base (.int b)
  | str b => exact .base (.str b)
  | tup h1 _ =>
    rcases same_sqT s h1 with (h | ⟨o, h⟩) | ⟨o, its, n, h1, h2, _⟩
    · exact .base (.tup h)
    · exact .fTuple h
    · exact .kTuple h1 h2
  | lst h1 _ => exact .base (.lst (s _ _ h1))
  | scr h1 _ =>
    rcases s.seq h1 with (h | ⟨o, h⟩) | ⟨o, its, n, h1, h2, _⟩
    · exact .base (.lst h)
    · exact .base (.frz h)
    · exact .kList h1 h2
  | dct h1 _ => exact .base (.dK (s _ _ h1))
  | atm v => cases h
@[simp] def isiD (t : TyN) : SN := n2 fun d e Q => e = .atm (.ty t.nm) ∧ noAtm d = true ∧ Q (.bl (isI t d))
theorem c_isi (t : TyN) : DCl X (.builtin "isinstance") (isiD t) := by
  refine ⟨_, call_isi, fun F H xs ds Q Q' s r h k => ?_⟩
  obtain ⟨d, e, rfl, rfl, h1, h⟩ := n2_of h
  obtain ⟨v, w, rfl, r1, r2⟩ := rpa2 r
  cases r2
  exact ⟨_, _, _, _, _, rfl, .ty _, tyx_of s r1 h1, kit_ty (kit_D t d h1), k _ _ F H h .nil (.bl _)⟩
/-- isinstance(x, (T, U)) -/
@[simp] def qIsi2 (t u : TyN) (te : TD) : TD := fun env Q => te env fun d env1 => noAtm d = true ∧ Q (.bl (isI t d || isI u d)) env1
theorem de_isi2 {B : Bd} {te : TD} {ce : Expr} (t u : TyN) (p : PE X ce (tCB (rIsiT X.K) (tCons (canE X.K B te) (tCons (tTup (tCons (tC (.ty t.nm)) (tCons (tC (.ty u.nm)) tNil))) tNil)))) : DE X B ce (qIsi2 t u te) := by
  refine ⟨_, p, fun F H σ env Q Q' R ht k => ?_⟩
  refine ⟨F, env, _, R, ht, fun d env1 v F1 H1 q s1 R1 r1 => ?_⟩
  refine ⟨by show 2 ≤ sizeLine; decide, fun p hp => ?_⟩
  refine ⟨v, p, _, _, [.type t.nm, .type u.nm], (isI t d || isI u d), rfl, upd_same, .cons (.ty _) (.cons (.ty _) .nil), tyx_of (R1.sub.trans (same_upd hp)) r1 q.1, ?_, k _ env1 _ F1 _ q.2 s1 (R1.junk hp) (.bl _)⟩
  refine kitAny_cons (kit_ty (kit_D t d q.1)) (fun e => ?_) (fun e => by rw [e]; rfl)
  rw [e, Bool.false_or]
  refine kitAny_cons (kit_ty (kit_D u d q.1)) (fun e => ?_) (fun e => e)
  rw [e]; exact kitAny_nil
/-! ### int, abs, max, min, sum, all, any, list, tuple -/
@[simp] def intD : D → (D → Prop) → Prop := fun d Q => match d with
  | .int i => Q (.int i)
  | .bl k => Q (.int (if k then 1 else 0))
  | .str z => ∃ n, PySem.intText? z = some n ∧ z.length ≤ 640 ∧ Q (.int n)
  | _ => False
theorem c_int : DCl X (.type "int") (n1 intD) := by
  refine ⟨_, call_int1.or call_int_str, fun F H xs ds Q Q' s r h k => ?_⟩
  obtain ⟨d, rfl, h⟩ := n1_of h
  obtain ⟨v, rfl, r1⟩ := rpa1 r
  cases r1 with
  | int i => exact .inl (.inl ⟨_, rfl, k _ _ F H h .nil (.int _)⟩)
  | bl i => exact .inl (.inr ⟨_, rfl, k _ _ F H h .nil (.int _)⟩)
  | str z => obtain ⟨n, h1, h2, h⟩ := h; exact .inr ⟨_, n, rfl, h1, h2, k _ _ F H h .nil (.int _)⟩
  | _ => exact h.elim
@[simp] def absD : D → (D → Prop) → Prop := fun d Q => match d with
  | .int i => Q (.int (if i < 0 then -i else i))
  | _ => False
theorem c_abs : DCl X (.builtin "abs") (n1 absD) := by
  refine ⟨_, call_abs, fun F H xs ds Q Q' s r h k => ?_⟩
  obtain ⟨d, rfl, h⟩ := n1_of h
  obtain ⟨v, rfl, r1⟩ := rpa1 r
  cases r1 <;> first | exact h.elim | exact ⟨_, rfl, k _ _ F H h .nil (.int _)⟩
@[simp] def max2D : D → D → (D → Prop) → Prop := fun d e Q => match d, e with
  | .int i, .int j => Q (.int (if j > i then j else i))
  | _, _ => False
@[simp] def min2D : D → D → (D → Prop) → Prop := fun d e Q => match d, e with
  | .int i, .int j => Q (.int (if j < i then j else i))
  | _, _ => False
theorem c_max2 (hc : X.calm = true) : DCl X (.builtin "max") (n2 max2D) := by
  refine ⟨_, call_max2 hc, fun F H xs ds Q Q' s r h k => ?_⟩
  obtain ⟨d, e, rfl, h⟩ := n2_of h
  obtain ⟨v, w, rfl, r1, r2⟩ := rpa2 r
  cases r1 <;> cases r2 <;> first | exact h.elim | exact ⟨_, _, rfl, k _ _ F H h .nil (.int _)⟩
theorem c_min2 (hc : X.calm = true) : DCl X (.builtin "min") (n2 min2D) := by
  refine ⟨_, call_min2 hc, fun F H xs ds Q Q' s r h k => ?_⟩
  obtain ⟨d, e, rfl, h⟩ := n2_of h
  obtain ⟨v, w, rfl, r1, r2⟩ := rpa2 r
  cases r1 <;> cases r2 <;> first | exact h.elim | exact ⟨_, _, rfl, k _ _ F H h .nil (.int _)⟩
/-- one list -/
@[simp] def onLst (f : List D → (D → Prop) → Prop) : SN := n1 fun d Q => match d with
  | .lst xs => f xs Q
  | .scr xs => f xs Q
  | _ => False
theorem lst_run {f : Value} {r : List V → Hp → VK → Prop} {g : List D → (D → Prop) → Prop} (hr : CallR X f r)
    (h : ∀ (F H : Hp) (a : Addr) (vs : List V) (ds : List D) (Q : D → Prop) (Q' : VK), Same F H → SqL X.K H a vs → RpA X.K F vs ds → g ds Q → (∀ d' v F' H', Q d' → Stp F H F' H' → Rp X.K F' v d' → Q' v H') → r [.ref a] H Q') : DCl X f (onLst g) := by
  refine ⟨r, hr, fun F H xs ds Q Q' s ra hq k => ?_⟩
  obtain ⟨d, rfl, hq⟩ := n1_of hq
  obtain ⟨v, rfl, r1⟩ := rpa1 ra
  cases r1 with
  | lst h1 ra' => exact h F H _ _ _ Q Q' s (.of (s _ _ h1)) ra' hq k
  | scr h1 ra' => exact h F H _ _ _ Q Q' s (s.seq h1) ra' hq k
  | _ => exact hq.elim
theorem c_sum (hc : X.calm = true) : DCl X (.builtin "sum") (onLst fun ds Q => ∃ ns : List Int, ds = ns.map D.int ∧ Q (.int ns.sum)) :=
  lst_run (cr_sum hc) fun F H a vs ds Q Q' s hs ra ⟨ns, e, h⟩ k => by
    subst e
    rw [ra.of_ints] at hs
    exact ⟨a, ns, rfl, hs, k _ _ F H h .nil (.int _)⟩
theorem c_max (hc : X.calm = true) : DCl X (.builtin "max") (onLst fun ds Q => ∃ ns : List Int, ds = ns.map D.int ∧ 0 < ns.length ∧ ∀ m, m ∈ ns → (∀ y, y ∈ ns → y ≤ m) → Q (.int m)) :=
  lst_run (cr_max hc) fun F H a vs ds Q Q' s hs ra ⟨ns, e, h1, h⟩ k => by
    subst e
    rw [ra.of_ints] at hs
    exact ⟨a, ns, rfl, hs, h1, fun m a b => k _ _ F H (h m a b) .nil (.int _)⟩
theorem c_min (hc : X.calm = true) : DCl X (.builtin "min") (onLst fun ds Q => ∃ ns : List Int, ds = ns.map D.int ∧ 0 < ns.length ∧ ∀ m, m ∈ ns → (∀ y, y ∈ ns → m ≤ y) → Q (.int m)) :=
  lst_run (cr_min hc) fun F H a vs ds Q Q' s hs ra ⟨ns, e, h1, h⟩ k => by
    subst e
    rw [ra.of_ints] at hs
    exact ⟨a, ns, rfl, hs, h1, fun m a b => k _ _ F H (h m a b) .nil (.int _)⟩
theorem c_all (hc : X.calm = true) : DCl X (.builtin "all") (onLst fun ds Q => ∃ bs : List Bool, ds = bs.map D.bl ∧ Q (.bl (bs.all id))) :=
  lst_run (cr_all hc) fun F H a vs ds Q Q' s hs ra ⟨ns, e, h⟩ k => by
    subst e
    rw [ra.of_bls] at hs
    exact ⟨a, ns, rfl, hs, k _ _ F H h .nil (.bl _)⟩
theorem c_any (hc : X.calm = true) : DCl X (.builtin "any") (onLst fun ds Q => ∃ bs : List Bool, ds = bs.map D.bl ∧ Q (.bl (bs.any id))) :=
  lst_run (cr_any hc) fun F H a vs ds Q Q' s hs ra ⟨ns, e, h⟩ k => by
    subst e
    rw [ra.of_bls] at hs
    exact ⟨a, ns, rfl, hs, k _ _ F H h .nil (.bl _)⟩
theorem c_sorted : DCl X (.builtin "sorted") (onLst fun ds Q => ∃ ns : List Int, ds = ns.map D.int ∧ ns.length < 64 ∧ ∀ ns' : List Int, ns'.Perm ns → ns'.Pairwise (· ≤ ·) → Q (.lst (ns'.map D.int))) :=
  lst_run cr_sorted fun F H a vs ds Q Q' s hs ra ⟨ns, e, h1, h⟩ k => by
    subst e
    rw [ra.of_ints] at hs
    exact ⟨a, ns, rfl, hs, h1, fun ns' p e1 e2 hp => k _ _ _ _ (h ns' e1 e2) (.new hp) (.lst upd_same (RpA.ints ns'))⟩
@[simp] def listD : D → (D → Prop) → Prop := fun d Q => match d with
  | .lst xs => Q (.lst xs)
  | .scr xs => Q (.lst xs)
  | .tup xs => Q (.lst xs)
  | _ => False
theorem c_list : DCl X (.type "list") (n1 listD) := by
  refine ⟨_, call_list_of, fun F H xs ds Q Q' s r h k => ?_⟩
  obtain ⟨d, rfl, h⟩ := n1_of h
  obtain ⟨v, rfl, r1⟩ := rpa1 r
  cases r1 with
  | lst h1 ra => exact ⟨_, _, rfl, .inl (.of (s _ _ h1)), fun p hp => k _ _ _ _ h (.new hp) (.lst upd_same (ra.mono (same_upd (s.free hp))))⟩
  | scr h1 ra => exact ⟨_, _, rfl, .inl (s.seq h1), fun p hp => k _ _ _ _ h (.new hp) (.lst upd_same (ra.mono (same_upd (s.free hp))))⟩
  | tup h1 ra => exact ⟨_, _, rfl, .inr (same_sqT s h1), fun p hp => k _ _ _ _ h (.new hp) (.lst upd_same (ra.mono (same_upd (s.free hp))))⟩
  | _ => exact h.elim
@[simp] def tupleD : D → (D → Prop) → Prop := fun d Q => match d with
  | .lst xs => Q (.tup xs)
  | .scr xs => Q (.tup xs)
  | .tup xs => Q (.tup xs)
  | _ => False
theorem c_tuple : DCl X (.type "tuple") (n1 tupleD) := by
  refine ⟨_, call_tuple_of, fun F H xs ds Q Q' s r h k => ?_⟩
  obtain ⟨d, rfl, h⟩ := n1_of h
  obtain ⟨v, rfl, r1⟩ := rpa1 r
  cases r1 with
  | lst h1 ra => exact ⟨_, _, rfl, .inl ⟨.of (s _ _ h1), fun p hp => k _ _ _ _ h (.new hp) (.tup (.of upd_same) (ra.mono (same_upd (s.free hp))))⟩⟩
  | scr h1 ra => exact ⟨_, _, rfl, .inl ⟨s.seq h1, fun p hp => k _ _ _ _ h (.new hp) (.tup (.of upd_same) (ra.mono (same_upd (s.free hp))))⟩⟩
  | tup h1 ra => exact ⟨_, _, rfl, .inr ⟨same_sqT s h1, k _ _ F H h .nil (.tup h1 ra)⟩⟩
  | _ => exact h.elim
/-! ### slices -/
def cutD {α : Type} (xs : List α) (lo hi : Option Int) : List α := (xs.drop (HT.sIx xs.length 0 lo)).take (HT.sIx xs.length xs.length hi - HT.sIx xs.length 0 lo)
@[simp] def slD : S3 := fun d lo hi Q => match d with
  | .lst xs => Q (.lst (cutD xs lo hi))
  | .scr xs => Q (.lst (cutD xs lo hi))
  | .tup xs => Q (.tup (cutD xs lo hi))
  | .str z => z.length ≤ sizeLine ∧ Q (.str (cutS z lo hi))
  | _ => False
theorem RpA.cut {K : PySem.W.Frag} {F : Hp} {vs : List V} {ds : List D} (r : RpA K F vs ds) (lo hi : Option Int) : RpA K F (cutV vs lo hi) (cutD ds lo hi) := by
  unfold cutV cutD
  rw [r.length]
  exact (r.drop _).take _
theorem cut_whole {α : Type} {xs : List α} {lo hi : Option Int} (h : HT.sIx xs.length 0 lo = 0 ∧ HT.sIx xs.length xs.length hi = xs.length) : cutD xs lo hi = xs := by
  unfold cutD
  rw [h.1, h.2]
  simp
theorem o_sl : DSl X slD := by
  refine ⟨_, sl_list.or (sl_tupA.or sl_str), fun F H x d lo hi Q Q' s r h k => ?_⟩
  cases r with
  | lst h1 ra => exact .inl ⟨_, _, rfl, .of (s _ _ h1), fun p hp => k _ _ _ _ h (.new hp) (.lst upd_same ((ra.cut lo hi).mono (same_upd (s.free hp))))⟩
  | scr h1 ra => exact .inl ⟨_, _, rfl, s.seq h1, fun p hp => k _ _ _ _ h (.new hp) (.lst upd_same ((ra.cut lo hi).mono (same_upd (s.free hp))))⟩
  | tup h1 ra =>
    refine .inr (.inl ⟨_, _, rfl, same_sqT s h1, fun w => ?_, fun _ p hp => k _ _ _ _ h (.new hp) (.tup (.of upd_same) ((ra.cut lo hi).mono (same_upd (s.free hp))))⟩)
    rw [ra.length] at w
    have h : Q (.tup (cutD _ lo hi)) := h
    rw [cut_whole w] at h
    exact k _ _ F H h .nil (.tup h1 ra)
  | str z => exact .inr (.inr ⟨_, rfl, h.1, k _ _ F H h.2 .nil (.str _)⟩)
  | _ => exact h.elim
end
end L2.DL

namespace L2.DL
open PySem PySem.Spec PyProof.Rows

section
variable {X : Cx} {B : Bd} {tg e a b c : Expr} {te ta tb : TD} {pos : Pos} {st : Stmt} {t u : TDS} {es : List Expr} {tr : TDA}
/-! ### a list, tuple or text that is gone through -/
def iSeq (K : PySem.W.Frag) (te : TE) : TI := fun σ H R => te σ H fun x H1 => (∃ a, x = .ref a ∧ (∃ xs, SqL K H1 a xs) ∧ R (Itl K a) H1) ∨ (∃ a, x = .ref a ∧ (∃ xs, SqT K H1 a xs) ∧ R (Itt K a) H1) ∨ ∃ z, x = .str z ∧ R (Its z) H1
theorem pi_seq {te : TE} (he : PE X e te) : PI X tg e (iSeq X.K te) := by
  refine ⟨fun pins s σ H R I h => ?_⟩
  refine thn (he.run pins s σ H _ I h) fun v s1 ⟨x, H1, I1, r1, q1⟩ => ?_
  rcases q1 with ⟨a, e, ⟨xs, hq⟩, q⟩ | ⟨a, e, ⟨xs, hq⟩, q⟩ | ⟨z, e, q⟩
  · subst e
    cases r1
    obtain ⟨its, rv, p, hz⟩ := I1.list hq
    refine wpAny_pyIter_list p.isList ?_
    refine ⟨s1.heap.objs.size, [s1.heap.objs.size], _, _, H1, rfl, I1.kept (t' := s1.toks) fun b o e => Heap.get?_push_of_some _ e, turn_list a _, ⟨_, Heap.get?_push_size _ rfl, rfl, rfl⟩, fun b hb => ?_, q⟩
    have e : b = s1.heap.objs.size := by simpa using hb
    subst e
    exact I1.fpOk (Nat.le_refl _) (I1.hok.fresh (Nat.le_refl _))
  · subst e
    cases r1
    obtain ⟨its, rv, p, hz⟩ := I1.tuple hq
    refine wpAny_pyIter_tuple (show s1.heap.IsTuple a its.toArray from p) ?_
    refine ⟨s1.heap.objs.size, [s1.heap.objs.size], _, _, H1, rfl, I1.kept (t' := s1.toks) fun b o e => Heap.get?_push_of_some _ e, turn_tuple a _, ⟨_, Heap.get?_push_size _ rfl, rfl, rfl⟩, fun b hb => ?_, q⟩
    have e : b = s1.heap.objs.size := by simpa using hb
    subst e
    exact I1.fpOk (Nat.le_refl _) (I1.hok.fresh (Nat.le_refl _))
  · subst e
    obtain ⟨t, rfl⟩ := r1
    cases ha : z.cps.all (· < 128)
    · exact wpAny_pyIter_wide ha (pi_one (tk := s1.toks) I1 _ (turn_str _ z t "str_iterator" (.inr rfl)) ⟨_, Heap.get?_push_size _ rfl, rfl, rfl⟩ q)
    · exact wpAny_pyIter_ascii ha (pi_one (tk := s1.toks) I1 _ (turn_str _ z t "str_ascii_iterator" (.inl rfl)) ⟨_, Heap.get?_push_size _ rfl, rfl, rfl⟩ q)
/-- the items of what is gone through -/
def itemsD : D → Option (List D)
  | .lst ds => some ds
  | .scr ds => some ds
  | .tup ds => some ds
  | .str z => some (z.cps.toList.map fun c => D.str ⟨#[c]⟩)
  | _ => none
@[simp] def qIter (t : TD) : TDI := fun env Q => t env fun d env1 => match d with
  | .lst ds => Q ds env1
  | .scr ds => Q ds env1
  | .tup ds => Q ds env1
  | .str z => Q (z.cps.toList.map fun c => D.str ⟨#[c]⟩) env1
  | _ => False
theorem iter_list {K : PySem.W.Frag} {a : Addr} {vs : List V} {ds : List D} {F0 : Hp} (hs : SqL K F0 a vs) (ra : RpA K F0 vs ds) : IterOk K (Itl K a) ds F0 := fun F H i s0 sH => by
  have hq := sH.seq (s0.seq hs)
  refine ⟨fun e => ⟨vs, hq, by rw [ra.length, e]; exact Nat.le_refl _⟩, fun d e => ?_⟩
  obtain ⟨v, hv, rv⟩ := ra.get e
  refine ⟨⟨vs, v, hq, hv⟩, ?_⟩
  rintro x H' ⟨rfl, y⟩
  have := y vs hq
  rw [hv] at this; cases this
  exact ⟨F, .nil, rv.mono s0⟩
theorem iter_tup {K : PySem.W.Frag} {a : Addr} {vs : List V} {ds : List D} {F0 : Hp} (hs : SqT K F0 a vs) (ra : RpA K F0 vs ds) : IterOk K (Itt K a) ds F0 := fun F H i s0 sH => by
  have hq := same_sqT sH (same_sqT s0 hs)
  refine ⟨fun e => ⟨vs, hq, by rw [ra.length, e]; exact Nat.le_refl _⟩, fun d e => ?_⟩
  obtain ⟨v, hv, rv⟩ := ra.get e
  refine ⟨⟨vs, v, hq, hv⟩, ?_⟩
  rintro x H' ⟨rfl, y⟩
  have := y vs hq
  rw [hv] at this; cases this
  exact ⟨F, .nil, rv.mono s0⟩
theorem iter_str {K : PySem.W.Frag} {z : Str} {F0 : Hp} : IterOk K (Its z) (z.cps.toList.map fun c => D.str ⟨#[c]⟩) F0 := fun F H i s0 sH => by
  refine ⟨fun e => by rw [List.length_map, Array.length_toList] at e; exact Nat.le_of_eq e.symm, fun d e => ?_⟩
  rw [List.getElem?_map] at e
  cases w : z.cps.toList[i]? with
  | none => rw [w] at e; cases e
  | some c =>
    rw [w] at e; cases e
    have hi : i < z.cps.size := by
      have := (List.getElem?_eq_some_iff.mp w).1
      rw [Array.length_toList] at this; exact this
    refine ⟨hi, ?_⟩
    rintro x H' ⟨rfl, c', hc, rfl⟩
    rw [Array.getElem?_toList] at w
    rw [hc] at w; cases w
    exact ⟨F, .nil, .str _⟩
theorem di_any (hl : DE X B e te) : DI X B tg e (qIter te) := by
  obtain ⟨ts, p, h⟩ := hl.ex
  refine ⟨_, pi_seq p, fun F H σ env Q R' R ht k => ?_⟩
  refine h F H σ env _ _ R ht fun d env1 v F1 H1 q1 s1 R1 r1 => ?_
  cases r1 with
  | lst hs ra => exact .inl ⟨_, rfl, ⟨_, .of (R1.sub _ _ hs)⟩, k _ env1 _ F1 H1 q1 s1 R1 (iter_list (.of hs) ra)⟩
  | scr hs ra => exact .inl ⟨_, rfl, ⟨_, R1.sub.seq hs⟩, k _ env1 _ F1 H1 q1 s1 R1 (iter_list hs ra)⟩
  | tup hs ra => exact .inr (.inl ⟨_, rfl, ⟨_, same_sqT R1.sub hs⟩, k _ env1 _ F1 H1 q1 s1 R1 (iter_tup hs ra)⟩)
  | str z => exact .inr (.inr ⟨_, rfl, k _ env1 _ F1 H1 q1 s1 R1 iter_str⟩)
  | _ => exact q1.elim
/-! ### a module's constants, built-in classes as values -/
structure GlobD (K : PySem.W.Frag) (mg : Str → Option Value) (x : Str) (d : D) : Prop where
  ex : ∃ u v, mg x = some u ∧ RelV v u ∧ ∀ F, Rp K F v d
theorem de_const {x : Str} {d : D} (hg : Gl X x) (h : GlobD X.K X.mg x d) (hd : (x == ("__debug__" : Str)) = false := by decide) : DE X B (.Name x pos) (qC d) := by
  obtain ⟨u, v, h1, h2, h3⟩ := h.ex
  exact de_glob hg h1 h2 h3 hd
theorem de_bty {x : Str} {T : String} (hg : Gl X x) (hm : X.mg x = none) (hv : bootBuiltins x = some (.type T)) (hn : x ≠ "__name__" := by decide) (hd : (x == ("__debug__" : Str)) = false := by decide) : DE X B (.Name x pos) (qC (.atm (.ty T))) :=
  de_tC (pe_bltn (v := .ty T) hg hm hv rfl hn hd) fun _ => .atm _
@[simp] def negD : S1 := fun d Q => match d with
  | .int i => Q (.int (-i))
  | _ => False
theorem u_neg : DUn X (unaryOp .USub) negD := by
  refine ⟨_, un_neg, fun F H x d Q Q' s r h k => ?_⟩
  cases r <;> first | exact h.elim | exact ⟨_, rfl, k _ _ F H h .nil (.int _)⟩
/-! ### x += e -/
@[simp] def sAug (i : Nat) (s : S2) (te : TD) : TDS := fun DD env => match env[i]? with
  | some (.val x) => te env fun d env1 => s x d fun r => setC i (.val r) env1 DD.nx
  | _ => False
def DIp (X : Cx) (op : Operator) (s : S2) : Prop :=
  ∃ r, PIp X op r ∧ ∀ (F H : Hp) (x y : V) (d e : D) (Q : D → Prop) (Q' : VK), Same F H → Rp X.K F x d → Rp X.K F y e → s d e Q →
    (∀ d' v F' H', Q d' → Stp F H F' H' → Rp X.K F' v d' → Q' v H') → r x y H Q'
theorem ip_iadd : DIp X .Add (i2 fun i j Q => Q (.int (i + j))) := by
  refine ⟨_, ip_add, fun F H x y d e Q Q' s rx ry h k => ?_⟩
  cases rx <;> cases ry <;> first | exact h.elim | exact ⟨_, _, rfl, rfl, k _ _ F H h .nil (.int _)⟩
theorem ip_isub : DIp X .Sub (i2 fun i j Q => Q (.int (i - j))) := by
  refine ⟨_, ip_sub, fun F H x y d e Q Q' s rx ry h k => ?_⟩
  cases rx <;> cases ry <;> first | exact h.elim | exact ⟨_, _, rfl, rfl, k _ _ F H h .nil (.int _)⟩
theorem ds_aug {i : Nat} {x : Str} {op : Operator} {s : S2} {pos' : Pos} (hN : X.N.Nodup) (he : DE X B e te) (ho : DIp X op s) (hi : X.N[i]? = some x := by rfl) (hx : Loc X.env.scope x := by first | exact Or.inl rfl | exact Or.inr rfl) (hf : X.fn x = true ∨ X.env.scope.names.lookup x = some .local := by first | exact .inl rfl | exact .inr rfl | assumption) :
    DS X B (.AugAssign (.Name x pos') op e pos) (sAug i s te) := by
  obtain ⟨r, hr, h⟩ := ho
  obtain ⟨ts, p, h1⟩ := he.ex
  refine ⟨_, ps_aug (i := i) hN hi hx p hr hf, fun F H σ env DD DH R ht l => ?_⟩
  unfold sAug at ht
  split at ht
  · rename_i d ed
    obtain ⟨v, ev, rv⟩ := R.cells i _ ed
    refine ⟨v, ev, h1 F H σ env _ _ R ht fun d2 env1 w F1 H1 q s1 R1 r1 => ?_⟩
    refine h F1 H1 v w d d2 _ _ R1.sub (rv.mono s1) r1 q fun d' z F2 H2 q2 st2 r2 => ?_
    exact l.nx _ _ F2 H2 (setC_of q2) (s1.trans (st2.same R1.sub)) ((R1.stp st2).set r2 i)
  · exact ht.elim
/-! ### a, b, c = one's own list -/
@[simp] def sUnpO (i n : Nat) (g : TDGs) : TDS := fun DD env => ownL env i fun _ xs => xs.length = n ∧ g xs env DD.nx
theorem ds_unpO {i k : Nat} {x : Str} {p : Pos} {n : Nat} {vs : List Nat} {g : TDGs} (hc : X.calm = true) (ha : PE X (.Name x p) (tVar i)) (hg : DGs X B es vs g) (hn : (assignEach es X.env).length = n := by rfl) (hst : (assignEach es X.env).findIdx? (·.1) = none := by rfl) {tpos : Pos}
    (hs : swapsWithSole [.Tuple es k tpos] (.Name x p) pos.line X.env = pure false := by rfl) (hw : swappedStores [.Tuple es k tpos] (.Name x p) X.env = pure none := by rfl)
    (h1 : (assignEach [.Tuple es k tpos] X.env).map (·.2) = [assign (.Tuple es k tpos) X.env] := by rfl) : DS X B (.Assign [.Tuple es k tpos] (.Name x p) pos) (sUnpO i n g) := by
  obtain ⟨gs, p2, h2⟩ := hg.ex
  refine ⟨_, ps_asg ha (pg_lst hc p2 hn hst) hs hw h1, fun F H σ env DD DH R ht l => ?_⟩
  obtain ⟨fr, xs, e0, hn, ht⟩ := ownL_of ht
  obtain ⟨a, vs, s, h1, ra⟩ := own_read R e0
  refine ⟨_, s, a, vs, rfl, .of h1, ra.length.trans hn, ?_⟩
  exact h2 F H σ env xs vs _ _ R ra ht fun env2 σ2 q2 _ R2 => l.nx env2 σ2 F H q2 (Same.refl _) R2
end
/-- the law's call: the script -/
theorem law_start {K : PySem.W.Frag} {H : Hp} {a : Addr} {ns : List Int} {spec : FSpec} {E : XK} (hS : SqL K H a (ns.map V.int)) (h : spec [.val (.scr (ns.map D.int))] fun d _ => d = .bl true) : spD K 1 spec [.ref a] H (fun v _ => v = .bl true) E := by
  refine ⟨H, fun _ => False, [.val (.scr (ns.map D.int))], rfl, ⟨rfl, Same.refl _, fun b o e _ => e, Same.refl _, fun b e n => absurd e n, fun _ h => h.elim, fun _ h => h.elim, fun _ h => h.elim, fun b o e => (by cases e), fun _ _ => rfl, fun b o e => (by cases e), fun i c e => ?_, ?_⟩, _, h, fun d cs' v F' H' q _ _ r => ?_⟩
  · cases i with
    | zero => cases e; exact ⟨_, rfl, .scr hS (RpA.ints ns)⟩
    | succ i => cases e
  · intro i j b c c' e1 _ w1 _ _ _
    cases i with
    | zero => cases e1; cases w1
    | succ i => cases e1
  · subst q; cases r; rfl
theorem outs_nil {env : DEnv} : Outs env [] := by cases env <;> trivial
theorem cdv_small {i j : Int} (h0 : 0 < j) (h1 : j < 1073741824) : CDv i j := .inl ⟨h0, h1⟩
theorem cml_l {i j : Int} (h0 : -18446744073709551616 < i) (h1 : i < 18446744073709551616) : CMl i j := .inl (.inl ⟨h0, h1⟩)
theorem cml_r {i j : Int} (h0 : -18446744073709551616 < j) (h1 : j < 18446744073709551616) : CMl i j := .inl (.inr ⟨h0, h1⟩)
theorem atI_mod {α : Type} {xs : List α} {i : Int} (h : 0 < (xs.length : Int)) : ∃ x, atI xs (i % (xs.length : Int)) = some x ∧ x ∈ xs := by
  have h1 : 0 ≤ i % (xs.length : Int) := Int.emod_nonneg _ (by omega)
  have h2 : i % (xs.length : Int) < xs.length := Int.emod_lt_of_pos _ h
  have h3 : (i % (xs.length : Int)).toNat < xs.length := by omega
  refine ⟨xs[(i % (xs.length : Int)).toNat], ?_, List.getElem_mem _⟩
  have := atI_nat (xs := xs) (List.getElem?_eq_getElem h3)
  rwa [Int.toNat_of_nonneg h1] at this
abbrev onL_sum : SN := onLst fun ds Q => ∃ ns : List Int, ds = ns.map D.int ∧ Q (.int ns.sum)
abbrev onL_max : SN := onLst fun ds Q => ∃ ns : List Int, ds = ns.map D.int ∧ 0 < ns.length ∧ ∀ m, m ∈ ns → (∀ y, y ∈ ns → y ≤ m) → Q (.int m)
abbrev onL_min : SN := onLst fun ds Q => ∃ ns : List Int, ds = ns.map D.int ∧ 0 < ns.length ∧ ∀ m, m ∈ ns → (∀ y, y ∈ ns → m ≤ y) → Q (.int m)
abbrev onL_all : SN := onLst fun ds Q => ∃ bs : List Bool, ds = bs.map D.bl ∧ Q (.bl (bs.all id))
abbrev onL_any : SN := onLst fun ds Q => ∃ bs : List Bool, ds = bs.map D.bl ∧ Q (.bl (bs.any id))
abbrev onL_sorted : SN := onLst fun ds Q => ∃ ns : List Int, ds = ns.map D.int ∧ ns.length < 64 ∧ ∀ ns' : List Int, ns'.Perm ns → ns'.Pairwise (· ≤ ·) → Q (.lst (ns'.map D.int))
/-- what a law's feed holds: its numbers, a place, what is left -/
def PenOk : OC → Prop := fun c => ∃ (xs : List Int) (i j : Int), c = .lst [.lst (xs.map D.int), .int i, .int j]
end L2.DL

namespace L2.DL
open PySem PySem.Spec PyProof.Rows

/-! ### int('1' + '0' * n) -/
theorem fold_app {α : Type} (l : List (Array α)) : ∀ (a : Array α), (l.foldl (· ++ ·) a).toList = a.toList ++ (l.map Array.toList).flatten := by
  induction l with
  | nil => intro a; simp
  | cons x r ih => intro a; rw [List.foldl_cons, ih]; simp
theorem repS_one (c n : Nat) : repS (SX.S [c]) n = SX.S (List.replicate n c) := by
  have h : ((List.replicate n (SX.S [c]).cps).foldl (· ++ ·) #[]).toList = List.replicate n c := by
    rw [fold_app, List.map_replicate]
    show [] ++ (List.replicate n [c]).flatten = _
    rw [List.nil_append]
    induction n with
    | zero => rfl
    | succ n ih => rw [List.replicate_succ, List.flatten_cons, ih]; rfl
  show (⟨(List.replicate n (SX.S [c]).cps).foldl (· ++ ·) #[]⟩ : Str) = ⟨(List.replicate n c).toArray⟩
  congr 1
  exact Array.ext' (by rw [h])
theorem digits_zero (n : Nat) : ∀ a : Nat, (List.replicate n 48).foldl (fun acc c => acc * 10 + (c - 48)) a = a * 10 ^ n := by
  induction n with
  | zero => intro a; simp
  | succ n ih => intro a; rw [List.replicate_succ, List.foldl_cons, ih, Nat.pow_succ]; simp [Nat.mul_assoc, Nat.mul_comm]
theorem ten_S (n : Nat) : (SX.S [49] ++ repS (SX.S [48]) n : Str) = SX.S (49 :: List.replicate n 48) := by rw [repS_one, SX.S_cat]; rfl
theorem ten_text (n : Nat) (h : n ≤ 639) : PySem.intText? (SX.S [49] ++ repS (SX.S [48]) n) = some ((10 : Int) ^ n) ∧ (SX.S [49] ++ repS (SX.S [48]) n : Str).length ≤ 640 := by
  rw [ten_S]
  constructor
  · rw [SX.int_S]
    · show some (((List.replicate n 48).foldl (fun acc c => acc * 10 + (c - 48)) (0 * 10 + (49 - 48)) : Nat) : Int) = _
      rw [digits_zero]
      simp
    · simp [List.all_replicate]
    · simp
    · simp; omega
  · rw [SX.S_len]; simp; omega
/-- the walk of the text of a power of ten, as the transformers spell it -/
theorem ten_run (m : Int) (h0 : 1 < m) (h1 : m ≤ 639) (Q : D → Prop) (hq : Q (.int (10 ^ m.toNat))) :
    mulD (.str (Str.ofString "0")) (.int m) fun d => addD (.str (Str.ofString "1")) d fun d2 => intD d2 Q := by
  refine ⟨⟨by omega, by omega, by decide, by decide⟩, ?_⟩
  obtain ⟨a, b⟩ := ten_text m.toNat (by omega)
  refine ⟨?_, _, a, b, hq⟩
  have e : (Str.ofString "0") = SX.S [48] := rfl
  rw [e, repS_one]
  show (Str.ofString "1").length + (SX.S (List.replicate m.toNat 48)).length ≤ sizeLine
  rw [SX.S_len (List.replicate m.toNat 48), List.length_replicate]
  have h2 : (Str.ofString "1").length = 1 := rfl
  rw [h2]
  have h3 : sizeLine ≥ 1000 := by decide
  omega
theorem atI_all {α : Type} {l : List α} (p : α → Bool) {r : Int} (h : l.all p = true) (h0 : 0 ≤ r) (h1 : r < (l.length : Int)) : ∃ x, atI l r = some x ∧ p x = true := by
  have h3 : r.toNat < l.length := by omega
  refine ⟨l[r.toNat], ?_, List.all_eq_true.mp h _ (List.getElem_mem _)⟩
  have := atI_nat (xs := l) (List.getElem?_eq_getElem h3)
  rwa [Int.toNat_of_nonneg h0] at this
def intB (p : Int → Bool) : D → Bool
  | .int i => p i
  | _ => false
theorem intB_of {p : Int → Bool} {d : D} (h : intB p d = true) : ∃ i, d = .int i ∧ p i = true := by
  cases d <;> first | exact ⟨_, rfl, h⟩ | cases h
theorem cut_ints (ns : List Int) (lo hi : Option Int) : ∃ xs : List Int, cutD (ns.map D.int) lo hi = xs.map D.int :=
  ⟨cutD ns lo hi, by unfold cutD; rw [List.length_map, ← List.map_drop, ← List.map_take]⟩
theorem pen_start (ns : List Int) (lo hi : Option Int) (i j : Int) : PenOk (OC.lst [D.lst (cutD (ns.map D.int) lo hi), D.int i, D.int j]) := by
  obtain ⟨xs, e⟩ := cut_ints ns lo hi
  exact ⟨xs, i, j, by rw [e]⟩
/-! ### == of data without truths is to be the same -/
mutual
def D.cl : D → Bool
  | .non => true
  | .int _ => true
  | .str _ => true
  | .tup xs => D.cls xs
  | .lst xs => D.cls xs
  | .bl _ => false
  | .scr _ => false
  | .atm _ => false
  | .dct _ => false
def D.cls : List D → Bool
  | [] => true
  | d :: r => d.cl && D.cls r
end
mutual
theorem eqv_iff : ∀ (d e : D), d.cl = true → e.cl = true → (PyData.eqv d.py e.py = true ↔ d = e)
  | .non, e, _, h => by cases e <;> first | (simp [D.py, PyData.eqv]; done) | cases h
  | .int i, e, _, h => by cases e <;> first | (simp [D.py, PyData.eqv]; done) | cases h
  | .str i, e, _, h => by cases e <;> first | (simp [D.py, PyData.eqv]; done) | cases h
  | .tup xs, e, k, h => by
    cases e with
    | tup ys => rw [D.cl] at k h; simp only [D.py, PyData.eqv, D.tup.injEq]; exact eqvs_iff xs ys k h
    | _ => first | (simp [D.py, PyData.eqv]; done) | cases h
  | .lst xs, e, k, h => by
    cases e with
    | lst ys => rw [D.cl] at k h; simp only [D.py, PyData.eqv, D.lst.injEq]; exact eqvs_iff xs ys k h
    | _ => first | (simp [D.py, PyData.eqv]; done) | cases h
  | .bl _, _, h, _ => by cases h
  | .scr _, _, h, _ => by cases h
  | .atm _, _, h, _ => by cases h
  | .dct _, _, h, _ => by cases h
theorem eqvs_iff : ∀ (d e : List D), D.cls d = true → D.cls e = true → (PyData.eqvAll (D.pys d) (D.pys e) = true ↔ d = e)
  | [], [], _, _ => by simp [D.pys, PyData.eqvAll]
  | [], _ :: _, _, _ => by simp [D.pys, PyData.eqvAll]
  | _ :: _, [], _, _ => by simp [D.pys, PyData.eqvAll]
  | d :: r, e :: q, h, k => by
    rw [D.cls, Bool.and_eq_true] at h k
    rw [D.pys, D.pys, PyData.eqvAll, Bool.and_eq_true, eqv_iff d e h.1 k.1, eqvs_iff r q h.2 k.2, List.cons.injEq]
end
end L2.DL

namespace L2.DL
open PySem PySem.Spec PyProof.Rows

/-! ### how many bits a number may have -/
def Sz (n : Nat) (v : Int) : Prop := v.natAbs < 2 ^ n
theorem Sz.mono {n m : Nat} {v : Int} (h : Sz n v) (l : n ≤ m) : Sz m v := Nat.lt_of_lt_of_le h (Nat.pow_le_pow_right (by decide) l)
theorem Sz.add {n m : Nat} {v w : Int} (h : Sz n v) (k : Sz m w) : Sz (max n m + 1) (v + w) := by
  have h := h.mono (Nat.le_max_left n m)
  have k := k.mono (Nat.le_max_right n m)
  unfold Sz at *
  rw [Nat.pow_succ]
  omega
theorem Sz.neg {n : Nat} {v : Int} (h : Sz n v) : Sz n (-v) := by unfold Sz at *; rw [Int.natAbs_neg]; exact h
theorem Sz.sub {n m : Nat} {v w : Int} (h : Sz n v) (k : Sz m w) : Sz (max n m + 1) (v - w) := by rw [Int.sub_eq_add_neg]; exact h.add k.neg
theorem Sz.mul {n m : Nat} {v w : Int} (h : Sz n v) (k : Sz m w) : Sz (n + m) (v * w) := by
  unfold Sz at *
  rw [Int.natAbs_mul, Nat.pow_add]
  exact Nat.mul_lt_mul_of_lt_of_le h (Nat.le_of_lt k) (Nat.two_pow_pos m)
theorem Sz.abs {n : Nat} {v : Int} (h : Sz n v) : Sz n (if v < 0 then -v else v) := by
  split
  · exact h.neg
  · exact h
theorem Sz.small {v : Int} (h0 : -18446744073709551616 < v) (h1 : v < 18446744073709551616) : Sz 64 v := by
  unfold Sz
  have : (2 : Nat) ^ 64 = 18446744073709551616 := by decide
  omega
theorem Sz.ten (n : Nat) : Sz (4 * n + 1) ((10 : Int) ^ n) := by
  unfold Sz
  rw [Int.natAbs_pow]
  show 10 ^ n < 2 ^ (4 * n + 1)
  have h : 10 ^ n ≤ 16 ^ n := Nat.pow_le_pow_left (by decide) n
  have e : 2 ^ (4 * n) = 16 ^ n := by rw [Nat.pow_mul]
  rw [Nat.pow_succ, e]
  have : 0 < 16 ^ n := Nat.pos_of_ne_zero (by simp)
  omega
theorem Sz.max {n : Nat} {v w : Int} (h : Sz n v) (k : Sz n w) : Sz n (Max.max v w) := by
  rcases Int.le_total v w with q | q
  · rw [Int.max_eq_right q]; exact k
  · rw [Int.max_eq_left q]; exact h
theorem cml_sz {a b : Nat} {i j : Int} (ha : Sz a i) (hb : Sz b j) (h : a + b ≤ 1000000 := by decide) (h0 : 0 < a := by decide) (h1 : 0 < b := by decide) : CMl i j := .inr (wide_mul ha hb h0 h1 h)
theorem bit {r : Int} (h0 : 0 ≤ r) (h1 : r < 2) : r = 0 ∨ r = 1 := by omega
/-! ### == of data that we know only by name: kept whole -/
@[irreducible] def eqX : S2 := eqD
@[irreducible] def neX : S2 := neD
section
variable {X : Cx}
theorem o_eqX (hu : X.A.units + 64 < cLine) : DOp X (compareOp .Eq) eqX := by unfold eqX; exact o_eq hu
theorem o_neX (hu : X.A.units + 64 < cLine) : DOp X (compareOp .NotEq) neX := by unfold neX; exact o_ne hu
end
theorem eqX_of {d e : D} {Q : D → Prop} (h : eqD d e Q) : eqX d e Q := by unfold eqX; exact h
theorem neX_of {d e : D} {Q : D → Prop} (h : neD d e Q) : neX d e Q := by unfold neX; exact h
end L2.DL

namespace L2.DL
open PySem PySem.Spec PyProof.Rows

/-! ### sorted(..) of pairs of ints, by both numbers -/
inductive PrP (G : V → Int × Int → Prop) : List V → List (Int × Int) → Prop
  | nil : PrP G [] []
  | cons {x : V} {p : Int × Int} {xs : List V} {ps : List (Int × Int)} : G x p → PrP G xs ps → PrP G (x :: xs) (p :: ps)
def pairD (p : Int × Int) : D := .tup [.int p.1, .int p.2]
def rSortPairs (K : PySem.W.Frag) : List V → Hp → VK → Prop := fun vs H Q => ∃ (a : Addr) (xs : List V) (ps : List (Int × Int)) (G : V → Int × Int → Prop), vs = [V.ref a] ∧ SqL K H a xs ∧ PrP G xs ps ∧ (∀ x p, G x p → ∃ t, x = V.ref t ∧ SqT K H t [.int p.1, .int p.2]) ∧
  ∀ zs qs p, PrP G zs qs → qs.Perm ps → qs.Pairwise (fun x y => SrtO.lexB y x = false) → H p = none → Q (.ref p) (upd H p (.lst zs))
theorem ispair_uniq {h : Heap} {v : Value} {x y x' y' : Int} (p : Srt.IsPair h v x y) (q : Srt.IsPair h v x' y') : x = x' ∧ y = y' := by
  obtain ⟨a, o, t, u, n, e, ho, hc, hd⟩ := p
  obtain ⟨a', o', t', u', n', e', ho', hc', hd'⟩ := q
  subst e; cases e'
  rw [ho] at ho'; cases ho'
  rw [hd] at hd'
  simp at hd'
  exact ⟨hd'.1.1.1, hd'.1.2.1⟩
open Classical in
noncomputable def prK (h : Heap) (v : Value) : Int × Int := if e : ∃ p : Int × Int, Srt.IsPair h v p.1 p.2 then e.choose else (0, 0)
theorem prK_eq {h : Heap} {v : Value} {x : Int × Int} (p : Srt.IsPair h v x.1 x.2) : prK h v = x := by
  have e : ∃ p : Int × Int, Srt.IsPair h v p.1 p.2 := ⟨x, p⟩
  have e2 : prK h v = e.choose := by unfold prK; rw [dif_pos e]
  rw [e2]
  obtain ⟨a, b⟩ := ispair_uniq e.choose_spec p
  exact Prod.ext a b
section
variable {X : Cx}
theorem pr_its {pins : List (Addr × Obj)} {s : Shared} {σ : St} {H : Hp} {G : V → Int × Int → Prop} (I : Inv X pins σ H s) (hG : ∀ x p, G x p → ∃ t, x = V.ref t ∧ SqT X.K H t [.int p.1, .int p.2]) : ∀ {xs : List V} {ps : List (Int × Int)} {its : List Value}, PrP G xs ps → Vals xs its →
    (∀ v ∈ its, Srt.IsPair s.heap v (prK s.heap v).1 (prK s.heap v).2) ∧ its.map (prK s.heap) = ps ∧ ∀ v ∈ its, ∃ t, v = Value.ref t ∧ G (.ref t) (prK s.heap v)
  | _, _, _, .nil, .nil => ⟨fun _ m => absurd m (by simp), rfl, fun _ m => absurd m (by simp)⟩
  | _, _, _, .cons (x := x) (p := p) g r, .cons rv rr => by
    obtain ⟨h1, h2, h3⟩ := pr_its I hG r rr
    obtain ⟨t, rfl, h⟩ := hG _ _ g
    cases rv
    obtain ⟨its2, r2, ⟨o, ho, hc, n, hd⟩, _⟩ := I.tuple h
    obtain ⟨u1, u2, rfl, ri, rj⟩ := vals2 r2
    obtain ⟨t1, rfl⟩ := ri
    obtain ⟨t2, rfl⟩ := rj
    have ip : Srt.IsPair s.heap (.ref t) p.1 p.2 := ⟨t, o, t1, t2, n, rfl, ho, hc, hd⟩
    have ek := prK_eq ip
    refine ⟨fun v m => ?_, by rw [List.map_cons, ek, h2], fun v m => ?_⟩
    · rcases List.mem_cons.mp m with e | m
      · rw [e, ek]; exact ip
      · exact h1 v m
    · rcases List.mem_cons.mp m with e | m
      · rw [e, ek]; exact ⟨t, rfl, g⟩
      · exact h3 v m
theorem pr_of {G : V → Int × Int → Prop} {f : Value → Int × Int} : ∀ {out : List Value}, (∀ v ∈ out, ∃ t, v = Value.ref t ∧ G (.ref t) (f v)) → PrP G (out.map backV) (out.map f)
  | [], _ => .nil
  | v :: r, h => by
    obtain ⟨t, e, q⟩ := h v List.mem_cons_self
    have ih := pr_of fun u m => h u (List.mem_cons_of_mem _ m)
    subst e
    exact .cons q ih
theorem cr_sortPairs : CallR X (.builtin "sorted") (rSortPairs X.K) := by
  intro pins s σ H vs us Q I r h
  obtain ⟨a, xs, ps, G, rfl, hs, hx, hG, q⟩ := h
  obtain ⟨its, rv, hl, hz⟩ := I.list hs
  obtain ⟨u, rfl, ru⟩ := vals1 r
  obtain rfl : u = Value.ref a := ru
  obtain ⟨h1, h2, h3⟩ := pr_its I hG hx rv
  refine SrtO.sorted_pairsO (k := prK s.heap) hl.isList (by rw [← rv.length]; exact hz) h1 fun h' d out hp hst kk hd hn => ?_
  have h4 : ∀ v ∈ out, ∃ t, v = Value.ref t ∧ G (.ref t) (prK s.heap v) := fun v m => h3 v (hst.perm.mem_iff.mp m)
  have h5 : ∀ u ∈ out, ∃ a, u = Value.ref a := fun u m => by
    obtain ⟨t, e, _⟩ := h4 u m
    exact ⟨t, e⟩
  obtain ⟨n, hn⟩ := hn
  refine ⟨.ref d, upd H d (.lst (out.map backV)), I.laid (t' := s.toks) kk hd ⟨?_, out, n, vals_back h5, hn⟩, rfl, q _ (out.map (prK s.heap)) d (pr_of h4) ?_ ?_ (I.hok.fresh hd)⟩
  · rw [List.length_map, hst.perm.length_eq, ← rv.length]; exact hz
  · rw [← h2]; exact hst.perm.map _
  · exact List.pairwise_map.mpr hp
end
theorem RpA.pairs {K : PySem.W.Frag} {F : Hp} : ∀ {ps : List (Int × Int)} {vs : List V}, RpA K F vs (ps.map pairD) → PrP (fun x p => Rp K F x (pairD p)) vs ps
  | [], _, .nil => .nil
  | p :: r, _, .cons h t => .cons h (RpA.pairs t)
theorem PrP.rpa {K : PySem.W.Frag} {F F' : Hp} (s : Same F F') : ∀ {vs : List V} {ps : List (Int × Int)}, PrP (fun x p => Rp K F x (pairD p)) vs ps → RpA K F' vs (ps.map pairD)
  | _, _, .nil => .nil
  | _, _, .cons h t => .cons (Rp.mono s h) (t.rpa s)
abbrev onL_sortedP : SN := onLst fun ds Q => (∃ ns : List Int, ds = ns.map D.int ∧ ns.length < 64 ∧ ∀ ns' : List Int, ns'.Perm ns → ns'.Pairwise (· ≤ ·) → Q (.lst (ns'.map D.int))) ∨
  ∃ ps : List (Int × Int), ds = ps.map pairD ∧ ∀ qs : List (Int × Int), qs.Perm ps → qs.Pairwise (fun x y => SrtO.lexB y x = false) → Q (.lst (qs.map pairD))
theorem c_sortedP {X : Cx} : DCl X (.builtin "sorted") onL_sortedP :=
  lst_run (cr_sorted.or cr_sortPairs) fun F H a vs ds Q Q' s hs ra h k => by
    rcases h with ⟨ns, e, h1, h⟩ | ⟨ps, e, h⟩
    · subst e
      rw [ra.of_ints] at hs
      exact .inl ⟨a, ns, rfl, hs, h1, fun ns' p e1 e2 hp => k _ _ _ _ (h ns' e1 e2) (.new hp) (.lst upd_same (RpA.ints ns'))⟩
    · subst e
      refine .inr ⟨a, vs, ps, fun x p => Rp X.K F x (pairD p), rfl, hs, ra.pairs, fun x p r => ?_, fun zs qs p hz e1 e2 hp => k _ _ _ _ (h qs e1 e2) (.new hp) (.lst upd_same (hz.rpa (same_upd (s.free hp))))⟩
      cases r with
      | tup h1 ra => rw [ra.int2] at h1; exact ⟨_, rfl, same_sqT s h1⟩
end L2.DL

namespace L2.DL
open PySem PySem.Spec PyProof.Rows

/-! ### == and != of two things of the same data, dicts within too -/
section
variable {prog : Program} {w : World}
open PySem.SeqAt in
theorem tupEqIn (p q : Addr) (us ws : Array Value) (k m : Nat) (dp dq : Option Addr) (zp zq : Array (Option Value)) (hz : us.size = ws.size) :
    MeetsIn prog w (Builtin.«tuple.__eq__» ⟨[.ref p, .ref q], []⟩)
      (fun A R s => s.heap.get? p = some { cls := .type "tuple", dict := dp, data := .seq us k, slots := zp } ∧ s.heap.get? q = some { cls := .type "tuple", dict := dq, data := .seq ws m, slots := zq } ∧
        (∀ j (h1 : j < us.size) (h2 : j < ws.size), EqP prog w A.in1 s us[j] ws[j] true) ∧ R (.ok (.ret (.bool true))) s) := by
  intro A R s h
  obtain ⟨hp, g, d, tk, os⟩ := s
  obtain ⟨kl, kr, ke, kR⟩ := h
  have f2 := AutoSeq1.sub_tuple_tuple
  wp_walk using wpAny_loadPart' kl, wpAny_loadPart' kr, wpAny_forIn_list _ (fun rest b s' => b.1 = none ∧ s' = ⟨hp, g, d, tk, os⟩ ∧ ∃ i, rest = (us.toList.zip ws.toList).drop i) _
  case turn =>
    rintro ⟨y, x⟩ rest b s' ⟨e1, rfl, i, e2⟩
    have li : i < (us.toList.zip ws.toList).length := Nat.lt_of_not_le fun le => by
      rw [List.drop_of_length_le le] at e2; cases e2
    rw [List.drop_eq_getElem_cons li] at e2
    injection e2 with e3 e4
    have l1 : i < us.size := by simp at li; omega
    have l2 : i < ws.size := by omega
    obtain rfl : y = us[i] := by simpa using congrArg Prod.fst e3
    obtain rfl : x = ws[i] := by simpa using congrArg Prod.snd e3
    refine wpAny_bind (ke i l1 l2 _ _ ?_)
    wp_walk
    exact ⟨rfl, rfl, i + 1, e4⟩
  case fin =>
    rintro ⟨b1, b2⟩ s' ⟨e1, rfl, i, e2⟩
    obtain rfl : b1 = none := e1
    wp_walk
    simpa [Builtin.Tuple.tupleCompareSizes, hz] using kR
  case h => exact ⟨rfl, rfl, 0, rfl⟩
open PySem.SeqAt in
theorem tupNeIn (p q : Addr) (us ws : Array Value) (k m : Nat) (dp dq : Option Addr) (zp zq : Array (Option Value)) (hz : us.size = ws.size) :
    MeetsIn prog w (Builtin.«tuple.__ne__» ⟨[.ref p, .ref q], []⟩)
      (fun A R s => s.heap.get? p = some { cls := .type "tuple", dict := dp, data := .seq us k, slots := zp } ∧ s.heap.get? q = some { cls := .type "tuple", dict := dq, data := .seq ws m, slots := zq } ∧
        (∀ j (h1 : j < us.size) (h2 : j < ws.size), EqP prog w A.in1 s us[j] ws[j] true) ∧ R (.ok (.ret (.bool false))) s) := by
  intro A R s h
  obtain ⟨hp, g, d, tk, os⟩ := s
  obtain ⟨kl, kr, ke, kR⟩ := h
  have f2 := AutoSeq1.sub_tuple_tuple
  wp_walk using wpAny_loadPart' kl, wpAny_loadPart' kr, wpAny_forIn_list _ (fun rest b s' => b.1 = none ∧ s' = ⟨hp, g, d, tk, os⟩ ∧ ∃ i, rest = (us.toList.zip ws.toList).drop i) _
  case turn =>
    rintro ⟨y, x⟩ rest b s' ⟨e1, rfl, i, e2⟩
    have li : i < (us.toList.zip ws.toList).length := Nat.lt_of_not_le fun le => by
      rw [List.drop_of_length_le le] at e2; cases e2
    rw [List.drop_eq_getElem_cons li] at e2
    injection e2 with e3 e4
    have l1 : i < us.size := by simp at li; omega
    have l2 : i < ws.size := by omega
    obtain rfl : y = us[i] := by simpa using congrArg Prod.fst e3
    obtain rfl : x = ws[i] := by simpa using congrArg Prod.snd e3
    refine wpAny_bind (ke i l1 l2 _ _ ?_)
    wp_walk
    exact ⟨rfl, rfl, i + 1, e4⟩
  case fin =>
    rintro ⟨b1, b2⟩ s' ⟨e1, rfl, i, e2⟩
    obtain rfl : b1 = none := e1
    wp_walk
    simpa [Builtin.Tuple.tupleCompareSizes, hz, bne] using kR
  case h => exact ⟨rfl, rfl, 0, rfl⟩
theorem tupEqP {A : Around} {s : Shared} {p q : Addr} {us ws : Array Value} (kl : s.heap.IsTuple p us) (kr : s.heap.IsTuple q ws) (hz : us.size = ws.size) (hu : A.units < cLine)
    (ke : ∀ j (h1 : j < us.size) (h2 : j < ws.size), SeqAt.EqP prog w A.in1 s us[j] ws[j] true) (E Q : Value → Shared → Prop) (h : Q (.bool true) s) : wpAny (model prog w) A (richCompare .Eq (.ref p) (.ref q)) Q E s := by
  obtain ⟨⟨c1, d1, t1, z1⟩, o1, e1, n1, b1⟩ := id kl
  obtain ⟨⟨c2, d2, t2, z2⟩, o2, e2, n2, b2⟩ := id kr
  simp only at e1 b1 e2 b2
  subst e1 b1 e2 b2
  have ta : s.TypeIs (.ref p) "tuple" := ⟨_, o1, rfl⟩
  have tb : s.TypeIs (.ref q) "tuple" := ⟨_, o2, rfl⟩
  exact wpAny_richCompare_same_room (op := .Eq) ta tb PySem.F.slot_tuple_eq (call_meetsIn PySem.F.slot_tuple_eq ta PySem.F.entry_tuple_eq (PySem.F.args_tuple_eq_2 _ _) (tupEqIn p q us ws n1 n2 d1 d2 z1 z2 hz)
    ⟨o1, o2, ke, show Value.bool true ≠ Value.notImplemented ∧ Q (.bool true) s from ⟨(fun x => nomatch x), h⟩⟩) hu
theorem tupNeP {A : Around} {s : Shared} {p q : Addr} {us ws : Array Value} (kl : s.heap.IsTuple p us) (kr : s.heap.IsTuple q ws) (hz : us.size = ws.size) (hu : A.units < cLine)
    (ke : ∀ j (h1 : j < us.size) (h2 : j < ws.size), SeqAt.EqP prog w A.in1 s us[j] ws[j] true) (E Q : Value → Shared → Prop) (h : Q (.bool false) s) : wpAny (model prog w) A (richCompare .NotEq (.ref p) (.ref q)) Q E s := by
  obtain ⟨⟨c1, d1, t1, z1⟩, o1, e1, n1, b1⟩ := id kl
  obtain ⟨⟨c2, d2, t2, z2⟩, o2, e2, n2, b2⟩ := id kr
  simp only at e1 b1 e2 b2
  subst e1 b1 e2 b2
  have ta : s.TypeIs (.ref p) "tuple" := ⟨_, o1, rfl⟩
  have tb : s.TypeIs (.ref q) "tuple" := ⟨_, o2, rfl⟩
  exact wpAny_richCompare_same_room (op := .NotEq) ta tb PySem.F.slot_tuple_ne (call_meetsIn PySem.F.slot_tuple_ne ta PySem.F.entry_tuple_ne (PySem.F.args_tuple_ne_2 _ _) (tupNeIn p q us ws n1 n2 d1 d2 z1 z2 hz)
    ⟨o1, o2, ke, show Value.bool false ≠ Value.notImplemented ∧ Q (.bool false) s from ⟨(fun x => nomatch x), h⟩⟩) hu
end
/-! data of which two copies are ==: no classes, the keys of a dict all different; how deep -/
mutual
inductive Sm : Nat → D → Prop
  | non {n : Nat} : Sm n .non
  | bl {n : Nat} (b : Bool) : Sm n (.bl b)
  | int {n : Nat} (i : Int) : Sm n (.int i)
  | str {n : Nat} (x : Str) : Sm n (.str x)
  | tup {n : Nat} {ds : List D} : SmA n ds → Sm (n + 1) (.tup ds)
  | lst {n : Nat} {ds : List D} : SmA n ds → Sm (n + 1) (.lst ds)
  | scr {n : Nat} {ds : List D} : SmA n ds → Sm (n + 1) (.scr ds)
  | dct {n : Nat} {ds : List (Key × D)} : (ds.map (·.1)).Nodup → SmK n ds → Sm (n + 1) (.dct ds)
inductive SmA : Nat → List D → Prop
  | nil {n : Nat} : SmA n []
  | cons {n : Nat} {d : D} {ds : List D} : Sm n d → SmA n ds → SmA n (d :: ds)
inductive SmK : Nat → List (Key × D) → Prop
  | nil {n : Nat} : SmK n []
  | cons {n : Nat} {k : Key} {d : D} {ds : List (Key × D)} : Sm n d → SmK n ds → SmK n ((k, d) :: ds)
end
section
variable {X : Cx} {pins : List (Addr × Obj)} {σ : St} {F H : Hp} {s : Shared}
def TwoOf (K : PySem.W.Frag) (F : Hp) (n : Nat) : V → V → Prop := fun x y => ∃ d, Sm n d ∧ Rp K F x d ∧ Rp K F y d
theorem two_list {K : PySem.W.Frag} {n : Nat} : ∀ {ds : List D} {xs ys : List V}, SmA n ds → RpA K F xs ds → RpA K F ys ds → Paired (TwoOf K F n) xs ys
  | _, _, _, .nil, .nil, .nil => .nil
  | _, _, _, .cons h t, .cons a b, .cons c d => .cons ⟨_, h, a, c⟩ (two_list t b d)
theorem two_val {K : PySem.W.Frag} {n : Nat} : ∀ {ds : List (Key × D)} {ks ls : List (Key × V)}, (ds.map (·.1)).Nodup → SmK n ds → RpK K F ks ds → RpK K F ls ds →
    ks.length = ls.length ∧ (∀ p ∈ ks, p.1 ∈ ds.map (·.1)) ∧ ∀ p ∈ ks, ∃ u, valV ls p.1 = some u ∧ TwoOf K F n p.2 u
  | [], _, _, _, .nil, .nil, .nil => ⟨rfl, fun _ m => absurd m (by simp), fun _ m => absurd m (by simp)⟩
  | (k, _) :: _, _, _, nd, .cons h t, .cons a b, .cons c d => by
    obtain ⟨nk, nd⟩ := List.nodup_cons.mp nd
    obtain ⟨i1, i2, i3⟩ := two_val nd t b d
    refine ⟨by rw [List.length_cons, List.length_cons, i1], fun p m => ?_, fun p m => ?_⟩
    · rcases List.mem_cons.mp m with e | m
      · rw [e]; exact List.mem_cons_self
      · exact List.mem_cons_of_mem _ (i2 p m)
    · rcases List.mem_cons.mp m with e | m
      · rw [e]
        exact ⟨_, by simp [valV], _, h, a, c⟩
      · obtain ⟨u, e, r⟩ := i3 p m
        have ne : ¬ k = p.1 := fun e => nk (e ▸ i2 p m)
        refine ⟨u, ?_, r⟩
        unfold valV at e ⊢
        rw [List.find?_cons_of_neg (by simpa using ne)]
        exact e
theorem two_seq (I : Inv X pins σ H s) (sF : Same F H) {n : Nat} {A : Around} (hu : A.units < cLine) (ih : ∀ x y v u, TwoOf X.K F n x y → RelV x v → RelV y u → SeqAt.EqP X.prog X.w A.in1 s v u true) {x y : V} {v u : Value} (h : TwoOf X.K F (n + 1) x y) (rx : RelV x v) (ry : RelV y u)
    (hx : ∃ a, x = .ref a) (E Q : Value → Shared → Prop) (q : Q (.bool true) s) : wpAny (model X.prog X.w) A (richCompare .Eq v u) Q E s := by
  obtain ⟨a, rfl⟩ := hx
  obtain ⟨d, hd, r1, r2⟩ := h
  have lists : ∀ {a b : Addr} {ds : List D} {xs ys : List V}, SmA n ds → SqL X.K F a xs → RpA X.K F xs ds → SqL X.K F b ys → RpA X.K F ys ds → RelV (.ref a) v → RelV (.ref b) u → wpAny (model X.prog X.w) A (richCompare .Eq v u) Q E s := fun hs h1 ra h2 rb rx ry =>
    eqR_run I hu ih (.inl ⟨_, _, _, _, rfl, rfl, sF.seq h1, sF.seq h2, two_list hs ra rb⟩) rx ry E Q q
  cases r1 with
  | atm => cases hd
  | lst h1 ra =>
    cases r2 with
    | lst h2 rb => cases hd with | lst hs => exact lists hs (.of h1) ra (.of h2) rb rx ry
  | scr h1 ra =>
    cases r2 with
    | scr h2 rb => cases hd with | scr hs => exact lists hs h1 ra h2 rb rx ry
  | dct h1 ra =>
    cases r2 with
    | dct h2 rb =>
      cases hd with
      | dct nd hs =>
        obtain ⟨l, _, hp⟩ := two_val nd hs ra rb
        exact eqR_run I hu ih (.inr ⟨_, _, _, _, rfl, rfl, sF _ _ h1, sF _ _ h2, l, hp⟩) rx ry E Q q
  | tup h1 ra =>
    cases r2 with
    | tup h2 rb =>
      cases hd with
      | tup hs =>
        cases rx
        cases ry
        obtain ⟨us, v1, p1, _⟩ := I.tuple (same_sqT sF h1)
        obtain ⟨ws, v2, p2, _⟩ := I.tuple (same_sqT sF h2)
        have pr := two_list hs ra rb
        have hz : us.toArray.size = ws.toArray.size := by
          rw [List.size_toArray, List.size_toArray, ← v1.length, ← v2.length]
          exact Paired.length pr
        exact tupEqP p1 p2 hz hu (fun j a b => by simpa using items_run ih pr v1 v2 j (by simpa using a) (by simpa using b)) E Q q
theorem two_run (I : Inv X pins σ H s) (sF : Same F H) : ∀ (n : Nat) (A : Around), A.units + n < cLine → ∀ (x y : V) (v u : Value), TwoOf X.K F n x y → RelV x v → RelV y u → SeqAt.EqP X.prog X.w A s v u true
  | n, A, hu, x, y, v, u, h, rx, ry => by
    have flat : x = y → flatB x = true → SeqAt.EqP X.prog X.w A s v u true := fun e f => by
      subst e; exact (eqAt_same rx ry f).eqP
    by_cases hr : ∃ a b, x = .ref a ∧ y = .ref b
    · obtain ⟨a, b, rfl, rfl⟩ := hr
      cases n with
      | zero =>
        obtain ⟨d, hd, r1, r2⟩ := h
        cases r1 <;> cases hd
      | succ n =>
        have step := two_seq I sF (A := A) (by omega) (two_run I sF n A.in1 (by show A.units + 1 + n < cLine; omega)) h rx ry ⟨a, rfl⟩
        cases (show v = Value.ref a from rx)
        cases (show u = Value.ref b from ry)
        by_cases e : a = b
        · subst e
          exact (SeqAt.EqAt.same _).eqP
        · exact SeqAt.eqP_refs e step
    · obtain ⟨d, hd, r1, r2⟩ := h
      cases r1 <;> cases r2 <;> first | exact flat rfl rfl | (cases hd; done) | exact absurd ⟨_, _, rfl, rfl⟩ hr
end
end L2.DL

namespace L2.DL
open PySem PySem.Spec PyProof.Rows

/-! ### == that also knows two copies of the same data -/
def isBox : D → Bool
  | .tup _ => true
  | .lst _ => true
  | .dct _ => true
  | .scr _ => true
  | _ => false
@[simp] def eqE : S2 := fun d e Q => match eqS d e with
  | some b => Q (.bl b)
  | none => (deepOk d e ∧ Q (.bl (PyData.eqv d.py e.py))) ∨ (d = e ∧ isBox d = true ∧ (∃ n, n ≤ 60 ∧ Sm n d) ∧ Q (.bl true))
@[simp] def neE : S2 := fun d e Q => match eqS d e with
  | some b => Q (.bl (!b))
  | none => (deepOk d e ∧ Q (.bl (!PyData.eqv d.py e.py))) ∨ (d = e ∧ (∃ ds n, d = .tup ds ∧ n ≤ 60 ∧ Sm n d) ∧ Q (.bl false))
section
variable {X : Cx}
def rTwo (K : PySem.W.Frag) : R2 := fun x y H Q => ∃ F n, n ≤ 60 ∧ Same F H ∧ TwoOf K F n x y ∧ (∃ a, x = .ref a) ∧ Q (.bl true) H
def rTwoNe (K : PySem.W.Frag) : R2 := fun x y H Q => ∃ F n ds, n ≤ 60 ∧ Same F H ∧ Sm n (.tup ds) ∧ Rp K F x (.tup ds) ∧ Rp K F y (.tup ds) ∧ Q (.bl false) H
theorem op_two (hu : X.A.units + 64 < cLine) : OpR X (compareOp .Eq) (rTwo X.K) := by
  intro pins s σ H x y v u Q I rx ry h
  obtain ⟨F, n, hn, sF, h, hx, q⟩ := h
  have mono : ∃ m, m ≤ 60 ∧ n = m + 1 := by
    cases n with
    | zero =>
      obtain ⟨d, hd, r1, r2⟩ := h
      obtain ⟨a, rfl⟩ := hx
      cases r1 <;> cases hd
    | succ m => exact ⟨m, by omega, rfl⟩
  obtain ⟨m, hm, rfl⟩ := mono
  exact two_seq I sF (A := X.A) (by omega) (two_run I sF m X.A.in1 (by show X.A.units + 1 + m < cLine; omega)) h rx ry hx _ _ ⟨.bl true, H, I, rfl, q⟩
theorem op_twoNe (hu : X.A.units + 64 < cLine) : OpR X (compareOp .NotEq) (rTwoNe X.K) := by
  intro pins s σ H x y v u Q I rx ry h
  obtain ⟨F, n, ds, hn, sF, hd, r1, r2, q⟩ := h
  cases hd with
  | @tup m _ hs =>
    cases r1 with
    | tup h1 ra =>
      cases r2 with
      | tup h2 rb =>
        cases rx
        cases ry
        obtain ⟨us, v1, p1, _⟩ := I.tuple (same_sqT sF h1)
        obtain ⟨ws, v2, p2, _⟩ := I.tuple (same_sqT sF h2)
        have pr := two_list hs ra rb
        have hz : us.toArray.size = ws.toArray.size := by
          rw [List.size_toArray, List.size_toArray, ← v1.length, ← v2.length]
          exact Paired.length pr
        exact tupNeP p1 p2 hz (by omega) (fun j a b => by simpa using items_run (two_run I sF m X.A.in1 (by show X.A.units + 1 + m < cLine; omega)) pr v1 v2 j (by simpa using a) (by simpa using b)) _ _ ⟨.bl false, H, I, rfl, q⟩
theorem o_eqE (hu : X.A.units + 64 < cLine) : DOp X (compareOp .Eq) eqE := by
  obtain ⟨r, hr, h0⟩ := o_eq (X := X) hu
  refine ⟨_, hr.or (op_two hu), fun F H x y d e Q Q' s rx ry h k => ?_⟩
  unfold eqE at h
  split at h
  · rename_i b hb
    exact .inl (h0 F H x y d e Q Q' s rx ry (by unfold eqD; rw [hb]; exact h) k)
  · rename_i hb
    rcases h with h | ⟨rfl, hx, ⟨n, hn, hd⟩, h⟩
    · exact .inl (h0 F H x y d e Q Q' s rx ry (by unfold eqD; rw [hb]; exact h) k)
    · refine .inr ⟨F, n, hn, s, ⟨d, hd, rx, ry⟩, ?_, k _ _ F H h .nil (.bl _)⟩
      cases rx <;> first | exact ⟨_, rfl⟩ | cases hx
theorem o_neE (hu : X.A.units + 64 < cLine) : DOp X (compareOp .NotEq) neE := by
  obtain ⟨r, hr, h0⟩ := o_ne (X := X) hu
  refine ⟨_, hr.or (op_twoNe hu), fun F H x y d e Q Q' s rx ry h k => ?_⟩
  unfold neE at h
  split at h
  · rename_i b hb
    exact .inl (h0 F H x y d e Q Q' s rx ry (by unfold neD; rw [hb]; exact h) k)
  · rename_i hb
    rcases h with h | ⟨rfl, ⟨ds, n, rfl, hn, hd⟩, h⟩
    · exact .inl (h0 F H x y d e Q Q' s rx ry (by unfold neD; rw [hb]; exact h) k)
    · exact .inr ⟨F, n, ds, hn, s, hd, rx, ry, k _ _ F H h .nil (.bl _)⟩
end
/-! ### a dict written down -/
def keyD : D → Option Key
  | .int i => some (.inl i)
  | .str x => some (.inr x)
  | _ => none
@[simp] def qPairs : List (TD × TD) → DEnv → (List (Key × D) → DEnv → Prop) → Prop
  | [], env, Q => Q [] env
  | (tk, tv) :: r, env, Q => tk env fun k env1 => tv env1 fun v env2 => match keyD k with
    | some key => qPairs r env2 fun kvs env3 => Q ((key, v) :: kvs) env3
    | none => False
def putD (kvs : List (Key × D)) (k : Key) (v : D) : List (Key × D) :=
  if (kvs.any fun kv => decide (kv.1 = k)) = true then kvs.map (fun kv => if kv.1 = k then (kv.1, v) else kv) else kvs ++ [(k, v)]
def mergeD (kvs more : List (Key × D)) : List (Key × D) := more.foldl (fun acc kv => putD acc kv.1 kv.2) kvs
section
variable {K : PySem.W.Frag} {F : Hp}
theorem RpK.anyK {k : Key} : ∀ {vs : List (Key × V)} {ds : List (Key × D)}, RpK K F vs ds → (vs.any fun kv => decide (kv.1 = k)) = ds.any fun kv => decide (kv.1 = k)
  | _, _, .nil => rfl
  | _, _, .cons _ t => by rw [List.any_cons, List.any_cons, RpK.anyK t]
theorem RpK.append : ∀ {vs ws : List (Key × V)} {ds es : List (Key × D)}, RpK K F vs ds → RpK K F ws es → RpK K F (vs ++ ws) (ds ++ es)
  | _, _, _, _, .nil, s => s
  | _, _, _, _, .cons r t, s => .cons r (RpK.append t s)
theorem RpK.put1 {k : Key} {v : V} {d : D} (h : Rp K F v d) : ∀ {vs : List (Key × V)} {ds : List (Key × D)}, RpK K F vs ds → RpK K F (vs.map (fun kv => if kv.1 = k then (kv.1, v) else kv)) (ds.map (fun kv => if kv.1 = k then (kv.1, d) else kv))
  | _, _, .nil => .nil
  | _, _, .cons (k := k0) r t => by
    rw [List.map_cons, List.map_cons]
    by_cases e : k0 = k
    · rw [if_pos e, if_pos e]; exact .cons h (RpK.put1 h t)
    · rw [if_neg e, if_neg e]; exact .cons r (RpK.put1 h t)
theorem RpK.put {k : Key} {v : V} {d : D} (h : Rp K F v d) {vs : List (Key × V)} {ds : List (Key × D)} (r : RpK K F vs ds) : RpK K F (putK vs k v) (putD ds k d) := by
  unfold putK putD
  rw [r.anyK]
  split
  · exact r.put1 h
  · exact r.append (.cons h .nil)
theorem RpK.merge : ∀ {more : List (Key × V)} {md : List (Key × D)} {vs : List (Key × V)} {ds : List (Key × D)}, RpK K F more md → RpK K F vs ds → RpK K F (mergeK vs more) (mergeD ds md)
  | _, _, _, _, .nil, r => r
  | _, _, _, _, .cons h t, r => by
    show RpK K F (mergeK (putK _ _ _) _) (mergeD (putD _ _ _) _)
    exact RpK.merge t (RpK.put h r)
end
section
variable {X : Cx} {B : Bd} {pos : Pos}
def qTrs (K : PySem.W.Frag) (B : Bd) (ts : List (TD × TD)) : List (TE × TE) := ts.map fun p => (xE K B p.1, xE K B p.2)
theorem dps_nil : PPs X pos [] [] (qTrs X.K B []) := pps_nil
theorem dps_cons {k v : Expr} {ks : List (Option Expr)} {vs : List Expr} {tk tv : TD} {ts : List (TD × TD)} (hk : ∀ P, DE X (B.withP P) k tk) (hv : ∀ P, DE X (B.withP P) v tv) (hr : PPs X pos ks vs (qTrs X.K B ts)) :
    PPs X pos (some k :: ks) (v :: vs) (qTrs X.K B ((tk, tv) :: ts)) := pps_cons (xe' fun P => (hk P).pe) (xe' fun P => (hv P).pe) hr
theorem pairs_read {K : PySem.W.Frag} {P : Hp} : ∀ (ts : List (TD × TD)) (F H : Hp) (σ : St) (env : DEnv) (Q : List (Key × D) → DEnv → Prop) (Q' : List (V × V) → Hp → Prop), Rep K (B.withP P) F H σ env → qPairs ts env Q →
    (∀ kvs env' vs F' H', Q kvs env' → Same F F' → Rep K (B.withP P) F' H' σ env' → RpK K F' vs kvs → Q' (vs.map fun kv => (kV kv.1, kv.2)) H') → tPairs (qTrs K B ts) σ H Q'
  | [], F, H, σ, env, Q, Q', R, hq, k => k [] env [] F H hq (Same.refl _) R .nil
  | (tk, tv) :: r, F, H, σ, env, Q, Q', R, hq, k => by
    refine ⟨P, F, env, _, R, hq, fun dk env1 v1 F1 H1 q1 s1 R1 r1 => ?_⟩
    refine ⟨P, F1, env1, _, R1, q1, fun dv env2 v2 F2 H2 q2 s2 R2 r2 => ?_⟩
    have q2 : (match keyD dk with
      | some key => qPairs r env2 fun kvs env3 => Q ((key, dv) :: kvs) env3
      | none => False) := q2
    split at q2
    · rename_i key hk
      have ek : v1 = kV key := by
        cases r1 <;> first | (cases hk; done) | (injection hk with hk; subst hk; rfl)
      refine pairs_read r F2 H2 σ env2 _ _ R2 q2 fun kvs env3 vs F3 H3 q3 s3 R3 r3 => ?_
      have := k _ env3 ((key, v2) :: vs) F3 H3 q3 ((s1.trans s2).trans s3) R3 (.cons (r2.mono s3) r3)
      rw [ek]; exact this
    · exact q2.elim
@[simp] def fDisp (ts : List (TD × TD)) : TDF := fun env Q => qPairs ts env fun kvs env1 => kvs.length ≤ 15 ∧ Q (.dct (mergeD [] kvs)) env1
theorem df_disp {keys : List (Option Expr)} {values : List Expr} {ts : List (TD × TD)} (h : PPs X pos keys values (qTrs X.K B ts)) (hall : keys.all (·.isSome) = true := by rfl) (hl : keys.length = values.length := by rfl) (h0 : keys ≠ [] := by simp) (h15 : keys.length ≤ 15 := by decide) : DF X B (.Dict keys values pos) (fDisp ts) := by
  refine ⟨_, pe_disp h hall hl h0 h15, fun F H σ env Q Q' R hq k => ?_⟩
  intro p hp
  obtain ⟨n1, n2, n4, n3⟩ := R.newp hp
  have R1 := (R.junk (o := .dK []) hp).pinned upd_same n1 n2 n3
  refine pairs_read ts F _ σ env _ _ R1 hq fun kvs env1 vs F1 H1 q1 s1 R2 r2 => ?_
  obtain ⟨R3, hD, fD, ap⟩ := Rep.unpinned n4 R2
  exact ⟨hD, vs, rfl, by rw [r2.length]; exact q1.1, k _ env1 p F1 _ q1.2 s1 (R3.poke hD fD n2 n4 ap) ⟨_, upd_same, RpK.merge r2 .nil⟩ fD n2 n4 ap⟩
/-! ### dict(x), ord -/
@[simp] def dictD : D → (D → Prop) → Prop := fun d Q => match d with
  | .dct kvs => Q (.dct kvs)
  | _ => False
theorem c_dict : DCl X (.type "dict") (n1 dictD) := by
  refine ⟨_, call_dictD, fun F H xs ds Q Q' s r h k => ?_⟩
  obtain ⟨d, rfl, h⟩ := n1_of h
  obtain ⟨v, rfl, r1⟩ := rpa1 r
  cases r1 with
  | dct h1 ra => exact ⟨_, _, rfl, .inl (s _ _ h1), fun p hp => k _ _ _ _ h (.new hp) (.dct upd_same (ra.mono (same_upd (s.free hp))))⟩
  | _ => exact h.elim
@[simp] def ordD : D → (D → Prop) → Prop := fun d Q => match d with
  | .str x => x.length = 1 ∧ Q (.int (x.cps.getD 0 0 : Nat))
  | _ => False
theorem c_ord : DCl X (.builtin "ord") (n1 ordD) := by
  refine ⟨_, call_ord, fun F H xs ds Q Q' s r h k => ?_⟩
  obtain ⟨d, rfl, h⟩ := n1_of h
  obtain ⟨v, rfl, r1⟩ := rpa1 r
  cases r1 with
  | str x => exact ⟨x, rfl, h.1, k _ _ F H h.2 .nil (.int _)⟩
  | _ => exact h.elim
end
end L2.DL

namespace L2.DL
open PySem PySem.Spec PyProof.Rows

/-! ### a def that returns a new list or dict of one's own -/
abbrev FSpecO := List Cell → (OC → List Cell → Prop) → Prop
def spO (K : PySem.W.Frag) (n : Nat) (spec : FSpecO) : Sp := fun vs H Q _ => ∃ (F : Hp) (M : Addr → Prop) (cs : List Cell), vs.length = n ∧ Rep K ⟨M, H, F, vs, fun _ => none⟩ F H (vs.map some) cs ∧
  ∃ Qd, spec cs Qd ∧ ∀ c cs' p F' H', Qd c cs' → Same F F' → Rep K ⟨M, H, F, vs, fun _ => none⟩ F' H' (vs.map some) cs' → OcOk K F' H' p c → F' p = none → H p = none → Q (.ref p) H'
@[simp] def fnEndsO (n : Nat) (Q : OC → List Cell → Prop) : DEnds := { nx := fun _ => False, rt := fun _ _ => False, ro := fun c env => ∃ cs', cs'.length = n ∧ Outs env cs' ∧ Q c cs' }
section
variable {P : Program} {w : World} {K : PySem.W.Frag} {mg : Str → Option Value} {base : Heap}
theorem okO {x qual : Str} {st : Stmt} {f : Addr} {fd : FuncData} {N ps : List Str} {k : Nat} {spec : FSpecO} (F : Fun K x qual st f fd) (S : FnScope N ps (defScope st))
    (hbody : ∀ (cdv : Value) (A : Around) (outer : List Env) (s : Shared) (H : Hp) (E : XK) (B : Bd) (cs : List Cell) (Q : OC → List Cell → Prop), Room k (A.deeper (envOfC qual (defScope st) s.heap.objs.size f cdv)) → cs.length = ps.length → spec cs Q →
      ∃ t, DSs (cxOf CX0 P w K mg base N qual (defScope st) f cdv A outer s H E).nox B (defBody st) t ∧ t (fnEndsO ps.length Q) (cs ++ List.replicate (N.length - ps.length) .none)) :
    FnOk P w K mg base CX0 (k + 1) f fd ps (spO K ps.length spec) := by
  refine F.ok S (fun vs H Q E h => ?_) (fun cdv A outer s H vs Q E hr h => ?_)
  · obtain ⟨_, _, _, h, _⟩ := h; exact h
  · obtain ⟨F0, M, cs, hl, R, Qd, hs, hq⟩ := h
    have hcs : cs.length = ps.length := by rw [R.len, List.length_map, hl]
    obtain ⟨t, d, ht⟩ := hbody cdv A outer s H E ⟨M, H, F0, vs, fun _ => none⟩ cs _ hr hcs hs
    obtain ⟨ts, p, h⟩ := d.ex
    refine ⟨ts, p, ?_⟩
    have R0 := R.pad (N.length - ps.length)
    have e0 : start N vs = vs.map some ++ List.replicate (N.length - ps.length) none := by unfold start; rw [hl]
    rw [e0]
    refine h F0 H _ _ _ _ R0 ht ⟨fun _ _ _ _ q => q.elim, fun _ _ _ _ _ _ q => q.elim, fun _ _ _ _ q => q.elim, fun _ _ _ _ q => q.elim, ?_⟩
    rintro c env' p σ' F' H' ⟨cs', l', o', q'⟩ s' R' oc hF h0 hP ap
    exact hq c _ p F' H' q' s' (R'.outs rfl (l'.trans hl.symm) o') oc hF h0
end
section
variable {X : Cx} {B : Bd} {e : Expr} {es : List Expr} {pos : Pos} {tr : TDR} {tf : TDF}
theorem put_own {as : List Arg} : ∀ {cs : List Cell} {env : DEnv} {i : Nat} {c : Cell}, (putBack env as cs)[i]? = some c → c.isOwn = true → ∃ c0, env[i]? = some c0 ∧ c0.isOwn = true := by
  induction as with
  | nil => intro cs env i c e w; exact ⟨c, e, w⟩
  | cons a as ih =>
    intro cs env i c e w
    cases a with
    | d x => exact ih (cs := cs.tail) e w
    | s j =>
      obtain ⟨c0, e0, w0⟩ := ih (cs := cs.tail) (env := env.set j ((env[j]?.getD .none).take (cs.headD .none))) e w
      by_cases q : j = i
      · subst q
        rw [List.getElem?_set_self'] at e0
        cases z : env[j]? with
        | none => rw [z] at e0; cases e0
        | some c1 =>
          rw [z] at e0
          have e0 : some ((some c1 |>.getD Cell.none).take (cs.headD .none)) = some c0 := e0
          cases e0
          refine ⟨c1, rfl, ?_⟩
          cases y : c1.isOwn with
          | true => rfl
          | false =>
            have w0 : (c1.take (cs.headD .none)).isOwn = true := w0
            unfold Cell.take at w0
            rw [y] at w0
            generalize cs.headD Cell.none = cc at w0
            cases cc <;> (have w' : c1.isOwn = true := w0; rw [y] at w'; cases w')
      · rw [List.getElem?_set_ne q] at e0
        exact ⟨c0, e0, w0⟩
@[simp] def fCall (spec : FSpecO) (n : Nat) (tr : TDR) : TDF := fun env Q => tr env fun as env1 => match callOk n as with
  | true => spec (handIn env1 as) fun c cs => putC env1 as cs fun env2 => Q c env2
  | false => False
theorem df_call {k n : Nat} {f : Addr} {fd : FuncData} {ps : List Str} {spec : FSpecO} {x : Str} {p : Pos} (G : FnOk X.prog X.w X.K X.mg X.base CX0 k f fd ps (spO X.K n spec)) (hr : Room k X.A) (hg : Gl X x) (hm : X.mg x = some (.ref f)) (hk : PySem.W.keepIn X.K (.ref f) = true) (hb : Binds X.K fd ps [])
    (ha : DR X B (e :: es) tr) (hdb : (x == ("__debug__" : Str)) = false := by decide) (he : starEach (e :: es) X.env = (false, eval e X.env) :: starEach es X.env := by rfl) (hpl : (backTo pos (starEach es X.env)).any (·.1) = false := by rfl) :
    DF X B (.Call (.Name x p) (e :: es) [] pos) (fCall spec n tr) := by
  obtain ⟨te, q, h⟩ := ha.ex
  refine ⟨_, pe_call G hr hg hm hk hb .nil pass0 q hdb he hpl, fun F H σ env Q Q' R ht k => ?_⟩
  refine h F H σ env _ _ R ht fun as env1 vs F1 H1 q1 s1 R1 ra => ?_
  have q1 : callOk n as = true ∧ spec (handIn env1 as) fun c cs => putC env1 as cs fun env2 => Q c env2 := by
    split at q1
    · rename_i hc; exact ⟨hc, q1⟩
    · exact q1.elim
  obtain ⟨hc, hs⟩ := q1
  obtain ⟨hn, nd⟩ := callOk_ok hc
  rw [List.append_nil]
  refine ⟨F1, HandM σ env1 as, handIn env1 as, by rw [Paired.length ra, hn], R1.handed ra nd, _, hs, fun c cs v F' H' q s' R' oc hF hH => ?_⟩
  obtain ⟨n1, n2, n3, ap⟩ := R1.newp hH
  refine k c _ v F' H' (putC_of q) (s1.trans s') (take_put (cs := cs) nd ▸ R1.taken ra s' R') oc hF n2 n3 fun i c' ec w => ?_
  obtain ⟨c0, e0, w0⟩ := put_own ec w
  exact ap i c0 e0 w0
@[simp] def sRetO (tf : TDF) : TDS := fun DD env => tf env DD.ro
theorem ds_retO (he : DF X B e tf) : DS X B (.Return (some e) pos) (sRetO tf) := by
  obtain ⟨ts, p, h⟩ := he.ex
  refine ⟨_, ps_ret p, fun F H σ env DD DH R ht l => ?_⟩
  exact h F H σ env _ _ R ht fun c env' p F' H' q s R' oc hF h0 hP ap => l.ro c env' p σ F' H' q s R' oc hF h0 hP ap
/-- one's own object is returned -/
@[simp] def sRetN1 (i : Nat) : TDS := fun DD env => match env[i]? with
  | some (.own true c) => setC i .none env fun e => DD.ro c e
  | _ => False
theorem ds_retN1 {i : Nat} (p : PE X e (tVar i)) : DS X B (.Return (some e) pos) (sRetN1 i) := by
  refine ⟨_, ps_ret p, fun F H σ env DD DH R ht l => ?_⟩
  unfold sRetN1 at ht
  split at ht
  · rename_i c e0
    obtain ⟨a, s, oc, hF, hP, h0⟩ := R.cells i _ e0
    have R1 : Rep X.K B F H σ (env.set i .none) := R.weak List.length_set fun j c' ej => by
      by_cases q : i = j
      · subst q
        rw [List.getElem?_set_self (List.getElem?_eq_some_iff.mp e0).1] at ej
        cases ej; exact .inr rfl
      · rw [List.getElem?_set_ne q] at ej; exact .inl ej
    refine ⟨_, s, l.ro c _ a σ F H (setC_of ht) (Same.refl _) R1 oc hF (by simpa using h0) hP fun j c' ej w sj => ?_⟩
    by_cases q : i = j
    · subst q
      rw [List.getElem?_set_self (List.getElem?_eq_some_iff.mp e0).1] at ej
      cases ej; cases w
    · rw [List.getElem?_set_ne q] at ej
      exact q (R.dis i j a _ c' e0 ej rfl w s sj)
  · exact ht.elim
end
/-- what a law's pen holds: the script, a place, what is left -/
def PenS : OC → Prop := fun c => ∃ (xs : List Int) (i j : Int), c = .lst [.scr (xs.map D.int), .int i, .int j]
end L2.DL

namespace L2.DL
open PySem PySem.Spec PyProof.Rows

/-! ### a module's own dict with text keys: what is known of it -/
structure KTabD (K : PySem.W.Frag) (w : World) (mg : Str → Option Value) (x : Str) (yes : List (Str × D)) (no : List Str) : Prop where
  ex : ∃ d es n, mg x = some (.ref d) ∧ KDict K w d es n ∧ (∀ p ∈ yes, ∃ u v, PySem.W.nsIn K d p.1 = some (some u) ∧ RelV v u ∧ ∀ F, Rp K F v p.2) ∧ ∀ z ∈ no, PySem.W.nsIn K d z = some none
def tabGet (yes : List (Str × D)) (z : Str) : Option D := (yes.find? fun p => decide (p.1 = z)).map (·.2)
def tabNo (no : List Str) (z : Str) : Bool := no.any fun y => decide (y = z)
@[simp] def inTab (yes : List (Str × D)) (no : List Str) : D → (Bool → Prop) → Prop := fun d Q => match d with
  | .str z => (match tabGet yes z with
    | some _ => Q true
    | none => (match tabNo no z with
      | true => Q false
      | false => False))
  | _ => False
@[simp] def qInK (yes : List (Str × D)) (no : List Str) (te : TD) : TD := fun env Q => te env fun d env1 => inTab yes no d fun b => Q (.bl b) env1
@[simp] def qNinK (yes : List (Str × D)) (no : List Str) (te : TD) : TD := fun env Q => te env fun d env1 => inTab yes no d fun b => Q (.bl (!b)) env1
@[simp] def qIxK (yes : List (Str × D)) (te : TD) : TD := fun env Q => te env fun d env1 => match d with
  | .str z => (match tabGet yes z with
    | some x => Q x env1
    | none => False)
  | _ => False
theorem tab_get {yes : List (Str × D)} {z : Str} {x : D} (h : tabGet yes z = some x) : (z, x) ∈ yes := by
  unfold tabGet at h
  cases e : yes.find? fun p => decide (p.1 = z) with
  | none => rw [e] at h; cases h
  | some p =>
    rw [e] at h
    cases h
    have h1 := List.find?_some e
    have h2 := List.mem_of_find?_eq_some e
    have : p.1 = z := of_decide_eq_true h1
    rw [← this]; exact h2
theorem tab_no {no : List Str} {z : Str} (h : tabNo no z = true) : z ∈ no := by
  obtain ⟨y, m, e⟩ := List.any_eq_true.mp h
  rw [← of_decide_eq_true e]; exact m
section
variable {X : Cx} {B : Bd} {x : Str} {a : Expr} {ta : TD} {p pos : Pos} {yes : List (Str × D)} {no : List Str}
theorem in_tab_read {K : PySem.W.Frag} {d0 : Addr} {k : D} {Q : Bool → Prop} (hy : ∀ p ∈ yes, ∃ u v, PySem.W.nsIn K d0 p.1 = some (some u) ∧ RelV v u ∧ ∀ F, Rp K F v p.2) (hn : ∀ z ∈ no, PySem.W.nsIn K d0 z = some none) (h : inTab yes no k Q) :
    ∃ z r, k = .str z ∧ PySem.W.nsIn K d0 z = some r ∧ Q r.isSome := by
  unfold inTab at h
  split at h
  · rename_i z
    split at h
    · rename_i x e
      obtain ⟨u, v, h1, _⟩ := hy _ (tab_get e)
      exact ⟨z, _, rfl, h1, h⟩
    · split at h
      · rename_i e
        exact ⟨z, _, rfl, hn z (tab_no e), h⟩
      · exact h.elim
  · exact h.elim
theorem de_inK (hg : Gl X x) (T : KTabD X.K X.w X.mg x yes no) (ha : DE X B a ta) (hd : (x == ("__debug__" : Str)) = false := by decide) (hmk : behindInMarks .In (.Name x p) = false := by rfl) : DE X B (.Compare a [.In] [.Name x p] pos) (qInK yes no ta) := by
  obtain ⟨d0, es, n, hm, D, hy, hn⟩ := T.ex
  obtain ⟨te, q, h⟩ := ha.ex
  refine ⟨_, pe_cmpR (op_in_kd D) q (pe_glob (v := .ref d0) hg hm rfl hd) hmk, fun F H σ env Q Q' R ht k => ?_⟩
  refine h F H σ env _ _ R ht fun d env1 v F1 H1 q1 s1 R1 r1 => ?_
  obtain ⟨z, r, rfl, e, q2⟩ := in_tab_read hy hn q1
  cases r1
  exact ⟨z, r, rfl, rfl, e, k _ env1 _ F1 H1 q2 s1 R1 (.bl _)⟩
theorem de_ninK (hg : Gl X x) (T : KTabD X.K X.w X.mg x yes no) (ha : DE X B a ta) (hd : (x == ("__debug__" : Str)) = false := by decide) (hmk : behindInMarks .NotIn (.Name x p) = false := by rfl) : DE X B (.Compare a [.NotIn] [.Name x p] pos) (qNinK yes no ta) := by
  obtain ⟨d0, es, n, hm, D, hy, hn⟩ := T.ex
  obtain ⟨te, q, h⟩ := ha.ex
  refine ⟨_, pe_cmpR (op_notIn_kd D) q (pe_glob (v := .ref d0) hg hm rfl hd) hmk, fun F H σ env Q Q' R ht k => ?_⟩
  refine h F H σ env _ _ R ht fun d env1 v F1 H1 q1 s1 R1 r1 => ?_
  obtain ⟨z, r, rfl, e, q2⟩ := in_tab_read hy hn q1
  cases r1
  exact ⟨z, r, rfl, rfl, e, k _ env1 _ F1 H1 q2 s1 R1 (.bl _)⟩
theorem dt_inK (hg : Gl X x) (T : KTabD X.K X.w X.mg x yes no) (ha : DE X B a ta) (hd : (x == ("__debug__" : Str)) = false := by decide) (hmk : behindInMarks .In (.Name x p) = false := by rfl) : DT X B (.Compare a [.In] [.Name x p] pos) (qTest (qInK yes no ta)) := by
  obtain ⟨d0, es, n, hm, D, hy, hn⟩ := T.ex
  obtain ⟨te, q, h⟩ := ha.ex
  refine ⟨_, pt_cmpR (op_in_kd D) q (pe_glob (v := .ref d0) hg hm rfl hd) hmk, fun F H σ env Q Q' R ht k => ?_⟩
  refine h F H σ env _ _ R ht fun d env1 v F1 H1 q1 s1 R1 r1 => ?_
  obtain ⟨z, r, rfl, e, q2⟩ := in_tab_read hy hn q1
  cases r1
  exact ⟨z, r, rfl, rfl, e, _, rfl, k _ env1 F1 H1 q2 s1 R1⟩
theorem dt_ninK (hg : Gl X x) (T : KTabD X.K X.w X.mg x yes no) (ha : DE X B a ta) (hd : (x == ("__debug__" : Str)) = false := by decide) (hmk : behindInMarks .NotIn (.Name x p) = false := by rfl) : DT X B (.Compare a [.NotIn] [.Name x p] pos) (qTest (qNinK yes no ta)) := by
  obtain ⟨d0, es, n, hm, D, hy, hn⟩ := T.ex
  obtain ⟨te, q, h⟩ := ha.ex
  refine ⟨_, pt_cmpR (op_notIn_kd D) q (pe_glob (v := .ref d0) hg hm rfl hd) hmk, fun F H σ env Q Q' R ht k => ?_⟩
  refine h F H σ env _ _ R ht fun d env1 v F1 H1 q1 s1 R1 r1 => ?_
  obtain ⟨z, r, rfl, e, q2⟩ := in_tab_read hy hn q1
  cases r1
  exact ⟨z, r, rfl, rfl, e, _, rfl, k _ env1 F1 H1 q2 s1 R1⟩
theorem de_ixK (hg : Gl X x) (T : KTabD X.K X.w X.mg x yes no) (ha : DE X B a ta) (hs : PlainIx a) (hd : (x == ("__debug__" : Str)) = false := by decide) : DE X B (.Subscript (.Name x p) a pos) (qIxK yes ta) := by
  obtain ⟨d0, es, n, hm, D, hy, hn⟩ := T.ex
  obtain ⟨te, q, h⟩ := ha.ex
  refine ⟨_, pe_ix ix_kdict (pe_glob (v := .ref d0) hg hm rfl hd) q hs, fun F H σ env Q Q' R ht k => ?_⟩
  refine h F H σ env _ _ R ht fun d env1 v F1 H1 q1 s1 R1 r1 => ?_
  split at q1
  · rename_i z
    split at q1
    · rename_i y e
      obtain ⟨u, v0, h1, h2, h3⟩ := hy _ (tab_get e)
      cases r1
      exact ⟨d0, z, v0, rfl, rfl, ⟨es, n, u, D.at_, D.lit, h1, h2⟩, k _ env1 _ F1 H1 q1 s1 R1 (h3 F1)⟩
    · exact q1.elim
  · exact q1.elim
end
end L2.DL

namespace L2.DL
open PySem PySem.Spec PyProof.Rows

section
variable {X : Cx} {B : Bd} {e a b : Expr} {ta tb te : TD} {pos p1 p2 p3 : Pos}
/-! ### xs[::-1] -/
@[simp] def qRevL (te : TD) : TD := fun env Q => te env fun d env1 => match d with
  | .lst xs => Q (.lst xs.reverse) env1
  | .scr xs => Q (.lst xs.reverse) env1
  | _ => False
theorem RpA.rev {K : PySem.W.Frag} {F : Hp} : ∀ {vs : List V} {ds : List D}, RpA K F vs ds → RpA K F vs.reverse ds.reverse
  | _, _, .nil => .nil
  | _, _, .cons h t => by rw [List.reverse_cons, List.reverse_cons]; exact (RpA.rev t).append (.one h)
theorem de_revL {k : Nat} (he : DE X B e te) : DE X B (.Subscript e (.Slice none none (some (.UnaryOp .USub (.Constant (.int 1) k p1) p2)) p3) pos) (qRevL te) := by
  obtain ⟨ts, p, h⟩ := he.ex
  refine ⟨_, pe_revL p, fun F H σ env Q Q' R ht kk => ?_⟩
  refine h F H σ env _ _ R ht fun d env1 v F1 H1 q1 s1 R1 r1 => ?_
  cases r1 with
  | lst hs ra => exact ⟨_, _, rfl, .of (R1.sub _ _ hs), fun p hp => kk _ env1 _ _ _ q1 (s1.trans (same_upd (R1.freeF hp))) (R1.alloc hp) (.lst upd_same (ra.rev.mono (same_upd (R1.freeF hp))))⟩
  | scr hs ra => exact ⟨_, _, rfl, R1.sub.seq hs, fun p hp => kk _ env1 _ _ _ q1 (s1.trans (same_upd (R1.freeF hp))) (R1.alloc hp) (.lst upd_same (ra.rev.mono (same_upd (R1.freeF hp))))⟩
  | _ => exact q1.elim
/-! ### {} -/
@[simp] def fDct0 : TDF := fun env Q => Q (.dct []) env
theorem df_dct0 : DF X B (.Dict [] [] pos) fDct0 := by
  refine ⟨_, pe_dnewK, fun F H σ env Q Q' R ht k => ?_⟩
  intro p hp
  obtain ⟨n1, n2, n4, n3⟩ := R.newp hp
  exact k _ env p F _ ht (Same.refl _) (R.junk hp) ⟨[], upd_same, .nil⟩ n1 n2 n4 n3
/-! ### a + b, lists: a new list of one's own -/
@[simp] def fAdd (ta tb : TD) : TDF := fun env Q => ta env fun d env1 => tb env1 fun e env2 => match d, e with
  | .lst xs, .lst ys => xs.length + ys.length ≤ sizeLine ∧ Q (.lst (xs ++ ys)) env2
  | _, _ => False
theorem df_add (ha : DE X B a ta) (hb : DE X B b tb) : DF X B (.BinOp a .Add b pos) (fAdd ta tb) := by
  obtain ⟨t1, p, h1⟩ := ha.ex
  obtain ⟨t2, q, h2⟩ := hb.ex
  refine ⟨_, pe_op op_cat p q, fun F H σ env Q Q' R ht k => ?_⟩
  refine h1 F H σ env _ _ R ht fun d env1 v F1 H1 q1 s1 R1 r1 => ?_
  refine h2 F1 H1 σ env1 _ _ R1 q1 fun d2 env2 v2 F2 H2 q2 s2 R2 r2 => ?_
  have r1 := Rp.mono s2 r1
  cases r1 with
  | lst hl1 ra =>
    cases r2 with
    | lst hl2 rb =>
      refine ⟨_, _, _, _, rfl, rfl, R2.sub _ _ hl1, R2.sub _ _ hl2, by rw [ra.length, rb.length]; exact q2.1, fun p hp => ?_⟩
      obtain ⟨n1, n2, n4, n3⟩ := R2.newp hp
      exact k _ env2 p F2 _ q2.2 (s1.trans s2) (R2.junk hp) ⟨_, upd_same, ra.append rb⟩ n1 n2 n4 n3
    | _ => exact q2.elim
  | _ => cases r2 <;> exact q2.elim
end
/-! ### one bit more, one bit less -/
theorem nat_and_bit (n j : Nat) : n &&& 2 ^ j = 2 ^ j * (n / 2 ^ j % 2) := by
  have h : n / 2 ^ j % 2 = 0 ∨ n / 2 ^ j % 2 = 1 := by omega
  refine Nat.eq_of_testBit_eq fun i => ?_
  rw [Nat.testBit_and, Nat.testBit_two_pow]
  rcases h with h | h
  · rw [h, Nat.mul_zero, Nat.zero_testBit]
    by_cases e : j = i
    · subst e
      rw [Nat.testBit_eq_decide_div_mod_eq, h]; simp
    · simp [e]
  · rw [h, Nat.mul_one, Nat.testBit_two_pow]
    by_cases e : j = i
    · subst e
      rw [Nat.testBit_eq_decide_div_mod_eq, h]; simp
    · simp [e]
theorem and_bit {x : Int} (h : 0 ≤ x) (j : Nat) : Builtin.bitAnd x (2 ^ j) = 2 ^ j * (x / 2 ^ j % 2) := by
  obtain ⟨n, rfl⟩ := Int.eq_ofNat_of_zero_le h
  have hp : (0 : Int) ≤ 2 ^ j := Int.le_of_lt (Int.pow_pos (by decide))
  rw [bitAnd_pp h hp]
  have e : ((2 : Int) ^ j).toNat = 2 ^ j := by
    have : ((2 : Int) ^ j) = ((2 ^ j : Nat) : Int) := by simp
    rw [this]; rfl
  rw [e, Int.toNat_natCast, nat_and_bit]
  simp
theorem or_bit {x : Int} (h : 0 ≤ x) (j : Nat) : Builtin.bitOr x (2 ^ j) = x + 2 ^ j * (1 - x / 2 ^ j % 2) := by
  rw [bitOr_and, and_bit h, Int.mul_sub, Int.mul_one]
  omega
end L2.DL

namespace L2.DL
open PySem PySem.Spec PyProof.Rows

/-! ### zip and enumerate over lists, tuples, texts in any mix -/
/-- what is gone through -/
inductive SK where
  | l (a : Addr) | t (a : Addr) | s (z : Str)
@[simp] def SK.adr : SK → List Addr
  | .l a => [a]
  | .t a => [a]
  | .s _ => []
def SK.Sq (K : PySem.W.Frag) (H : Hp) : SK → List V → Prop
  | .l a, xs => SqL K H a xs
  | .t a, xs => SqT K H a xs
  | .s z, xs => xs = z.cps.toList.map fun c => V.str ⟨#[c]⟩
def SK.at (tk : Tok) (it : Addr) (i : Nat) (h : Heap) : SK → Prop
  | .l a => h.IsListIter it a i
  | .t a => h.IsTupleIter it a i
  | .s z => h.IsStrIter it (strIterType z) z tk i
def SK.val (tk : Tok) : SK → Value
  | .l a => .ref a
  | .t a => .ref a
  | .s z => .str z tk
def SK.v : SK → V
  | .l a => .ref a
  | .t a => .ref a
  | .s z => .str z
/-- its iterator, told by what it draws -/
structure Dr (X : Cx) (H : Hp) (s : Shared) (k : SK) (tk : Tok) (it : Addr) (i : Nat) (xs : List V) (fp : List Addr) (P : Nat → Value → Prop) (St : Nat → Heap → Prop) : Prop where
  dr : Draws X.prog X.w X.A.in1 it (it :: fp) xs.length P St
  st : St i s.heap
  lt : ∀ b ∈ fp, b ∈ k.adr
  bk : ∀ j h, St j h → k.at tk it j h
  rl : ∀ u, P i u → ∃ x, xs[i]? = some x ∧ RelV x u
section
variable {X : Cx} {pins : List (Addr × Obj)} {s : Shared} {σ : St} {H : Hp}
theorem sk_draws {k : SK} {tk : Tok} {it : Addr} {i : Nat} {xs : List V} (I : Inv X pins σ H s) (hc : X.calm = true) (hq : k.Sq X.K H xs) (st : k.at tk it i s.heap) (hne : ∀ b ∈ k.adr, b ≠ it) : ∃ fp P St, Dr X H s k tk it i xs fp P St := by
  have hh := I.ok.hd hc
  cases k with
  | l a =>
    obtain ⟨its, rv, p, hz⟩ := I.list hq
    have D := Draws.list (prog := X.prog) (w := X.w) (A := X.A.in1) hh it a (hne a (by simp)) its.toArray
    have e : its.toArray.size = xs.length := by rw [List.size_toArray, rv.length]
    rw [e] at D
    refine ⟨_, _, _, D, ⟨st, p.isList⟩, fun b hb => hb, fun j h q => q.1, fun u hu => ?_⟩
    have hu : its[i]? = some u := by simpa using hu
    have hl : i < xs.length := by rw [rv.length]; exact (List.getElem?_eq_some_iff.mp hu).1
    obtain ⟨u', h1, r⟩ := rv.get (List.getElem?_eq_getElem hl)
    rw [hu] at h1; cases h1
    exact ⟨_, List.getElem?_eq_getElem hl, r⟩
  | t a =>
    obtain ⟨its, rv, p, hz⟩ := I.tuple hq
    have D := Draws.tuple (prog := X.prog) (w := X.w) (A := X.A.in1) hh it a (hne a (by simp)) its.toArray
    have e : its.toArray.size = xs.length := by rw [List.size_toArray, rv.length]
    rw [e] at D
    refine ⟨_, _, _, D, ⟨st, p⟩, fun b hb => hb, fun j h q => q.1, fun u hu => ?_⟩
    have hu : its[i]? = some u := by simpa using hu
    have hl : i < xs.length := by rw [rv.length]; exact (List.getElem?_eq_some_iff.mp hu).1
    obtain ⟨u', h1, r⟩ := rv.get (List.getElem?_eq_getElem hl)
    rw [hu] at h1; cases h1
    exact ⟨_, List.getElem?_eq_getElem hl, r⟩
  | s z =>
    have D := Draws.text (prog := X.prog) (w := X.w) (A := X.A.in1) hh it z tk
    have hq : xs = z.cps.toList.map fun c => V.str ⟨#[c]⟩ := hq
    have e : z.cps.size = xs.length := by rw [hq, List.length_map, Array.length_toList]
    rw [e] at D
    refine ⟨[], _, _, D, st, fun b hb => (by cases hb), fun j h q => q, fun u hu => ?_⟩
    obtain ⟨c, t, hx, rfl⟩ := hu
    refine ⟨.str ⟨#[c]⟩, ?_, ⟨t, rfl⟩⟩
    rw [hq, List.getElem?_map, Array.getElem?_toList, hx]; rfl
theorem sk_inj {k : SK} {xs ys : List V} (I : Inv X pins σ H s) (h : k.Sq X.K H xs) (h2 : k.Sq X.K H ys) : xs = ys := by
  cases k with
  | l a => exact I.list_inj h h2
  | t a => exact I.tuple_inj h h2
  | s z => exact h.trans h2.symm
end
theorem sk_obj {k : SK} {tk : Tok} {it : Addr} {i : Nat} {h : Heap} (st : k.at tk it i h) : ∃ o, h.get? it = some o ∧ ∀ v, o.data ≠ .cell v := by
  cases k <;> (obtain ⟨o, e, _, d⟩ := st; exact ⟨o, e, fun v q => by rw [d] at q; cases q⟩)
theorem sk_keep {k : SK} {tk : Tok} {it : Addr} {i : Nat} {h h' : Heap} (st : k.at tk it i h) (f : ∀ o, h.get? it = some o → h'.get? it = some o) : k.at tk it i h' := by
  cases k <;> (obtain ⟨o, e, r⟩ := st; exact ⟨o, f o e, r⟩)
/-- the pairs of two things, as they stand at each turn -/
def ItZ (K : PySem.W.Frag) (k1 k2 : SK) : It :=
  ⟨fun i H => ∃ (xs ys : List V) (x y : V), k1.Sq K H xs ∧ k2.Sq K H ys ∧ xs[i]? = some x ∧ ys[i]? = some y,
    fun i H v H' => ∃ T x y, v = .ref T ∧ H T = none ∧ H' = upd H T (.tup [x, y]) ∧ (∀ xs, k1.Sq K H xs → xs[i]? = some x) ∧ ∀ ys, k2.Sq K H ys → ys[i]? = some y,
    fun i H => ∃ xs ys : List V, k1.Sq K H xs ∧ k2.Sq K H ys ∧ i ≤ xs.length ∧ i ≤ ys.length ∧ (i = xs.length ∨ i = ys.length)⟩
theorem in5 {c z TI TO i1 i2 : Addr} (h : c ∈ [z, TI, TO, i1, i2]) : c = z ∨ c = TI ∨ c = TO ∨ c = i1 ∨ c = i2 := by simpa using h
theorem turn_Z {P : Program} {w : World} {K : PySem.W.Frag} {elts : List Expr} {kk : Nat} {tpos : Pos} {k1 k2 : SK} {t1 t2 : Tok} (N : Nat) (l1 : ∀ b ∈ k1.adr, b < N) (l2 : ∀ b ∈ k2.adr, b < N) :
    Turn P w K (.Tuple elts kk tpos) (ItZ K k1 k2) [N + 4, N + 2, N + 3, N, N + 1] (N + 4) (fun i h => IsZip h (N + 4) (N + 2) (N + 3) .none ∧ IsTupOf2 h (N + 2) (.ref N) (.ref (N + 1)) ∧ (∃ x y, IsTupOf2 h (N + 3) x y) ∧ k1.at t1 N i h ∧ k2.at t2 (N + 1) i h) where
  mem := by simp
  obj := fun i h st c hc => by
    obtain ⟨hz, hTI, ⟨x, y, hTO⟩, s1, s2⟩ := st
    rcases in5 hc with q | q | q | q | q
    · rw [q]; exact ⟨_, hz, fun v q => nomatch q⟩
    · rw [q]; exact ⟨_, hTI, fun v q => nomatch q⟩
    · rw [q]; exact ⟨_, hTO, fun v q => nomatch q⟩
    · rw [q]; exact sk_obj s1
    · rw [q]; exact sk_obj s2
  keep := fun i h h' st k => by
    obtain ⟨hz, hTI, ⟨x, y, hTO⟩, s1, s2⟩ := st
    exact ⟨k _ (by simp) _ hz, k _ (by simp) _ hTI, ⟨x, y, k _ (by simp) _ hTO⟩, sk_keep s1 fun o e => k _ (by simp) o e, sk_keep s2 fun o e => k _ (by simp) o e⟩
  item := by
    intro X hP hw hK hc i pins s σ H E I hf st hg
    subst hP hw hK
    obtain ⟨hz, hTI, ⟨x0, y0, hTO⟩, s1, s2⟩ := st
    obtain ⟨xs, ys, x, y, hqx, hqy, hx, hy⟩ := hg
    obtain ⟨f1, P1, St1, D1⟩ := sk_draws I hc hqx s1 fun b hb => Nat.ne_of_lt (l1 b hb)
    obtain ⟨f2, P2, St2, D2⟩ := sk_draws I hc hqy s2 fun b hb => Nat.ne_of_lt (Nat.lt_succ_of_lt (l2 b hb))
    have S := zip_sep2 (N := N) (fp1 := f1) (fp2 := f2) (fun b hb => l1 b (D1.lt b hb)) fun b hb => l2 b (D2.lt b hb)
    have hzl : N + 4 < s.heap.objs.size := Heap.lt_size hz
    refine wpAny_pyNext_zipD2_item S D1.dr D2.dr hz hTI hTO D1.st D2.st (List.getElem?_eq_some_iff.mp hx).1 (List.getElem?_eq_some_iff.mp hy).1 fun u u2 h' tk p1 p2 z' TO' s1' s2' hT hsz hk => ?_
    obtain ⟨x', ex, ru⟩ := D1.rl u p1
    obtain ⟨y', ey, ru2⟩ := D2.rl u2 p2
    rw [hx] at ex; cases ex
    rw [hy] at ey; cases ey
    refine ⟨_, rfl, wpAny_letOwnedTupleGo_zip (s := { s with heap := h', toks := tk }) z' fun h'' z'' sb => ?_⟩
    have far : ∀ c, c ∈ [N + 4, N + 2, N + 3, N, N + 1] → c < s.heap.objs.size := fun c hcm => by
      rcases in5 hcm with q | q | q | q | q <;> (rw [q]; omega)
    have hT2 : h''.get? s.heap.objs.size = some { cls := .type "tuple", data := .seq #[u, u2] } := (sb.2 _ (Nat.ne_of_gt hzl)).trans hT
    have new : ObjOk X.prog X.w (upd H s.heap.objs.size (.tup [x, y])) h'' s.heap.objs.size (.tup [x, y]) :=
      ⟨by show 2 ≤ sizeLine; decide, [u, u2], .cons ru (.cons ru2 .nil), ⟨_, hT2, rfl, _, rfl⟩⟩
    have I1 : Inv X pins σ (upd H s.heap.objs.size (.tup [x, y])) { s with heap := h'', toks := tk } :=
      I.turnedNew (t' := tk) (ch := [N + 4, N + 2, N + 3, N, N + 1]) (fun c o hb q => (sb.2 c (fun q' => hb (by simp [q']))).trans (hk c o (fun q' => hb (by simp [q'])) (fun q' => hb (by simp [q'])) (fun q' => hb (by simp [q'])) (fun q' => hb (by simp [q'])) q)) hf (Nat.le_refl _) new
    refine ⟨.ref s.heap.objs.size, _, I1, rfl, ⟨_, x, y, rfl, I.hok.fresh (Nat.le_refl _), rfl, fun l hl => by rw [sk_inj I hl hqx]; exact hx, fun l hl => by rw [sk_inj I hl hqy]; exact hy⟩, ⟨z'', ?_, ⟨u, u2, ?_⟩, ?_, ?_⟩, fun c hcm => ?_⟩
    · exact (sb.2 _ S.TIz).trans (hk _ _ S.TIz S.TITO S.TIi1 S.TIi2 hTI)
    · exact (sb.2 _ S.TOz).trans TO'
    · exact sk_keep (D1.bk _ _ s1') fun o q => (sb.2 _ (Ne.symm S.zi1)).trans q
    · exact sk_keep (D2.bk _ _ s2') fun o q => (sb.2 _ (Ne.symm S.zi2)).trans q
    · rw [upd_ne (Nat.ne_of_lt (far c hcm))]
      exact (hf c hcm).1
  done := by
    intro X hP hw hK hc i pins s σ H E I hf st hg
    subst hP hw hK
    obtain ⟨hz, hTI, ⟨x0, y0, hTO⟩, s1, s2⟩ := st
    obtain ⟨xs, ys, hqx, hqy, le1, le2, hend⟩ := hg
    obtain ⟨f1, P1, St1, D1⟩ := sk_draws I hc hqx s1 fun b hb => Nat.ne_of_lt (l1 b hb)
    obtain ⟨f2, P2, St2, D2⟩ := sk_draws I hc hqy s2 fun b hb => Nat.ne_of_lt (Nat.lt_succ_of_lt (l2 b hb))
    have S := zip_sep2 (N := N) (fp1 := f1) (fp2 := f2) (fun b hb => l1 b (D1.lt b hb)) fun b hb => l2 b (D2.lt b hb)
    exact wpAny_pyNext_zipD2_end S D1.dr D2.dr hz hTI hTO D1.st D2.st le1 le2 hend fun h' tk hk => ⟨rfl, I.turnedL (t' := tk) (ch := [N + 4, N + 2, N + 3, N, N + 1]) (fun c o hb q =>
      hk c o (fun q' => hb (by simp [q'])) (fun q' => hb (by simp [q'])) (fun q' => hb (by simp [q'])) (fun q' => hb (by simp [q'])) q) hf⟩
  self := fun A i s Q E st h => wpAny_pyIter_zip st.1 h
/-- how it begins -/
theorem sk_begins {X : Cx} {pins : List (Addr × Obj)} {s : Shared} {σ : St} {H : Hp} {k : SK} {xs : List V} {u : Value} (I : Inv X pins σ H s) (hq : k.Sq X.K H xs) (r : RelV k.v u) :
    ∃ (tk : Tok) (o : Obj) (Hh : Heap → Prop), Begins u o Hh ∧ Hh s.heap ∧ (∀ b ∈ k.adr, b < s.heap.objs.size) ∧ ∀ (h : Heap) (it : Addr), h.get? it = some o → k.at tk it 0 h := by
  cases k with
  | l a =>
    cases r
    obtain ⟨its, rv, p, hz⟩ := I.list hq
    obtain ⟨o, n, ho, _⟩ := id p
    refine ⟨0, _, _, begins_list a its.toArray, p.isList, fun b hb => ?_, fun h it e => ⟨_, e, rfl, rfl⟩⟩
    rw [List.mem_singleton.mp hb]; exact Heap.lt_size ho
  | t a =>
    cases r
    obtain ⟨its, rv, p, hz⟩ := I.tuple hq
    obtain ⟨o, ho, _⟩ := id p
    refine ⟨0, _, _, begins_tuple a its.toArray, p, fun b hb => ?_, fun h it e => ⟨_, e, rfl, rfl⟩⟩
    rw [List.mem_singleton.mp hb]; exact Heap.lt_size ho
  | s z =>
    obtain ⟨t, rfl⟩ := r
    exact ⟨t, _, _, begins_text z t, trivial, fun b hb => (by cases hb), fun h it e => ⟨_, e, rfl, rfl⟩⟩
def iZip2 (K : PySem.W.Frag) (ta : TA) : TI := fun σ H R => ta σ H fun vs H1 => ∃ (k1 k2 : SK) (xs ys : List V), vs = [k1.v, k2.v] ∧ k1.Sq K H1 xs ∧ k2.Sq K H1 ys ∧ R (ItZ K k1 k2) H1
theorem pi_zip2 {X : Cx} {e e2 : Expr} {ta : TA} {p pos tpos : Pos} {elts : List Expr} {kk : Nat} (hg : Gl X "zip") (hm : X.mg "zip" = none) (ha : PA X [e, e2] ta)
    (hs : starEach [e, e2] X.env = (false, eval e X.env) :: starEach [e2] X.env := by rfl) (hpl : (backTo pos (starEach [e2] X.env)).any (·.1) = false := by rfl) :
    PI X (.Tuple elts kk tpos) (.Call (.Name "zip" p) [e, e2] [] pos) (iZip2 X.K ta) := by
  refine ⟨fun pins s σ H R I h => ?_⟩
  refine Call_ (ld_blt I hg hm PyProof.Rows.boot_zip (PyProof.Rows.callWith_type1 (thn (ha.run pos pins s σ H _ I h) fun us s1 ⟨vs, H1, I1, r1, q1⟩ => ?_) hs hpl))
  obtain ⟨k1, k2, xs, ys, ex, h1, h2, q⟩ := q1
  subst ex
  cases r1 with
  | cons r rr =>
    cases rr with
    | cons r' rr =>
      cases rr
      obtain ⟨t1, o1, Hh1, B1, b1, lt1, a1⟩ := sk_begins I1 h1 r
      obtain ⟨t2, o2, Hh2, B2, b2, lt2, a2⟩ := sk_begins I1 h2 r'
      refine zip_begins2 B1 B2 b1 b2 fun h' hz hTI hTO g1 g2 hsz hk => wpAny_pyIter_zip hz ?_
      refine ⟨s1.heap.objs.size + 4, _, _, _, H1, rfl, I1.kept (t' := s1.toks) hk, turn_Z (t1 := t1) (t2 := t2) s1.heap.objs.size lt1 lt2, ⟨hz, hTI, ⟨_, _, hTO⟩, a1 _ _ g1, a2 _ _ g2⟩, fun c hcm => ?_, q⟩
      have hle : s1.heap.objs.size ≤ c := by rcases in5 hcm with z | z | z | z | z <;> (rw [z]; omega)
      exact I1.fpOk hle (I1.hok.fresh hle)

/-! ### enumerate -/
def ItE (K : PySem.W.Frag) (k : SK) : It :=
  ⟨fun i H => ∃ (xs : List V) (x : V), k.Sq K H xs ∧ xs[i]? = some x, fun i H v H' => ∃ T x, v = .ref T ∧ H T = none ∧ H' = upd H T (.tup [.int (i : Nat), x]) ∧ ∀ xs, k.Sq K H xs → xs[i]? = some x, fun i H => ∃ xs : List V, k.Sq K H xs ∧ i = xs.length⟩
theorem turn_E {P : Program} {w : World} {K : PySem.W.Frag} {elts : List Expr} {kk : Nat} {tpos : Pos} {k : SK} {t : Tok} (N : Nat) (l1 : ∀ b ∈ k.adr, b < N) :
    Turn P w K (.Tuple elts kk tpos) (ItE K k) [N + 1, N] (N + 1) (fun i h => (∃ old, IsEnum h (N + 1) N ((i : Nat) : Int) old) ∧ k.at t N i h) where
  mem := by simp
  obj := fun i h st b hb => by
    obtain ⟨⟨old, he⟩, hi⟩ := st
    have e' : b = N + 1 ∨ b = N := by simpa using hb
    rcases e' with z | z
    · rw [z]; exact ⟨_, he, fun v q => nomatch q⟩
    · rw [z]; exact sk_obj hi
  keep := fun i h h' st f => let ⟨⟨old, he⟩, hi⟩ := st; ⟨⟨old, f (N + 1) (by simp) _ he⟩, sk_keep hi fun o q => f N (by simp) o q⟩
  item := by
    intro X hP hw hK hc i pins s σ H E I hf st hg
    subst hP hw hK
    obtain ⟨⟨old, he⟩, hit⟩ := st
    obtain ⟨xs, x, hq, hx⟩ := hg
    obtain ⟨f1, P1, St1, D1⟩ := sk_draws I hc hq hit fun b hb => Nat.ne_of_lt (l1 b hb)
    have hel : N + 1 < s.heap.objs.size := Heap.lt_size he
    have hne : (N + 1 : Nat) ≠ N := Nat.succ_ne_self N
    refine wpAny_pyNext_enum_itemD D1.dr he D1.st (List.getElem?_eq_some_iff.mp hx).1 hne (notIn_new (i := 0) (fun b hb => l1 b (D1.lt b hb)) (by omega)) fun u h' tk pu ho hit' hT hsz hk => ?_
    obtain ⟨x', ex, ru⟩ := D1.rl u pu
    rw [hx] at ex; cases ex
    refine ⟨_, rfl, wpAny_letOwnedTupleGo_enum (s := { s with heap := h', toks := tk + 1 }) ho fun h'' he' sb => ?_⟩
    have hT2 : h''.get? s.heap.objs.size = some { cls := .type "tuple", data := .seq #[.int i tk, u] } := (sb.2 _ (Nat.ne_of_gt hel)).trans hT
    have new : ObjOk X.prog X.w (upd H s.heap.objs.size (.tup [.int (i : Nat), x])) h'' s.heap.objs.size (.tup [.int (i : Nat), x]) :=
      ⟨by show 2 ≤ sizeLine; decide, [.int i tk, u], .cons ⟨_, rfl⟩ (.cons ru .nil), ⟨_, hT2, rfl, _, rfl⟩⟩
    have I1 : Inv X pins σ (upd H s.heap.objs.size (.tup [.int (i : Nat), x])) { s with heap := h'', toks := tk + 1 } :=
      I.turnedNew (ch := [N + 1, N]) (fun b ob hb q => (sb.2 b (fun z => hb (by simp [z]))).trans (hk b ob (fun z => hb (by simp [z])) (fun z => hb (by simp [z])) q)) hf (Nat.le_refl _) new
    refine ⟨.ref s.heap.objs.size, _, I1, rfl, ⟨_, x, rfl, I.hok.fresh (Nat.le_refl _), rfl, fun ys hy => by rw [sk_inj I hy hq]; exact hx⟩, ⟨⟨u, ?_⟩, sk_keep (D1.bk _ _ hit') fun o q => (sb.2 N (Ne.symm hne)).trans q⟩, fun b hb => ?_⟩
    · have e1 : ((i + 1 : Nat) : Int) = (i : Int) + 1 := by omega
      rw [e1]; exact he'
    · have hb' : b < s.heap.objs.size := by
        have e' : b = N + 1 ∨ b = N := by simpa using hb
        rcases e' with z | z
        · rw [z]; exact hel
        · rw [z]; exact Nat.lt_of_succ_lt hel
      rw [upd_ne (Nat.ne_of_lt hb')]
      exact (hf b hb).1
  done := by
    intro X hP hw hK hc i pins s σ H E I hf st hg
    subst hP hw hK
    obtain ⟨⟨old, he⟩, hit⟩ := st
    obtain ⟨xs, hq, hx⟩ := hg
    obtain ⟨f1, P1, St1, D1⟩ := sk_draws I hc hq hit fun b hb => Nat.ne_of_lt (l1 b hb)
    have st' := D1.st
    rw [hx] at st'
    exact wpAny_pyNext_enum_endD D1.dr he st' fun h' eb => ⟨rfl, I.turnedL (t' := s.toks) (ch := [N + 1, N]) (fun b o hb q => eb b o (fun z => hb (by simp [z])) q) hf⟩
  self := fun A i s Q E st h => let ⟨⟨_, he⟩, _⟩ := st; wpAny_pyIter_enum he h
set_option maxHeartbeats 1000000 in
theorem meets_enum1 {v : Value} {o : Obj} {H : Heap → Prop} (B : Begins v o H) :
    Meets (Builtin.«enumerate.__new__» ⟨[.type "enumerate", v], []⟩) (fun _ R s => H s.heap ∧
      R (.ok (.ret (.ref (s.heap.push o).objs.size))) { s with heap := (s.heap.push o).push { cls := .type "enumerate", data := .fields #[.none, .bool false, .ref s.heap.objs.size, rawInt 0, .none, .none] } }) :=
  .of_wp fun prog w A R s h => by
    obtain ⟨hp, g, d, tk, os⟩ := s; obtain ⟨h1, h⟩ := h
    have hsub := sub_enumerate
    have q1 : ∀ {A' : Around} {E : Value → Shared → Prop} {Q : Value → Shared → Prop}, Q (.ref hp.objs.size) ⟨hp.push o, g, d, tk, os⟩ → wpAny (model prog w) A' (pyIter v) Q E ⟨hp, g, d, tk, os⟩ := fun q => B.iter prog w _ _ ⟨hp, g, d, tk, os⟩ _ h1 q
    wp_walk using q1
    refine wpAny_stack_any fun st => wpAny_pure ?_
    split
    · rename_i c _ _ _ _ _
      cases (c == Value.type "enumerate") <;> (wp_walk using q1; exact ⟨_, rfl, h⟩)
    · wp_walk using q1
      exact ⟨_, rfl, h⟩
theorem enum1_begins {prog : Program} {w : World} {A : Around} {E : Value → Shared → Prop} {s : Shared} {v : Value} {o : Obj} {H : Heap → Prop} {Q : Value → Shared → Prop} (B : Begins v o H) (h1 : H s.heap)
    (h : ∀ h', IsEnum h' (s.heap.objs.size + 1) s.heap.objs.size 0 .none → h'.get? s.heap.objs.size = some o → (∀ b o, s.heap.get? b = some o → h'.get? b = some o) → Q (.ref (s.heap.objs.size + 1)) { s with heap := h' }) :
    wpAny (model prog w) A (call (.type "enumerate") [v]) Q E s := by
  refine callType_new F.called_enumerate (by decide) (F.typeCall_enumerate_1 _) (F.newCall_enumerate_1 _) (fun obj => F.args_object_init_2 obj _) F.entry_enumerate_new (meets_enum1 B) ⟨h1, ?_⟩
  have hz : (s.heap.push o).objs.size = s.heap.objs.size + 1 := Heap.size_push ..
  have he := Heap.get?_push_size (s.heap.push o) (o := { cls := .type "enumerate", data := .fields #[.none, .bool false, .ref s.heap.objs.size, rawInt 0, .none, .none] }) rfl
  show _ ∧ _
  rw [hz] at he ⊢
  exact ⟨⟨_, he, rfl⟩, h _ he (Heap.get?_push_of_some _ (Heap.get?_push_size _ B.free)) fun b o x => Heap.get?_push_of_some _ (Heap.get?_push_of_some _ x)⟩
def iEnum1 (K : PySem.W.Frag) (ta : TA) : TI := fun σ H R => ta σ H fun vs H1 => ∃ (k : SK) (xs : List V), vs = [k.v] ∧ k.Sq K H1 xs ∧ R (ItE K k) H1
theorem pi_enum1 {X : Cx} {e : Expr} {ta : TA} {p pos tpos : Pos} {elts : List Expr} {kk : Nat} (hg : Gl X "enumerate") (hm : X.mg "enumerate" = none) (ha : PA X [e] ta) (hs : starEach [e] X.env = [(false, eval e X.env)] := by rfl) :
    PI X (.Tuple elts kk tpos) (.Call (.Name "enumerate" p) [e] [] pos) (iEnum1 X.K ta) := by
  refine ⟨fun pins s σ H R I h => ?_⟩
  refine Call_ (ld_blt I hg hm boot_enumerate (PyProof.Rows.callWith_type1 (thn (ha.run pos pins s σ H _ I h) fun us s1 ⟨vs, H1, I1, r1, q1⟩ => ?_) hs rfl))
  obtain ⟨k, xs, ex, hq, q⟩ := q1
  subst ex
  cases r1 with
  | cons r rr =>
    cases rr
    obtain ⟨t1, o1, Hh1, B1, b1, lt1, a1⟩ := sk_begins I1 hq r
    refine enum1_begins B1 b1 fun h' he g1 hk => wpAny_pyIter_enum he ?_
    refine ⟨s1.heap.objs.size + 1, _, _, _, H1, rfl, I1.kept (t' := s1.toks) hk, turn_E (t := t1) s1.heap.objs.size lt1, ⟨⟨.none, he⟩, a1 _ _ g1⟩, fun b hb => ?_, q⟩
    have e' : b = s1.heap.objs.size + 1 ∨ b = s1.heap.objs.size := by simpa using hb
    have hle : s1.heap.objs.size ≤ b := by rcases e' with z | z <;> (rw [z]; omega)
    exact I1.fpOk hle (I1.hok.fresh hle)

/-! ### by data -/
/-- a thing that may be gone through, by its data -/
theorem sk_of {K : PySem.W.Frag} {F H : Hp} {v : V} {d : D} {ds : List D} (hd : itemsD d = some ds) (r : Rp K F v d) : ∃ (k : SK) (xs : List V), v = k.v ∧ (∀ F', Same F F' → ∃ xs, k.Sq K F' xs ∧ RpA K F' xs ds) := by
  cases r with
  | lst hs ra => cases hd; exact ⟨.l _, [], rfl, fun F' s => ⟨_, s.seq (.of hs), ra.mono s⟩⟩
  | scr hs ra => cases hd; exact ⟨.l _, [], rfl, fun F' s => ⟨_, s.seq hs, ra.mono s⟩⟩
  | tup hs ra => cases hd; exact ⟨.t _, [], rfl, fun F' s => ⟨_, same_sqT s hs, ra.mono s⟩⟩
  | str z =>
    cases hd
    refine ⟨.s z, [], rfl, fun F' s => ⟨_, rfl, ?_⟩⟩
    generalize z.cps.toList = l
    induction l with
    | nil => exact .nil
    | cons c l ih => exact .cons (.str _) ih
  | _ => cases hd
theorem sk_up {K : PySem.W.Frag} {F H : Hp} {k : SK} {xs : List V} (s : Same F H) (h : k.Sq K F xs) : k.Sq K H xs := by
  cases k with
  | l a => exact s.seq h
  | t a => exact same_sqT s h
  | s z => exact h
@[simp] def zipD (ds es : List D) : List D := List.zipWith (fun x y => D.tup [x, y]) ds es
theorem iter_zip {K : PySem.W.Frag} {k1 k2 : SK} {ds es : List D} {F0 : Hp} (h1 : ∀ F', Same F0 F' → ∃ xs, k1.Sq K F' xs ∧ RpA K F' xs ds) (h2 : ∀ F', Same F0 F' → ∃ xs, k2.Sq K F' xs ∧ RpA K F' xs es) : IterOk K (ItZ K k1 k2) (zipD ds es) F0 := fun F H i s0 sH => by
  obtain ⟨xs, q1, r1⟩ := h1 F s0
  obtain ⟨ys, q2, r2⟩ := h2 F s0
  have hl : (zipD ds es).length = min ds.length es.length := List.length_zipWith
  refine ⟨fun e => ?_, fun d e => ?_⟩
  · rw [hl] at e
    exact ⟨xs, ys, sk_up sH q1, sk_up sH q2, by rw [r1.length]; omega, by rw [r2.length]; omega, by rw [r1.length, r2.length]; omega⟩
  · have e : (List.zipWith (fun x y => D.tup [x, y]) ds es)[i]? = some d := e
    rw [List.getElem?_zipWith] at e
    cases w1 : ds[i]? with
    | none => rw [w1] at e; cases e
    | some d1 =>
      cases w2 : es[i]? with
      | none => rw [w1, w2] at e; cases e
      | some d2 =>
        rw [w1, w2] at e; cases e
        obtain ⟨x, ex, rx⟩ := r1.get w1
        obtain ⟨y, ey, ry⟩ := r2.get w2
        refine ⟨⟨xs, ys, x, y, sk_up sH q1, sk_up sH q2, ex, ey⟩, ?_⟩
        rintro v H' ⟨T, x', y', rfl, hT, rfl, c1, c2⟩
        have := c1 xs (sk_up sH q1); rw [ex] at this; cases this
        have := c2 ys (sk_up sH q2); rw [ey] at this; cases this
        have n := same_upd (o := .tup [x, y]) (sH.free hT)
        exact ⟨_, .new hT, .tup (.of upd_same) (.cons (rx.mono n) (.one (ry.mono n)))⟩
@[simp] def enumD : Nat → List D → List D
  | _, [] => []
  | n, d :: ds => .tup [.int n, d] :: enumD (n + 1) ds
theorem enumD_len : ∀ (ds : List D) (n : Nat), (enumD n ds).length = ds.length
  | [], _ => rfl
  | _ :: ds, n => by show (enumD (n + 1) ds).length + 1 = ds.length + 1; rw [enumD_len ds]
theorem enumD_get : ∀ (ds : List D) (n i : Nat), (enumD n ds)[i]? = (ds[i]?).map fun d => .tup [.int ((n + i : Nat) : Int), d]
  | [], _, _ => rfl
  | _ :: _, _, 0 => rfl
  | _ :: ds, n, i + 1 => by
    show (enumD (n + 1) ds)[i]? = (ds[i]?).map _
    rw [enumD_get ds, show n + 1 + i = n + (i + 1) by omega]
theorem iter_enum {K : PySem.W.Frag} {k : SK} {ds : List D} {F0 : Hp} (h1 : ∀ F', Same F0 F' → ∃ xs, k.Sq K F' xs ∧ RpA K F' xs ds) : IterOk K (ItE K k) (enumD 0 ds) F0 := fun F H i s0 sH => by
  obtain ⟨xs, q1, r1⟩ := h1 F s0
  refine ⟨fun e => ⟨xs, sk_up sH q1, by rw [e, enumD_len, r1.length]⟩, fun d e => ?_⟩
  rw [enumD_get] at e
  cases w1 : ds[i]? with
  | none => rw [w1] at e; cases e
  | some d1 =>
    rw [w1] at e; cases e
    obtain ⟨x, ex, rx⟩ := r1.get w1
    refine ⟨⟨xs, x, sk_up sH q1, ex⟩, ?_⟩
    rintro v H' ⟨T, x', rfl, hT, rfl, c1⟩
    have := c1 xs (sk_up sH q1); rw [ex] at this; cases this
    have n := same_upd (o := .tup [.int ((i : Nat) : Int), x]) (sH.free hT)
    rw [Nat.zero_add]
    exact ⟨_, .new hT, .tup (.of upd_same) (.cons (.int _) (.one (rx.mono n)))⟩
section
variable {X : Cx} {B : Bd} {a b : Expr} {tr : TDA} {pos p tpos : Pos} {elts : List Expr} {kk : Nat}
@[simp] def qZip (tr : TDA) : TDI := fun env Q => tr env fun ds env1 => match ds with
  | [d, e] => (match itemsD d, itemsD e with
    | some xs, some ys => Q (zipD xs ys) env1
    | _, _ => False)
  | _ => False
@[simp] def qEnum (tr : TDA) : TDI := fun env Q => tr env fun ds env1 => match ds with
  | [d] => (match itemsD d with
    | some xs => Q (enumD 0 xs) env1
    | none => False)
  | _ => False
theorem di_zip (hg : Gl X "zip") (hm : X.mg "zip" = none) (ha : DA X B [a, b] tr) (hs : starEach [a, b] X.env = (false, eval a X.env) :: starEach [b] X.env := by rfl) (hpl : (backTo pos (starEach [b] X.env)).any (·.1) = false := by rfl) :
    DI X B (.Tuple elts kk tpos) (.Call (.Name "zip" p) [a, b] [] pos) (qZip tr) := by
  obtain ⟨ts, q, h⟩ := ha.ex
  refine ⟨_, pi_zip2 hg hm q hs hpl, fun F H σ env Q R' R ht k => ?_⟩
  refine h F H σ env _ _ R ht fun ds env1 vs F1 H1 q1 s1 R1 r1 => ?_
  split at q1
  · split at q1
    · rename_i xs ys e1 e2
      cases r1 with
      | cons ra rr =>
        cases rr with
        | cons rb rr =>
          cases rr
          obtain ⟨k1, _, rfl, g1⟩ := sk_of (H := H) e1 ra
          obtain ⟨k2, _, rfl, g2⟩ := sk_of (H := H) e2 rb
          obtain ⟨us, u1, _⟩ := g1 F1 (Same.refl _)
          obtain ⟨ws, u2, _⟩ := g2 F1 (Same.refl _)
          exact ⟨k1, k2, us, ws, rfl, sk_up R1.sub u1, sk_up R1.sub u2, k _ env1 _ F1 H1 q1 s1 R1 (iter_zip g1 g2)⟩
    · exact q1.elim
  · exact q1.elim
theorem di_enum (hg : Gl X "enumerate") (hm : X.mg "enumerate" = none) (ha : DA X B [a] tr) (hs : starEach [a] X.env = [(false, eval a X.env)] := by rfl) :
    DI X B (.Tuple elts kk tpos) (.Call (.Name "enumerate" p) [a] [] pos) (qEnum tr) := by
  obtain ⟨ts, q, h⟩ := ha.ex
  refine ⟨_, pi_enum1 hg hm q hs, fun F H σ env Q R' R ht k => ?_⟩
  refine h F H σ env _ _ R ht fun ds env1 vs F1 H1 q1 s1 R1 r1 => ?_
  split at q1
  · split at q1
    · rename_i xs e1
      cases r1 with
      | cons ra rr =>
        cases rr
        obtain ⟨k1, _, rfl, g1⟩ := sk_of (H := H) e1 ra
        obtain ⟨us, u1, _⟩ := g1 F1 (Same.refl _)
        exact ⟨k1, us, rfl, sk_up R1.sub u1, k _ env1 _ F1 H1 q1 s1 R1 (iter_enum g1)⟩
    · exact q1.elim
  · exact q1.elim
end
end L2.DL

namespace L2.DL
open PySem PySem.Spec PyProof.Rows

/-! ### a text == anything -/
open PySem.AutoSeq1 (wpAny_loadPart') in
theorem str_eq_boxed (b : Str) (u : Tok) (l : Addr) (c : Value) (es : Array DictEntry) (ep : Nat) (dd : Option Addr) (sl : Array (Option Value)) :
    Meets (Builtin.«str.__eq__» ⟨[.str b u, .ref l], []⟩) (fun _ R s => s.heap.get? l = some { cls := c, dict := dd, data := .dict es ep, slots := sl } ∧ R (.ok (.ret .notImplemented)) s) :=
  .of_wp fun prog w A R s h => by obtain ⟨hp, g, d, tk, os⟩ := s; obtain ⟨ho, h⟩ := h; wp_walk using wpAny_loadPart' ho, wpAny_load ho; exact ⟨_, rfl, h⟩
open PySem.AutoSeq1 (wpAny_loadPart') in
theorem dict_eq_text (l : Addr) (es : Array DictEntry) (ep : Nat) (dd : Option Addr) (sl : Array (Option Value)) (b : Str) (u : Tok) :
    Meets (Builtin.«dict.__eq__» ⟨[.ref l, .str b u], []⟩) (fun _ R s => s.heap.get? l = some { cls := .type "dict", dict := dd, data := .dict es ep, slots := sl } ∧ R (.ok (.ret .notImplemented)) s) :=
  .of_wp fun prog w A R s h => by obtain ⟨hp, g, d, tk, os⟩ := s; obtain ⟨ho, h⟩ := h; have f1 := PySem.F.sub_str_dict; wp_walk using wpAny_loadPart' ho, wpAny_load ho; exact ⟨_, rfl, h⟩
theorem rc_str_dict {A : Around} {s : Shared} {l : Addr} {o : Obj} {es : Array DictEntry} {ep : Nat} (b : Str) (u : Tok) (ho : s.heap.get? l = some o) (hc : o.cls = .type "dict") (hd : o.data = .dict es ep) (hu : A.units < cLine) : SeqAt.RcAt A s (.str b u) (.ref l) false := fun prog w E Q h => by
  obtain ⟨c, dd, dt, sl⟩ := o
  simp only at hc hd
  subst hc hd
  exact SeqAt.rc_eq_decline_or (k := false) (typeIs_str s b u) ⟨_, ho, rfl⟩ (by decide) PySem.F.sub_dict_str F.slot_str_eq PySem.F.slot_dict_eq_refl
    (fun _ hq => call_meets F.slot_str_eq (typeIs_str s b u) F.entry_str_eq (F.args_str_eq_2 _ _) (str_eq_boxed b u l (.type "dict") es ep dd sl) ⟨ho, hq⟩)
    (fun _ hq => call_meets PySem.F.slot_dict_eq_refl ⟨_, ho, rfl⟩ PySem.F.entry_dict_eq (PySem.F.args_dict_eq_2 _ _) (dict_eq_text l es ep dd sl b u) ⟨ho, hq⟩)
    (fun _ hq => wpAny_of_eq (rfl : isSame (.str b u) (.ref l) = pure false) hq) (.inr hu) h
section
variable {X : Cx}
def rStrZ (K : PySem.W.Frag) : R2 := fun x y H Q => ∃ z a, x = .str z ∧ y = .ref a ∧ ((∃ xs, SqL K H a xs) ∨ (∃ xs, SqT K H a xs) ∨ ∃ kvs, H a = some (.dK kvs)) ∧ Q (.bl false) H
theorem op_strZ (hu : X.A.units + 64 < cLine) : OpR X (compareOp .Eq) (rStrZ X.K) := by
  intro pins s σ H x y v u Q I rx ry h
  obtain ⟨z, a, rfl, rfl, hs, q⟩ := h
  obtain ⟨t, rfl⟩ := rx
  cases (show u = Value.ref a from ry)
  have hu' : X.A.units < cLine := by omega
  have fin : (∃ v', RelV (.bl false) v' ∧ v' = Value.bool false) := ⟨_, rfl, rfl⟩
  rcases hs with ⟨xs, hs⟩ | ⟨xs, hs⟩ | ⟨kvs, hs⟩
  · obtain ⟨its, rv, p, hz⟩ := I.list hs
    exact SeqAt.RcAt.str_list z t p.isList hu' _ _ _ _ ⟨.bl false, H, I, rfl, q⟩
  · obtain ⟨its, rv, p, hz⟩ := I.tuple hs
    exact SeqAt.RcAt.str_tuple z t p hu' _ _ _ _ ⟨.bl false, H, I, rfl, q⟩
  · obtain ⟨_, _, vs, r, o, es, ep, ho, hx, hd, _⟩ := (show ObjOk X.prog X.w H s.heap a (.dK kvs) from I.hok a _ hs)
    exact rc_str_dict z t ho hx.1 hd hu' _ _ _ _ ⟨.bl false, H, I, rfl, q⟩
@[simp] def eqZ0 : S2 := fun d e Q => match d with
  | .str a => (match e with
    | .str b => Q (.bl (decide (a = b)))
    | .atm _ => False
    | _ => Q (.bl false))
  | _ => False
theorem o_eqZ0 (hu : X.A.units + 64 < cLine) : DOp X (compareOp .Eq) eqZ0 := by
  refine ⟨_, op_eq.or (op_strZ hu), fun F H x y d e Q Q' s rx ry h k => ?_⟩
  cases rx with
  | str a =>
    have sc : ∀ {e : D} {b : Bool}, eqS (.str a) e = some b → Rp X.K F y e → Q (.bl b) → rEq (.str a) y H Q' ∨ rStrZ X.K (.str a) y H Q' := by
      intro e b hb ry h
      obtain ⟨h1, h2⟩ := eqS_rp hb (.str (K := X.K) (F := F) a) ry
      refine .inl ⟨h1, ?_⟩
      rw [h2]
      exact k _ _ F H h .nil (.bl _)
    cases ry with
    | str b => exact sc (e := .str b) rfl (.str b) h
    | non => exact sc (e := .non) rfl .non h
    | bl b => exact sc (e := .bl b) rfl (.bl b) h
    | int b => exact sc (e := .int b) rfl (.int b) h
    | atm v => exact h.elim
    | tup hs ra => exact .inr ⟨a, _, rfl, rfl, .inr (.inl ⟨_, same_sqT s hs⟩), k _ _ F H h .nil (.bl _)⟩
    | lst hs ra => exact .inr ⟨a, _, rfl, rfl, .inl ⟨_, .of (s _ _ hs)⟩, k _ _ F H h .nil (.bl _)⟩
    | scr hs ra => exact .inr ⟨a, _, rfl, rfl, .inl ⟨_, s.seq hs⟩, k _ _ F H h .nil (.bl _)⟩
    | dct hs ra => exact .inr ⟨a, _, rfl, rfl, .inr (.inr ⟨_, s _ _ hs⟩), k _ _ F H h .nil (.bl _)⟩
  | _ => exact h.elim
@[irreducible] def eqZ : S2 := eqZ0
theorem o_eqZ (hu : X.A.units + 64 < cLine) : DOp X (compareOp .Eq) eqZ := by unfold eqZ; exact o_eqZ0 hu
/-- whether data is this text -/
def hitN (a : Str) : D → Bool
  | .str s => decide (a = s)
  | _ => false
theorem eqZ_hit {a : Str} {d : D} {Q : D → Prop} (h : noAtm d = true) (q : Q (.bl (hitN a d))) : eqZ (.str a) d Q := by
  unfold eqZ
  cases d <;> first | exact q | cases h
/-! ### is True -/
@[simp] def isB : S2 := fun d e Q => match d, e with
  | .bl a, .bl b => Q (.bl (decide (a = b)))
  | _, _ => False
@[simp] def isnB : S2 := fun d e Q => match d, e with
  | .bl a, .bl b => Q (.bl (!decide (a = b)))
  | _, _ => False
theorem o_isB : DOp X (compareOp .Is) isB := by
  refine ⟨_, op_isBl, fun F H x y d e Q Q' s rx ry h k => ?_⟩
  cases rx <;> first | exact h.elim | (cases ry <;> first | exact h.elim | exact ⟨_, _, rfl, rfl, k _ _ F H h .nil (.bl _)⟩)
theorem o_isnB : DOp X (compareOp .IsNot) isnB := by
  refine ⟨_, op_notBl, fun F H x y d e Q Q' s rx ry h k => ?_⟩
  cases rx <;> first | exact h.elim | (cases ry <;> first | exact h.elim | exact ⟨_, _, rfl, rfl, k _ _ F H h .nil (.bl _)⟩)
end
theorem len_pos {n : Nat} (h : Nat.ble 1 n = true) : 0 < (n : Int) := by have := Nat.le_of_ble_eq_true h; omega
theorem len_lt {n : Nat} (h : Nat.ble n 99 = true) : (n : Int) < 1073741824 := by have := Nat.le_of_ble_eq_true h; omega
end L2.DL

namespace L2.DL
open PySem PySem.Spec PyProof.Rows

section
variable {X : Cx} {B : Bd} {e a b c ce : Expr} {ta tb tc te tk tx : TD} {pos p1 p2 apos cpos : Pos} {st : Stmt} {tf : TDF} {K : PySem.W.Frag} {F H : Hp}

/-! ### dicts of one's own -/
@[simp] def ownK (env : DEnv) (i : Nat) (k : Bool → List (Key × D) → Prop) : Prop := match env[i]? with
  | some (.own fr (.dct kvs)) => k fr kvs
  | _ => False
theorem ownK_of {env : DEnv} {i : Nat} {k : Bool → List (Key × D) → Prop} (h : ownK env i k) : ∃ fr kvs, env[i]? = some (.own fr (.dct kvs)) ∧ k fr kvs := by
  unfold ownK at h
  split at h
  · rename_i fr kvs e
    exact ⟨fr, kvs, e, h⟩
  · exact h.elim
theorem own_readK {σ : St} {env : DEnv} {i : Nat} {fr : Bool} {kvs : List (Key × D)} (R : Rep K B F H σ env) (h : env[i]? = some (.own fr (.dct kvs))) :
    ∃ a ws, σ[i]? = some (some (.ref a)) ∧ H a = some (.dK ws) ∧ RpK K F ws kvs := by
  obtain ⟨a, s, ⟨ws, h1, h2⟩, _⟩ := R.cells i _ h
  exact ⟨a, ws, s, h1, h2⟩
def getK (kvs : List (Key × D)) (κ : Key) : Option D := (kvs.find? fun kv => decide (kv.1 = κ)).map (·.2)
theorem RpK.val {κ : Key} : ∀ {ws : List (Key × V)} {kvs : List (Key × D)}, RpK K F ws kvs →
    (∀ d, getK kvs κ = some d → ∃ v, valV ws κ = some v ∧ Rp K F v d) ∧ (getK kvs κ = none → valV ws κ = none)
  | _, _, .nil => ⟨fun d h => (nomatch h), fun _ => rfl⟩
  | _, _, @RpK.cons _ _ k v d ws kvs r t => by
    obtain ⟨h1, h2⟩ := RpK.val (κ := κ) t
    by_cases q : k = κ
    · refine ⟨fun y h => ?_, fun h => ?_⟩
      · have : d = y := by simpa [getK, List.find?_cons, q] using h
        subst this
        exact ⟨v, by simp [valV, List.find?_cons, q], r⟩
      · simp [getK, List.find?_cons, q] at h
    · have e1 : getK ((k, d) :: kvs) κ = getK kvs κ := by simp [getK, List.find?_cons, q]
      have e2 : valV ((k, v) :: ws) κ = valV ws κ := by simp [valV, List.find?_cons, q]
      rw [e1, e2]
      exact ⟨h1, h2⟩
theorem key_rp {k : D} {κ : Key} {v : V} (h : keyD k = some κ) (r : Rp K F v k) : v = kV κ := by
  cases k with
  | int i => cases r; cases h; rfl
  | str x => cases r; cases h; rfl
  | _ => cases h
/-- x[k] = e, x one's own dict -/
@[simp] def sSetK (i : Nat) (te tk : TD) : TDS := fun DD env => te env fun d env1 => ownK env1 i fun _ _ => tk env1 fun k env2 => match keyD k with
  | some κ => ownK env2 i fun fr kvs => kvs.length < sizeLine ∧ setC i (.own fr (.dct (putD kvs κ d))) env2 DD.nx
  | none => False
theorem ds_setK {i : Nat} {tg : Expr} (he : DE X B e te) (hg : PG X tg (gSub (tVar i) (canE X.K B tk) rSetD)) (hs : swapsWithSole [tg] e pos.line X.env = pure false := by rfl) (hw : swappedStores [tg] e X.env = pure none := by rfl)
    (h1 : (assignEach [tg] X.env).map (·.2) = [assign tg X.env] := by rfl) : DS X B (.Assign [tg] e pos) (sSetK i te tk) := by
  obtain ⟨ts, p, h⟩ := he.ex
  refine ⟨_, ps_asg p hg hs hw h1, fun F H σ env DD DH R ht l => ?_⟩
  refine h F H σ env _ _ R ht fun d env1 v F1 H1 q s1 R1 r1 => ?_
  obtain ⟨fr, kvs, e1, q⟩ := ownK_of q
  obtain ⟨a, ws, s, h1, _⟩ := own_readK R1 e1
  refine ⟨_, s, F1, env1, _, R1, q, fun k env2 w F2 H2 q2 s2 R2 r2 => ?_⟩
  split at q2
  · rename_i κ hκ
    obtain ⟨fr, kvs, e2, hl, q2⟩ := ownK_of q2
    obtain ⟨a', ws', s', h2, ra⟩ := own_readK R2 e2
    rw [s] at s'; cases s'
    cases key_rp hκ r2
    refine ⟨a, _, rfl, DPut.k h2 (by rw [ra.length]; exact hl), ?_⟩
    exact l.nx _ σ F2 _ (setC_of q2) (s1.trans s2) (R2.writeAt e2 s ⟨_, upd_same, RpK.put (r1.mono s2) ra⟩)
  · exact q2.elim
/-- x[k], x one's own dict -/
@[simp] def qIxKO (i : Nat) (tk : TD) : TD := fun env Q => ownK env i fun _ _ => tk env fun k env1 => match keyD k with
  | some κ => ownK env1 i fun _ kvs => ∃ d, getK kvs κ = some d ∧ Q d env1
  | none => False
theorem de_ixKO {i : Nat} (p : PE X ce (tDGet (tVar i) (canE X.K B tk))) : DE X B ce (qIxKO i tk) := by
  refine ⟨_, p, fun F H σ env Q Q' R ht k => ?_⟩
  obtain ⟨fr, kvs, e0, ht⟩ := ownK_of ht
  obtain ⟨a, ws, s, h1, _⟩ := own_readK R e0
  refine ⟨_, s, F, env, _, R, ht, fun d env1 v F1 H1 q s1 R1 r1 => ?_⟩
  split at q
  · rename_i κ hκ
    obtain ⟨fr, kvs, e2, d2, hd, q2⟩ := ownK_of q
    obtain ⟨a', ws', s', h2, ra⟩ := own_readK R1 e2
    rw [s] at s'; cases s'
    cases key_rp hκ r1
    obtain ⟨w, hw, rw'⟩ := ra.val.1 _ hd
    exact ⟨a, w, rfl, hw ▸ DGet.k h2, k _ env1 w F1 H1 q2 s1 R1 rw'⟩
  · exact q.elim
/-- x.get(k, y), x one's own dict -/
@[simp] def qGetO (i : Nat) (tk tx : TD) : TD := fun env Q => ownK env i fun _ _ => tk env fun k env1 => tx env1 fun x env2 => match keyD k with
  | some κ => ownK env2 i fun _ kvs => Q ((getK kvs κ).getD x) env2
  | none => False
theorem de_getO {i : Nat} (p : PE X ce (tDGet2 (tVar i) (canE X.K B tk) (canE X.K B tx))) : DE X B ce (qGetO i tk tx) := by
  refine ⟨_, p, fun F H σ env Q Q' R ht k => ?_⟩
  obtain ⟨fr, kvs, e0, ht⟩ := ownK_of ht
  obtain ⟨a, ws, s, h1, _⟩ := own_readK R e0
  refine ⟨_, s, a, rfl, .inl ⟨_, .inl h1⟩, F, env, _, R, ht, fun d env1 v F1 H1 q s1 R1 r1 => ?_⟩
  refine ⟨F1, env1, _, R1, q, fun x env2 z F2 H2 q2 s2 R2 r2 => ?_⟩
  split at q2
  · rename_i κ hκ
    obtain ⟨fr, kvs, e2, q2⟩ := ownK_of q2
    obtain ⟨a', ws', s', h2, ra⟩ := own_readK R2 e2
    rw [s] at s'; cases s'
    cases key_rp hκ r1
    refine ⟨_, DGet.k h2, ?_⟩
    cases hg : getK kvs κ with
    | some y =>
      obtain ⟨w, hw, rw'⟩ := ra.val.1 _ hg
      rw [hg] at q2
      rw [hw]
      exact k _ env2 w F2 H2 q2 (s1.trans s2) R2 rw'
    | none =>
      rw [hg] at q2
      rw [ra.val.2 hg]
      exact k _ env2 z F2 H2 q2 (s1.trans s2) R2 r2
  · exact q2.elim
/-- x.get(k, y) -/
@[simp] def qGetD (te tk tx : TD) : TD := fun env Q => te env fun d env1 => match d with
  | .dct kvs => tk env1 fun k env2 => tx env2 fun x env3 => match keyD k with
    | some κ => Q ((getK kvs κ).getD x) env3
    | none => False
  | _ => False
theorem de_getD (hu : X.A.units + 1 < cLine) (he : DE X B e te) (hk : DE X B a tk) (hx : DE X B b tx) (m : M2 X e "get" apos a b cpos) : DE X B (.Call (.Attribute e "get" apos) [a, b] [] cpos) (qGetD te tk tx) := by
  obtain ⟨t1, q1, h1⟩ := he.ex
  obtain ⟨t2, q2, h2⟩ := hk.ex
  obtain ⟨t3, q3, h3⟩ := hx.ex
  refine ⟨_, pe_dget2 hu q1 q2 q3 m, fun F H σ env Q Q' R ht k => ?_⟩
  refine h1 F H σ env _ _ R ht fun d env1 v F1 H1 q s1 R1 r1 => ?_
  cases r1 with
  | @dct a0 ws kvs hd ra =>
    refine ⟨a0, rfl, .inl ⟨_, .inl (R1.sub _ _ hd)⟩, ?_⟩
    refine h2 F1 H1 σ env1 _ _ R1 q fun d2 env2 v2 F2 H2 q s2 R2 r2 => ?_
    refine h3 F2 H2 σ env2 _ _ R2 q fun d3 env3 v3 F3 H3 q s3 R3 r3 => ?_
    split at q
    · rename_i κ hκ
      cases key_rp hκ r2
      have ra := ra.mono (s2.trans s3)
      refine ⟨_, DGet.k (R3.sub _ _ (s3 _ _ (s2 _ _ hd))), ?_⟩
      cases hg : getK kvs κ with
      | some y =>
        obtain ⟨w, hw, rw'⟩ := ra.val.1 _ hg
        rw [hg] at q
        rw [hw]
        exact k _ env3 w F3 H3 q (s1.trans (s2.trans s3)) R3 rw'
      | none =>
        rw [hg] at q
        rw [ra.val.2 hg]
        exact k _ env3 v3 F3 H3 q (s1.trans (s2.trans s3)) R3 r3
    · exact q.elim
  | _ => exact q.elim

/-! ### list(x), dict(x): new objects of one's own -/
@[simp] def fDict (te : TD) : TDF := fun env Q => te env fun d env1 => match d with
  | .dct kvs => Q (.dct kvs) env1
  | _ => False
theorem df_dict (he : DE X B e te) (p : ∀ {t : TE}, PE X e t → PE X ce (tCB (fun xs H Q => ∃ (a : Addr) (kvs : List (Key × V)), xs = [.ref a] ∧ Rd H a (.dK kvs) ∧ ∀ p, H p = none → Q (.ref p) (upd H p (.dK kvs))) (tCons t tNil))) : DF X B ce (fDict te) := by
  obtain ⟨ts, q, h⟩ := he.ex
  refine ⟨_, p q, fun F H σ env Q Q' R ht k => ?_⟩
  refine h F H σ env _ _ R ht fun d env1 v F1 H1 q s1 R1 r1 => ?_
  cases r1 with
  | dct hd ra =>
    refine ⟨_, _, rfl, .inl (R1.sub _ _ hd), fun p hp => ?_⟩
    obtain ⟨n1, n2, n4, n3⟩ := R1.newp hp
    exact k _ env1 p F1 _ q s1 (R1.junk hp) ⟨_, upd_same, ra⟩ n1 n2 n4 n3
  | _ => exact q.elim
@[simp] def fList (te : TD) : TDF := fun env Q => te env fun d env1 => match d with
  | .lst ds => Q (.lst ds) env1
  | .scr ds => Q (.lst ds) env1
  | .tup ds => Q (.lst ds) env1
  | _ => False
theorem df_list (he : DE X B e te) (p : ∀ {t : TE}, PE X e t → PE X ce (tCB (fun xs H Q => ∃ p ys, xs = [.ref p] ∧ (SqL X.K H p ys ∨ SqT X.K H p ys) ∧ ∀ l, H l = none → Q (.ref l) (upd H l (.lst ys))) (tCons t tNil))) : DF X B ce (fList te) := by
  obtain ⟨ts, q, h⟩ := he.ex
  refine ⟨_, p q, fun F H σ env Q Q' R ht k => ?_⟩
  refine h F H σ env _ _ R ht fun d env1 v F1 H1 q s1 R1 r1 => ?_
  cases r1 with
  | lst hd ra =>
    refine ⟨_, _, rfl, .inl (.of (R1.sub _ _ hd)), fun p hp => ?_⟩
    obtain ⟨n1, n2, n4, n3⟩ := R1.newp hp
    exact k _ env1 p F1 _ q s1 (R1.junk hp) ⟨_, upd_same, ra⟩ n1 n2 n4 n3
  | scr hd ra =>
    refine ⟨_, _, rfl, .inl (R1.sub.seq hd), fun p hp => ?_⟩
    obtain ⟨n1, n2, n4, n3⟩ := R1.newp hp
    exact k _ env1 p F1 _ q s1 (R1.junk hp) ⟨_, upd_same, ra⟩ n1 n2 n4 n3
  | tup hd ra =>
    refine ⟨_, _, rfl, .inr (same_sqT R1.sub hd), fun p hp => ?_⟩
    obtain ⟨n1, n2, n4, n3⟩ := R1.newp hp
    exact k _ env1 p F1 _ q s1 (R1.junk hp) ⟨_, upd_same, ra⟩ n1 n2 n4 n3
  | _ => exact q.elim

/-! ### x.extend(e), x.reverse(), x one's own list -/
@[simp] def sExt (i : Nat) (te : TD) : TDS := fun DD env => ownL env i fun _ _ => te env fun d env1 => match d with
  | .lst ys => ownL env1 i fun fr xs => xs.length + ys.length ≤ sizeLine ∧ setC i (.own fr (.lst (xs ++ ys))) env1 DD.nx
  | _ => False
theorem ds_extend {i : Nat} {pos' : Pos} (p : PE X ce (tBM X.K "list" rExtend (tVar i) (tCons (canE X.K B te) tNil))) (hs' : swapsWith ce none pos'.line X.env = pure false := by rfl) :
    DS X B (.Expr ce pos') (sExt i te) := by
  refine ⟨_, ps_expr p hs', fun F H σ env DD DH R ht l => ?_⟩
  obtain ⟨fr, xs, e0, ht⟩ := ownL_of ht
  obtain ⟨a, vs, s, h1, _⟩ := own_read R e0
  refine ⟨_, s, .inl ⟨rfl, _, SqL.of h1⟩, F, env, _, R, ht, fun d env1 v F1 H1 q s1 R1 r1 => ?_⟩
  cases r1 with
  | lst hd rb =>
    obtain ⟨fr, xs, e1, hl, q⟩ := ownL_of q
    obtain ⟨a', vs', s', h1', ra⟩ := own_read R1 e1
    rw [s] at s'; cases s'
    refine ⟨a, _, vs', _, rfl, rfl, h1', R1.sub _ _ hd, by rw [ra.length, rb.length]; exact hl, ?_⟩
    exact l.nx _ σ F1 _ (setC_of q) s1 (R1.writeAt e1 s ⟨_, upd_same, ra.append rb⟩)
  | _ => exact q.elim
@[simp] def sRev (i : Nat) : TDS := fun DD env => ownL env i fun fr xs => setC i (.own fr (.lst xs.reverse)) env DD.nx
theorem ds_reverse {i : Nat} {pos' : Pos} (p : PE X ce (tBM0 X.K "list" rReverse (tVar i))) (hs' : swapsWith ce none pos'.line X.env = pure false := by rfl) :
    DS X B (.Expr ce pos') (sRev i) := by
  refine ⟨_, ps_expr p hs', fun F H σ env DD DH R ht l => ?_⟩
  obtain ⟨fr, xs, e0, ht⟩ := ownL_of ht
  obtain ⟨a, vs, s, h1, ra⟩ := own_read R e0
  refine ⟨_, s, .inl ⟨rfl, _, SqL.of h1⟩, a, vs, rfl, rfl, h1, ?_⟩
  exact l.nx _ σ F _ (setC_of ht) (Same.refl _) (R.writeAt e0 s ⟨_, upd_same, RpA.rev ra⟩)

/-! ### texts: join, index -/
@[simp] def joinD (z : Str) (ds : List D) (Q : Str → Prop) : Prop := ∃ ys : List Str, ds = ys.map D.str ∧ (ys.map (·.length)).sum + ys.length * z.length ≤ 16777216 ∧ Q (Txt.join z ys)
@[simp] def qJoin (te tx : TD) : TD := fun env Q => te env fun d env1 => match d with
  | .str z => tx env1 fun x env2 => match x with
    | .lst ds => joinD z ds fun r => Q (.str r) env2
    | .tup ds => joinD z ds fun r => Q (.str r) env2
    | _ => False
  | _ => False
theorem de_join (he : DE X B e te) (hx : DE X B a tx) (hs : starEach [a] X.env = [(false, eval a X.env)] := by rfl) (hbase : attributeBase e "join" X.env (eval e X.env) = eval e X.env := by rfl) (hline : (apos.endLine == cpos.line) = true := by rfl) :
    DE X B (.Call (.Attribute e "join" apos) [a] [] cpos) (qJoin te tx) := by
  obtain ⟨t1, q1, h1⟩ := he.ex
  obtain ⟨t2, q2, h2⟩ := hx.ex
  refine ⟨_, pe_m1 PySem.F.slot_str_join PySem.F.type_str_join mt_join q1 q2 hs hbase hline, fun F H σ env Q Q' R ht k => ?_⟩
  refine h1 F H σ env _ _ R ht fun d env1 v F1 H1 q s1 R1 r1 => ?_
  cases r1 with
  | str z =>
    refine ⟨⟨z, rfl⟩, ?_⟩
    refine h2 F1 H1 σ env1 _ _ R1 q fun x env2 w F2 H2 q s2 R2 r2 => ?_
    cases r2 with
    | lst hd ra =>
      obtain ⟨ys, rfl, hb, q⟩ := q
      obtain rfl := RpA.of_strs ra
      exact ⟨z, _, ys, rfl, rfl, .inl (.of (R2.sub _ _ hd)), hb, k _ env2 _ F2 H2 q (s1.trans s2) R2 (.str _)⟩
    | tup hd ra =>
      obtain ⟨ys, rfl, hb, q⟩ := q
      obtain rfl := RpA.of_strs ra
      exact ⟨z, _, ys, rfl, rfl, .inr (same_sqT R2.sub hd), hb, k _ env2 _ F2 H2 q (s1.trans s2) R2 (.str _)⟩
    | _ => exact q.elim
  | _ => exact q.elim
@[simp] def qIndexS (te tx : TD) : TD := fun env Q => te env fun d env1 => match d with
  | .str z => tx env1 fun x env2 => match x with
    | .str y => ∃ i rest, Builtin.Str.occurrences z y 0 z.length 1 = i :: rest ∧ Q (.int (i : Nat)) env2
    | _ => False
  | _ => False
theorem de_indexS (he : DE X B e te) (hx : DE X B a tx) (hs : starEach [a] X.env = [(false, eval a X.env)] := by rfl) (hbase : attributeBase e "index" X.env (eval e X.env) = eval e X.env := by rfl) (hline : (apos.endLine == cpos.line) = true := by rfl) :
    DE X B (.Call (.Attribute e "index" apos) [a] [] cpos) (qIndexS te tx) := by
  obtain ⟨t1, q1, h1⟩ := he.ex
  obtain ⟨t2, q2, h2⟩ := hx.ex
  refine ⟨_, pe_m1 PySem.F.slot_str_index PySem.F.type_str_index mt_sindex q1 q2 hs hbase hline, fun F H σ env Q Q' R ht k => ?_⟩
  refine h1 F H σ env _ _ R ht fun d env1 v F1 H1 q s1 R1 r1 => ?_
  cases r1 with
  | str z =>
    refine ⟨⟨z, rfl⟩, ?_⟩
    refine h2 F1 H1 σ env1 _ _ R1 q fun x env2 w F2 H2 q s2 R2 r2 => ?_
    cases r2 with
    | str y =>
      obtain ⟨i, rest, ho, q⟩ := q
      exact ⟨z, y, i, rest, rfl, rfl, ho, k _ env2 _ F2 H2 q (s1.trans s2) R2 (.int _)⟩
    | _ => exact q.elim
  | _ => exact q.elim

/-! ### f() -/
theorem de_call0 {k : Nat} {f : Addr} {fd : FuncData} {ps : List Str} {spec : FSpec} {x : Str} {p : Pos} (G : FnOk X.prog X.w X.K X.mg X.base CX0 k f fd ps (spD X.K 0 spec)) (hr : Room k X.A) (hg : Gl X x) (hm : X.mg x = some (.ref f)) (hk : PySem.W.keepIn X.K (.ref f) = true) (hb : Binds X.K fd ps [])
    (hdb : (x == ("__debug__" : Str)) = false := by decide) : DE X B (.Call (.Name x p) [] [] pos) (qCall spec 0 rNil) := by
  refine ⟨_, pe_call0 G hr hg hm hk hb .nil pass0 hdb, fun F H σ env Q Q' R ht k => ?_⟩
  have q1 : callOk 0 [] = true ∧ spec (handIn env []) fun d cs => putC env [] cs fun env2 => Q d env2 := ⟨rfl, ht⟩
  obtain ⟨hc, hs⟩ := q1
  obtain ⟨hn, nd⟩ := callOk_ok hc
  refine ⟨F, HandM σ env [], handIn env [], rfl, R.handed .nil nd, _, hs, fun d cs v F' H' q s' R' r' => ?_⟩
  exact k d _ v F' H' (putC_of q) s' (take_put (cs := cs) nd ▸ R.taken .nil s' R') r'
theorem df_call0 {k : Nat} {f : Addr} {fd : FuncData} {ps : List Str} {spec : FSpecO} {x : Str} {p : Pos} (G : FnOk X.prog X.w X.K X.mg X.base CX0 k f fd ps (spO X.K 0 spec)) (hr : Room k X.A) (hg : Gl X x) (hm : X.mg x = some (.ref f)) (hk : PySem.W.keepIn X.K (.ref f) = true) (hb : Binds X.K fd ps [])
    (hdb : (x == ("__debug__" : Str)) = false := by decide) : DF X B (.Call (.Name x p) [] [] pos) (fCall spec 0 rNil) := by
  refine ⟨_, pe_call0 G hr hg hm hk hb .nil pass0 hdb, fun F H σ env Q Q' R ht k => ?_⟩
  have q1 : callOk 0 [] = true ∧ spec (handIn env []) fun c cs => putC env [] cs fun env2 => Q c env2 := ⟨rfl, ht⟩
  obtain ⟨hc, hs⟩ := q1
  obtain ⟨hn, nd⟩ := callOk_ok hc
  refine ⟨F, HandM σ env [], handIn env [], rfl, R.handed .nil nd, _, hs, fun c cs v F' H' q s' R' oc hF hH => ?_⟩
  obtain ⟨n1, n2, n3, ap⟩ := R.newp hH
  refine k c _ v F' H' (putC_of q) s' (take_put (cs := cs) nd ▸ R.taken .nil s' R') oc hF n2 n3 fun i c' ec w => ?_
  obtain ⟨c0, e0, w0⟩ := put_own ec w
  exact ap i c0 e0 w0

/-! ### one's own objects, looked at as data: the answer is no object -/
def bareCell : Cell → Cell
  | .own _ c => .val c.frz
  | .opq _ _ => .none
  | c => c
@[simp] def bareC : DEnv → (DEnv → Prop) → Prop
  | [], k => k []
  | c :: r, k => bareC r fun r' => match c with
    | .own _ o => k (.val o.frz :: r')
    | .opq _ _ => k (.none :: r')
    | .none => k (.none :: r')
    | .val d => k (.val d :: r')
theorem bareC_of : ∀ {env : DEnv} {k : DEnv → Prop}, bareC env k → k (env.map bareCell)
  | [], _, h => h
  | c :: r, k, h => by
    have h := bareC_of (env := r) h
    cases c <;> exact h
def bareB (B : Bd) (F H : Hp) : Bd := ⟨fun _ => False, H, F, B.par, fun _ => none⟩
open Classical in
theorem Rep.bare {σ : St} {env : DEnv} (R : Rep K B F H σ env) : ∃ F', Same F F' ∧ Rep K (bareB B F' H) F' H σ (env.map bareCell) := by
  let own : Addr → Prop := fun b => ∃ (i : Nat) (c : Cell), env[i]? = some c ∧ c.isOwn = true ∧ σ[i]? = some (some (.ref b))
  let F' : Hp := fun b => if own b then H b else F b
  have sF : Same F F' := fun b o h => by
    show (if own b then H b else F b) = some o
    split
    · exact R.sub _ _ h
    · exact h
  refine ⟨F', sF, ?_⟩
  exact {
    len := by rw [List.length_map]; exact R.len
    sub := fun b o h => by
      have h : (if own b then H b else F b) = some o := h
      split at h
      · exact h
      · exact R.sub _ _ h
    fix := fun b o h _ => h
    gro := Same.refl _
    new := fun b h n => absurd h n
    mf := fun b h => h.elim
    mh := fun b h => h.elim
    m0 := fun b h => h.elim
    pin := fun b o h => by cases h
    mp := fun b h => h.elim
    pf := fun b o h => by cases h
    cells := fun i c h => by
      rw [List.getElem?_map] at h
      cases z : env[i]? with
      | none => rw [z] at h; cases h
      | some c0 =>
        rw [z] at h
        cases h
        have hc := R.cells i c0 z
        cases c0 with
        | none => trivial
        | val d => obtain ⟨v, h1, h2⟩ := hc; exact ⟨v, h1, h2.mono sF⟩
        | opq fr φ => trivial
        | own fr o =>
          obtain ⟨a, s, oc, _⟩ := hc
          have fa : F' a = H a := if_pos ⟨i, _, z, rfl, s⟩
          refine ⟨_, s, ?_⟩
          cases o with
          | lst xs => obtain ⟨vs, h1, h2⟩ := oc; exact .lst (fa.trans h1) (h2.mono sF)
          | dct xs => obtain ⟨vs, h1, h2⟩ := oc; exact .dct (fa.trans h1) (h2.mono sF)
    dis := fun i j a c c' h _ w => by
      rw [List.getElem?_map] at h
      cases z : env[i]? with
      | none => rw [z] at h; cases h
      | some c0 =>
        rw [z] at h
        cases h
        cases c0 <;> cases w }
def canB (K : PySem.W.Frag) (t : TD) : TE := fun σ H Q' => ∃ (B : Bd) (F : Hp) (env : DEnv) (Q : DK), Rep K B F H σ env ∧ t env Q ∧
  ∀ d env' v F' H', Q d env' → Same F F' → Rep K B F' H' σ env' → Rp K F' v d → Q' v H'
theorem pe_canB (he : ∀ B, DE X B e te) : PE X e (canB X.K te) :=
  ⟨fun pins s σ H Q I ⟨B, F, env, Qd, R, ht, k⟩ => by
    obtain ⟨ts, p, h⟩ := (he B).ex
    exact p.run pins s σ H Q I (h F H σ env Qd Q R ht k)⟩
@[simp] def qBor (te : TD) : TD := fun env Q => bareC env fun env' => te env' fun d _ => scalD (fun d => Q d env) d
theorem de_bor (he : ∀ B, DE X B e te) : DE X B e (qBor te) := by
  refine ⟨_, pe_canB he, fun F H σ env Q Q' R ht k => ?_⟩
  obtain ⟨F', sF, R'⟩ := R.bare
  refine ⟨_, F', _, _, R', bareC_of ht, fun d env1 v F1 H1 q s1 R1 r1 => ?_⟩
  obtain ⟨q, r⟩ := scal_rp (F' := F) q r1
  have sH : Same H H1 := fun b o h => R1.fix b o h fun x => x
  exact k d env v F H1 q (Same.refl _) (R.grow (Same.refl _) sH (R.sub.trans sH) fun b h n => absurd h n) r
end
end L2.DL

namespace L2.DL
open PySem PySem.Spec PyProof.Rows

/-! ### rows of numbers, one by one -/
theorem rgD_nil (lo : Int) : rgD lo 0 = [] := rfl
theorem rgD_cons (lo : Int) (n : Nat) : rgD lo (n + 1) = .int lo :: rgD (lo + 1) n := by
  unfold rgD
  rw [List.range_succ_eq_map, List.map_cons, List.map_map]
  congr 1
  · simp
  · apply List.map_congr_left
    intro i _
    show D.int (lo + ((i + 1 : Nat) : Int)) = D.int (lo + 1 + (i : Int))
    congr 1
    omega
/-! ### a key is put into a dict -/
theorem getK_nil (κ : Key) : getK [] κ = none := rfl
theorem getK_cons (k κ : Key) (d : D) (r : List (Key × D)) : getK ((k, d) :: r) κ = if k = κ then some d else getK r κ := by
  unfold getK
  rw [List.find?_cons]
  by_cases q : k = κ
  · simp [q]
  · simp [q]
theorem getK_append (κ : Key) : ∀ (xs ys : List (Key × D)), getK (xs ++ ys) κ = (getK xs κ).or (getK ys κ)
  | [], ys => rfl
  | (k, d) :: xs, ys => by
    rw [List.cons_append, getK_cons, getK_cons, getK_append κ xs ys]
    by_cases q : k = κ
    · simp [q]
    · simp [q]
theorem getK_map (k κ : Key) (v : D) : ∀ xs : List (Key × D), getK (xs.map fun kv => if kv.1 = k then (kv.1, v) else kv) κ = if k = κ then (if (xs.any fun kv => decide (kv.1 = k)) = true then some v else none) else getK xs κ
  | [] => by by_cases q : k = κ <;> simp [q, getK_nil]
  | (a, d) :: xs => by
    have ih := getK_map k κ v xs
    rw [List.map_cons, List.any_cons]
    by_cases q : k = κ
    · subst q
      by_cases p : a = k
      · subst p; simp [getK_cons]
      · simp only [p, if_false, getK_cons, if_true]
        rw [ih, if_pos rfl, decide_eq_false (show ¬ False from fun h => h), Bool.false_or]
    · by_cases p : a = k
      · subst p
        simp only [if_true, getK_cons, q, if_false]
        rw [ih, if_neg q]
      · simp only [p, if_false, getK_cons]
        rw [ih, if_neg q, if_neg q]
theorem getK_put (kvs : List (Key × D)) (k κ : Key) (v : D) : getK (putD kvs k v) κ = if k = κ then some v else getK kvs κ := by
  unfold putD
  by_cases p : (kvs.any fun kv => decide (kv.1 = k)) = true
  · rw [if_pos p, getK_map]
    by_cases q : k = κ
    · rw [if_pos q, if_pos q, if_pos p]
    · rw [if_neg q, if_neg q]
  · rw [if_neg p, getK_append, getK_cons, getK_nil]
    by_cases q : k = κ
    · subst q
      rw [if_pos rfl]
      have : getK kvs k = none := by
        unfold getK
        rw [Option.map_eq_none_iff, List.find?_eq_none]
        intro x hx hk
        exact p (List.any_eq_true.mpr ⟨x, hx, hk⟩)
      rw [this, if_pos rfl]; rfl
    · rw [if_neg q, if_neg q]
      cases getK kvs κ <;> rfl
theorem len_put (kvs : List (Key × D)) (k : Key) (v : D) : (putD kvs k v).length ≤ kvs.length + 1 := by
  unfold putD
  split
  · rw [List.length_map]; omega
  · rw [List.length_append]; exact Nat.le_refl _
/-! ### texts among texts -/
theorem any_str {ks : List Str} {κ : Str} : ((ks.map D.str).any fun y => eqF y (.str κ)) = ks.contains κ := by
  induction ks with
  | nil => rfl
  | cons k r ih =>
    rw [List.map_cons, List.any_cons, ih, List.contains_cons]
    have : eqF (.str k) (.str κ) = (κ == k) := by
      show (k == κ) = (κ == k)
      rw [Bool.eq_iff_iff, beq_iff_eq, beq_iff_eq]
      exact ⟨Eq.symm, Eq.symm⟩
    rw [this]
theorem flat_strs : ∀ ks : List Str, (ks.map D.str).all flatD = true
  | [] => rfl
  | k :: r => flat_strs r
theorem flat_bl : ∀ bs : List Bool, (bs.map D.bl).all flatD = true
  | [] => rfl
  | b :: bs => flat_bl bs
/-- False not in a row of truths -/
theorem no_false : ∀ bs : List Bool, (!((bs.map D.bl).any fun d => eqF d (.bl false))) = bs.all id
  | [] => rfl
  | b :: bs => by
    have ih := no_false bs
    cases b
    · rfl
    · exact ih
end L2.DL

namespace L2.DL
open PySem PySem.Spec PyProof.Rows

/-! ### x == [], x != [] -/
section
variable {prog : Program} {w : World}
open PySem.SeqAt in
theorem lstEqIn (p q : Addr) (us ws : Array Value) (k m : Nat) (dp dq : Option Addr) (zp zq : Array (Option Value)) (hz : (us.size != ws.size) = true) :
    MeetsIn prog w (Builtin.«list.__eq__» ⟨[.ref p, .ref q], []⟩)
      (fun A R s => s.heap.get? p = some { cls := .type "list", dict := dp, data := .seq us k, slots := zp } ∧ s.heap.get? q = some { cls := .type "list", dict := dq, data := .seq ws m, slots := zq } ∧ R (.ok (.ret (.bool false))) s) := by
  intro A R s h
  obtain ⟨hp, g, d, tk, os⟩ := s
  obtain ⟨kl, kr, kR⟩ := h
  have f3 := AutoSeq1.sub_list_list
  wp_walk using AutoSeq1.wpAny_loadPart' kl, AutoSeq1.wpAny_loadPart' kr
  exact kR
open PySem.SeqAt in
theorem lstNeIn (p q : Addr) (us ws : Array Value) (k m : Nat) (dp dq : Option Addr) (zp zq : Array (Option Value)) (hz : (us.size != ws.size) = true) :
    MeetsIn prog w (Builtin.«list.__ne__» ⟨[.ref p, .ref q], []⟩)
      (fun A R s => s.heap.get? p = some { cls := .type "list", dict := dp, data := .seq us k, slots := zp } ∧ s.heap.get? q = some { cls := .type "list", dict := dq, data := .seq ws m, slots := zq } ∧ R (.ok (.ret (.bool true))) s) := by
  intro A R s h
  obtain ⟨hp, g, d, tk, os⟩ := s
  obtain ⟨kl, kr, kR⟩ := h
  have f3 := AutoSeq1.sub_list_list
  wp_walk using AutoSeq1.wpAny_loadPart' kl, AutoSeq1.wpAny_loadPart' kr
  exact kR
open PySem.SeqAt in
theorem lstNeLoop (p q : Addr) (us ws : Array Value) (k m : Nat) (dp dq : Option Addr) (zp zq : Array (Option Value)) (hu : us.size = 0) (hw : ws.size = 0) :
    MeetsIn prog w (Builtin.«list.__eq__.loop» ⟨[.ref p, .ref q, rawInt 0, rawInt 3], []⟩)
      (fun A R s => s.heap.get? p = some { cls := .type "list", dict := dp, data := .seq us k, slots := zp } ∧ s.heap.get? q = some { cls := .type "list", dict := dq, data := .seq ws m, slots := zq } ∧ R (.ok (.ret (.bool false))) s) := by
  intro A R s h
  obtain ⟨hp, g, d, tk, os⟩ := s
  obtain ⟨kl, kr, kR⟩ := h
  have e1 : us[(0 : Int).toNat]? = none := by simp [hu]
  have e2 : ws[(0 : Int).toNat]? = none := by simp [hw]
  wp_walk using AutoSeq1.wpAny_loadPart' kl, AutoSeq1.wpAny_loadPart' kr
  rw [e1, e2]
  wp_walk using AutoSeq1.wpAny_loadPart' kl, AutoSeq1.wpAny_loadPart' kr
  rw [hu, hw]
  exact kR
open PySem.SeqAt PySem.MeetsSeq PySem.MeetsSeq2 PySem.MeetsSeq3 PySem.SeqRoads2 in
theorem lstNeIn0 (p q : Addr) (us ws : Array Value) (k m : Nat) (dp dq : Option Addr) (zp zq : Array (Option Value)) (hu : us.size = 0) (hw : ws.size = 0) :
    MeetsIn prog w (Builtin.«list.__ne__» ⟨[.ref p, .ref q], []⟩)
      (fun A R s => s.heap.get? p = some { cls := .type "list", dict := dp, data := .seq us k, slots := zp } ∧ s.heap.get? q = some { cls := .type "list", dict := dq, data := .seq ws m, slots := zq } ∧ R (.ok (.ret (.bool false))) s) := by
  intro A R s h
  obtain ⟨hp, g, d, tk, os⟩ := s
  obtain ⟨kl, kr, kR⟩ := h
  have f3 := AutoSeq1.sub_list_list
  wp_walk using AutoSeq1.wpAny_loadPart' kl, AutoSeq1.wpAny_loadPart' kr
  exact ⟨plainId_quiet plain_eq_loop _, codeAny_builtin entry_eq_loop (by
    rw [Around.under_plainId plain_eq_loop _]
    exact lstNeLoop p q us ws k m dp dq zp zq hu hw A R _ ⟨kl, kr, kR⟩)⟩
theorem list_parts {s : Shared} {l : Addr} {xs : Array Value} (h : s.heap.IsList l xs) : ∃ dd n sl, s.heap.get? l = some { cls := .type "list", dict := dd, data := .seq xs n, slots := sl } := by
  obtain ⟨⟨cls, dd, data, sl⟩, ho, hc, n, hd⟩ := id h
  simp only at hc hd
  subst hc hd
  exact ⟨_, _, _, ho⟩
theorem nilEqP {A : Around} {s : Shared} {p q : Addr} {us ws : Array Value} (kl : s.heap.IsList p us) (kr : s.heap.IsList q ws) (hw : ws.size = 0) (hu : A.units < cLine) (E Q : Value → Shared → Prop) (h : Q (.bool (us.size == 0)) s) :
    wpAny (model prog w) A (richCompare .Eq (.ref p) (.ref q)) Q E s := by
  by_cases z : us.size = 0
  · refine SeqAt.rcP_lists (e := fun _ => true) kl kr (z.trans hw.symm) hu (fun j h1 => absurd h1 (by omega)) E Q ?_
    rw [z] at h ⊢
    exact h
  · obtain ⟨d1, n1, z1, o1⟩ := list_parts kl
    obtain ⟨d2, n2, z2, o2⟩ := list_parts kr
    have e : (us.size == 0) = false := by simpa using z
    rw [e] at h
    exact wpAny_richCompare_same_room (op := .Eq) ⟨_, o1, rfl⟩ ⟨_, o2, rfl⟩ PySem.F.slot_list_eq (call_meetsIn PySem.F.slot_list_eq ⟨_, o1, rfl⟩ PySem.F.entry_list_eq (PySem.F.args_list_eq_2 _ _) (lstEqIn p q us ws n1 n2 d1 d2 z1 z2 (by rw [hw]; simpa using z))
      ⟨o1, o2, show Value.bool false ≠ Value.notImplemented ∧ Q (.bool false) s from ⟨(fun x => nomatch x), h⟩⟩) hu
theorem nilNeP {A : Around} {s : Shared} {p q : Addr} {us ws : Array Value} (kl : s.heap.IsList p us) (kr : s.heap.IsList q ws) (hw : ws.size = 0) (hu : A.units < cLine) (E Q : Value → Shared → Prop) (h : Q (.bool (!(us.size == 0))) s) :
    wpAny (model prog w) A (richCompare .NotEq (.ref p) (.ref q)) Q E s := by
  obtain ⟨d1, n1, z1, o1⟩ := list_parts kl
  obtain ⟨d2, n2, z2, o2⟩ := list_parts kr
  by_cases z : us.size = 0
  · have e : (us.size == 0) = true := by simpa using z
    rw [e] at h
    exact wpAny_richCompare_same_room (op := .NotEq) ⟨_, o1, rfl⟩ ⟨_, o2, rfl⟩ PySem.F.slot_list_ne (call_meetsIn PySem.F.slot_list_ne ⟨_, o1, rfl⟩ PySem.F.entry_list_ne (PySem.F.args_list_ne_2 _ _) (lstNeIn0 p q us ws n1 n2 d1 d2 z1 z2 z hw)
      ⟨o1, o2, show Value.bool false ≠ Value.notImplemented ∧ Q (.bool false) s from ⟨(fun x => nomatch x), h⟩⟩) hu
  · have e : (us.size == 0) = false := by simpa using z
    rw [e] at h
    exact wpAny_richCompare_same_room (op := .NotEq) ⟨_, o1, rfl⟩ ⟨_, o2, rfl⟩ PySem.F.slot_list_ne (call_meetsIn PySem.F.slot_list_ne ⟨_, o1, rfl⟩ PySem.F.entry_list_ne (PySem.F.args_list_ne_2 _ _) (lstNeIn p q us ws n1 n2 d1 d2 z1 z2 (by rw [hw]; simpa using z))
      ⟨o1, o2, show Value.bool true ≠ Value.notImplemented ∧ Q (.bool true) s from ⟨(fun x => nomatch x), h⟩⟩) hu
end
section
variable {X : Cx}
def rIsNil (K : PySem.W.Frag) : R2 := fun x y H Q => ∃ a b xs, x = .ref a ∧ y = .ref b ∧ SqL K H a xs ∧ SqL K H b [] ∧ Q (.bl xs.isEmpty) H
def rNotNil (K : PySem.W.Frag) : R2 := fun x y H Q => ∃ a b xs, x = .ref a ∧ y = .ref b ∧ SqL K H a xs ∧ SqL K H b [] ∧ Q (.bl (!xs.isEmpty)) H
theorem op_nil (hu : X.A.units < cLine) : OpR X (compareOp .Eq) (rIsNil X.K) := by
  intro pins s σ H x y v u Q I rx ry h
  obtain ⟨a, b, xs, rfl, rfl, ha, hb, q⟩ := h
  cases rx
  cases ry
  obtain ⟨its, rv, pl, _⟩ := I.list ha
  obtain ⟨its2, rv2, pl2, _⟩ := I.list hb
  have l2 := rv2.length
  refine nilEqP pl.isList pl2.isList (by rw [List.size_toArray, ← l2]; rfl) hu _ _ ⟨.bl xs.isEmpty, H, I, ?_, q⟩
  have l1 := rv.length
  show Value.bool _ = Value.bool _
  rw [List.size_toArray, ← l1]
  cases xs <;> rfl
theorem op_notNil (hu : X.A.units < cLine) : OpR X (compareOp .NotEq) (rNotNil X.K) := by
  intro pins s σ H x y v u Q I rx ry h
  obtain ⟨a, b, xs, rfl, rfl, ha, hb, q⟩ := h
  cases rx
  cases ry
  obtain ⟨its, rv, pl, _⟩ := I.list ha
  obtain ⟨its2, rv2, pl2, _⟩ := I.list hb
  have l2 := rv2.length
  refine nilNeP pl.isList pl2.isList (by rw [List.size_toArray, ← l2]; rfl) hu _ _ ⟨.bl (!xs.isEmpty), H, I, ?_, q⟩
  have l1 := rv.length
  show Value.bool _ = Value.bool _
  rw [List.size_toArray, ← l1]
  cases xs <;> rfl
@[simp] def eqNil : S2 := fun d e Q => match d, e with
  | .lst xs, .lst [] => Q (.bl xs.isEmpty)
  | _, _ => False
@[simp] def neNil : S2 := fun d e Q => match d, e with
  | .lst xs, .lst [] => Q (.bl (!xs.isEmpty))
  | _, _ => False
theorem rpa_empty {K : PySem.W.Frag} {F : Hp} {vs : List V} {ds : List D} (r : RpA K F vs ds) : vs.isEmpty = ds.isEmpty := by cases r <;> rfl
theorem o_eqNil (hu : X.A.units + 64 < cLine) : DOp X (compareOp .Eq) eqNil := by
  refine ⟨_, op_nil (by omega), fun F H x y d e Q Q' s rx ry h k => ?_⟩
  cases rx with
  | lst h1 r1 =>
    cases ry with
    | @lst b ws es h2 r2 =>
      cases es with
      | nil =>
        cases r2
        exact ⟨_, _, _, rfl, rfl, .of (s _ _ h1), .of (s _ _ h2), by rw [rpa_empty r1]; exact k _ _ F H h .nil (.bl _)⟩
      | cons _ _ => exact h.elim
    | _ => exact h.elim
  | _ => exact h.elim
theorem o_neNil (hu : X.A.units + 64 < cLine) : DOp X (compareOp .NotEq) neNil := by
  refine ⟨_, op_notNil (by omega), fun F H x y d e Q Q' s rx ry h k => ?_⟩
  cases rx with
  | lst h1 r1 =>
    cases ry with
    | @lst b ws es h2 r2 =>
      cases es with
      | nil =>
        cases r2
        exact ⟨_, _, _, rfl, rfl, .of (s _ _ h1), .of (s _ _ h2), by rw [rpa_empty r1]; exact k _ _ F H h .nil (.bl _)⟩
      | cons _ _ => exact h.elim
    | _ => exact h.elim
  | _ => exact h.elim
end
/-- a pen of two numbers: what is left of a cell; or what is mixed, and how often -/
def PenQ : OC → Prop := fun c => ∃ i j : Int, c = .lst [.int i, .int j] ∧ 0 ≤ j ∧ (j = 0 ∨ (0 ≤ i ∧ i < 2147483648))
end L2.DL

namespace PySem.W
variable {prog : Program} {w : World} {K : Type} [DecidableEq K] {knd : KeyKind prog w K} {A : Around} {E : Value → Shared → Prop} {s : Shared}
theorem rcP_dictsNe {a b : Addr} {ka kb : List (K × Value)} {r : Bool} (ha : (a == sysModules) = false) (hb : (b == sysModules) = false)
    (da : s.heap.DictOf knd a ka) (db : s.heap.DictOf knd b kb) (hu : A.units < cLine) (hits : ka.length = kb.length → KeqHitsP prog w A.in1 s kb ka r) (E Q : Value → Shared → Prop) (h : Q (.bool (!(ka.length == kb.length && r))) s) : wpAny (model prog w) A (richCompare .NotEq (.ref a) (.ref b)) Q E s := by
  have ty := db.typeIs
  refine wpAny_richCompare_same_room (op := .NotEq) da.typeIs ty PySem.F.slot_dict_ne (wpAny_call_entry PySem.F.slot_dict_ne da.typeIs PySem.F.entry_dict_ne ?_ (PySem.F.args_dict_ne_2 _ _)) hu
  show wpAny _ _ (Builtin.Dict.dictSlotArgs "__ne__" ⟨[.ref a, .ref b], []⟩ >>= _) _ _ s
  apply wpAny_bind
  unfold Builtin.Dict.dictSlotArgs
  apply wpAny_bind
  apply wpAny_notOrdered_dict da.typeIs
  show wpAny _ _ (pure (Value.ref a, Value.ref b)) _ _ s
  apply wpAny_pure
  refine wpAny_bind (wpAny_isInstance (T := "dict") ty PySem.F.sub_dict_dict ?_)
  simp only [Bool.not_true, Bool.false_eq_true, if_false]
  apply wpAny_bind; apply wpAny_pure; apply wpAny_bind; apply wpAny_pure
  apply wpAny_bind; apply samePairsP ha hb da db hits
  exact wpAny_pure ⟨_, rfl, fun x => (nomatch x), by simpa using h⟩
end PySem.W
namespace L2.DL
open PySem PySem.Spec PyProof.Rows
/-! ### != of two dicts of the same data -/
section
variable {X : Cx}
def rTwoNeK (K : PySem.W.Frag) : R2 := fun x y H Q => ∃ F n kvs, n ≤ 60 ∧ Same F H ∧ Sm n (.dct kvs) ∧ Rp K F x (.dct kvs) ∧ Rp K F y (.dct kvs) ∧ Q (.bl false) H
theorem op_twoNeK (hu : X.A.units + 64 < cLine) : OpR X (compareOp .NotEq) (rTwoNeK X.K) := by
  intro pins s σ H x y v u Q I rx ry h
  obtain ⟨F, n, kvs, hn, sF, hd, r1, r2, q⟩ := h
  cases hd with
  | @dct m _ nd hs =>
    cases r1 with
    | dct h1 ra =>
      cases r2 with
      | dct h2 rb =>
        cases rx
        cases ry
        obtain ⟨l, _, hp⟩ := two_val nd hs ra rb
        obtain ⟨_, ya, va, ka, da⟩ := (show ObjOk X.prog X.w H s.heap _ (.dK _) from I.hok _ _ (sF _ _ h1))
        obtain ⟨_, yb, vb, kb, db⟩ := (show ObjOk X.prog X.w H s.heap _ (.dK _) from I.hok _ _ (sF _ _ h2))
        refine PySem.W.rcP_dictsNe (knd := mixKind X.prog X.w) (r := true) ya yb da db (by omega) (fun _ => hits_run (two_run I sF m X.A.in1 (by show X.A.units + 1 + m < cLine; omega)) kb ka hp) _ _ ?_
        have e : va.length = vb.length := by rw [← ka.length, ← kb.length]; exact l
        rw [show (!(va.length == vb.length && true)) = false from by rw [e]; simp]
        exact ⟨.bl false, H, I, rfl, q⟩
@[simp] def neDct : S2 := fun d e Q => match d, e with
  | .dct a, .dct b => a = b ∧ (∃ n, n ≤ 60 ∧ Sm n (.dct a)) ∧ Q (.bl false)
  | _, _ => False
theorem o_neDct (hu : X.A.units + 64 < cLine) : DOp X (compareOp .NotEq) neDct := by
  refine ⟨_, op_twoNeK hu, fun F H x y d e Q Q' s rx ry h k => ?_⟩
  cases d with
  | dct a =>
    cases e with
    | dct b =>
      obtain ⟨rfl, ⟨n, hn, hd⟩, h⟩ := h
      exact ⟨F, n, a, hn, s, hd, rx, ry, k _ _ F H h .nil (.bl _)⟩
    | _ => exact h.elim
  | _ => exact h.elim
end
end L2.DL

namespace L2.DL
open PySem PySem.Spec PyProof.Rows

/-! ### len(set(x)) of texts all unlike: how many they are -/
section
variable {pg : Program} {wd : World} {Ar : Around} {Rz : Result → Shared → Prop} {It : Addr} {fpr wrt : List Addr} {Gn : Array GenState → Array GenState → Prop} {num : Nat} {Pz : Nat → Value → Prop} {Sz : Nat → Shared → Prop}
/-- a set of texts stays as the heap around it moves -/
theorem setOf_stay {h h' : Heap} {a : Addr} {f : Str → Bool} {m : Nat} (x : h.SetOf (PySem.strKind pg wd) a f m) (k : ∀ o, h.get? a = some o → h'.get? a = some o) : h'.SetOf (PySem.strKind pg wd) a f m := by
  obtain ⟨o, es, ep, tb, ho, r⟩ := x
  exact ⟨o, es, ep, tb, k _ ho, r⟩
theorem texts_in (Wk : WalksS pg wd Ar.in1 It fpr wrt Gn num Pz Sz) (at0 : Addr) (free : at0 ∉ fpr) (ts : List Str) (len : ts.length = num) (nd : ts.Nodup) (room : num + 1 < scanBound)
    (read : ∀ i v, Pz i v → ∃ tk, v = .str (ts.getD i Str.empty) tk) :
    ∀ (left done : Nat) (sh : Shared), done + left = num → Sz done sh → sh.heap.SetOf (PySem.strKind pg wd) at0 (fun y => decide (y ∈ ts.take done)) done →
      (∀ sh', Moved (at0 :: wrt) Gn sh sh' → sh'.heap.SetOf (PySem.strKind pg wd) at0 (fun y => decide (y ∈ ts)) num → Rz (.ok (.ret .none)) sh') →
      codeAny (model pg wd) Ar (.builtin "set.update.loop" ⟨[.ref at0, .ref It], []⟩) Rz sh := by
  have off : at0 ∉ wrt := fun h => free (Wk.sub _ h)
  have more : ∀ b ∈ wrt, b ∈ at0 :: wrt := fun b hb => List.mem_cons_of_mem _ hb
  intro left
  induction left with
  | zero =>
    intro done sh sum st set fin
    obtain rfl : done = num := by omega
    rw [show ts.take done = ts from List.take_of_length_le (by omega)] at set
    refine codeAny_builtin PyProof.Rows.F.entry_set_update_loop ?_
    rw [Around.under_plainId PyProof.Rows.F.plain_set_update_loop _]
    show wpAny _ Ar.in1 (pyNext (.ref It) >>= _) _ _ sh
    refine wpAny_bind (Wk.done sh _ _ st fun sh' mv => ?_)
    exact wpAny_pure (fin sh' (mv.mono more) (setOf_stay set fun o e => mv.heap at0 o off e))
  | succ left ih =>
    intro done sh sum st set fin
    have lt : done < num := by omega
    refine codeAny_builtin PyProof.Rows.F.entry_set_update_loop ?_
    rw [Around.under_plainId PyProof.Rows.F.plain_set_update_loop _]
    show wpAny _ Ar.in1 (pyNext (.ref It) >>= _) _ _ sh
    refine wpAny_bind (Wk.item done sh _ _ lt st fun v sh' pv st' mv => ?_)
    obtain ⟨tk, rfl⟩ := read done v pv
    have lt2 : done < ts.length := by omega
    have gx : ts.getD done Str.empty = ts[done] := by rw [List.getD_eq_getElem?_getD, List.getElem?_eq_getElem lt2]; rfl
    rw [gx]
    have set' := setOf_stay set fun o e => mv.heap at0 o off e
    show wpAny _ Ar.in1 (holding [Value.str ts[done] tk] (setAdd at0 (.str ts[done] tk)) >>= _) _ _ sh'
    refine wpAny_bind (wpAny_holding ?_)
    unfold setAdd
    refine wpAny_holding (wpAny_bind ((PySem.strKind pg wd).pyHash (k := ts[done]) (strKind_is _ _ _ _) ?_))
    refine wpAny_setAddHashed_of (knd := PySem.strKind pg wd) (s := { sh' with toks := sh'.toks + 1 }) (strKind_is _ _ _ _) rfl set' (by omega) fun hp sb set2 => ?_
    have nin : ¬ ts[done] ∈ ts.take done := fun m => by
      obtain ⟨j, hj, e⟩ := List.getElem_of_mem m
      rw [List.length_take] at hj
      rw [List.getElem_take] at e
      exact (List.pairwise_iff_getElem.mp nd) j done (by omega) lt2 (by omega) e
    have set3 : hp.SetOf (PySem.strKind pg wd) at0 (fun y => decide (y ∈ ts.take (done + 1))) (done + 1) := by
      refine SetOf_congr set2 (fun y => ?_) (by rw [decide_eq_false nin]; rfl)
      show (decide (y ∈ ts.take done) || decide (y = ts[done])) = decide (y ∈ ts.take (done + 1))
      have e : ts.take (done + 1) = ts.take done ++ [ts[done]] := by rw [List.take_add_one, List.getElem?_eq_getElem lt2]; rfl
      rw [e, Bool.eq_iff_iff, Bool.or_eq_true, decide_eq_true_eq, decide_eq_true_eq, decide_eq_true_eq, List.mem_append, List.mem_singleton]
    refine wpAny_pure ⟨plainId_quiet PyProof.Rows.F.plain_set_update_loop _, ih (done + 1) _ (by omega) (Wk.frame _ sh' _ _ st' (Nat.le_succ _) fun b hb o e => ?_) set3 fun sh2 mv2 set4 => ?_⟩
    · rw [sb.2 b (fun h : b = at0 => free (h ▸ hb))]; exact e
    · refine fin sh2 (Moved.trans Wk.gtrans ((mv.mono more).then_heap (Nat.le_succ _) fun b o hb e => ?_) mv2) set4
      rw [sb.2 b (fun h : b = at0 => hb (h ▸ List.mem_cons_self))]; exact e
end
section
variable {pg : Program} {wd : World} {Ar : Around} {Ez : Value → Shared → Prop} {sh : Shared}
/-- the object that set(..) makes first -/
abbrev newSet (led : Bool) : Obj := { cls := .type "set", dict := none, data := .set #[] 0 (.fresh 0 0 led) }
/-- what set(..) leaves -/
def Made (pg : Program) (wd : World) (sh : Shared) (ts : List Str) (h' : Heap) : Prop :=
  h'.SetOf (PySem.strKind pg wd) sh.heap.objs.size (fun y => decide (y ∈ ts)) ts.length ∧ ∀ b o, b < sh.heap.objs.size → sh.heap.get? b = some o → h'.get? b = some o
set_option maxHeartbeats 3200000 in
theorem set_init {la : Addr} {vs : Array Value} {ts : List Str} (led : Bool) (hh : Ar.handled = none) (hl : sh.heap.IsList la vs) (hi : StrsAre vs.toList ts) (nd : ts.Nodup) (room : ts.length + 1 < scanBound) (Qz : PySem.Fin → Shared → Prop)
    (fin : ∀ h' tk, Made pg wd sh ts h' → Qz (.done (.ret .none)) { sh with heap := h', toks := tk }) :
    wpAny (model pg wd) Ar.in1 (Builtin.«set.__init__» ⟨[.ref sh.heap.objs.size, .ref la], []⟩) Qz Ez { sh with heap := sh.heap.push (newSet led) } := by
  obtain ⟨⟨c0, d0, t0, z0⟩, ho, hc, n0, hd⟩ := hl
  simp only at hc hd
  subst hc hd
  have hget : (sh.heap.push (newSet led)).get? sh.heap.objs.size = some (newSet led) := Heap.get?_push_size _ rfl
  have ho' := Heap.get?_push_of_some (newSet led) ho
  have isl : (sh.heap.push (newSet led)).IsList la vs := ⟨_, ho', rfl, n0, rfl⟩
  have nset := PySem.F.sub_list_set
  have nfro := PySem.F.sub_list_frozenset
  have ndct : (Value.type "list" == Value.type "dict") = false := by decide
  unfold Builtin.«set.__init__» noKeywords Builtin.Frozenset.updateFrom
  generalize hg : pyIter = go
  wp_walk
  subst hg
  have lt0 : la < sh.heap.objs.size := Heap.lt_size ho
  have size2 : (sh.heap.push (newSet led)).objs.size = sh.heap.objs.size + 1 := Heap.size_push ..
  have apart : sh.heap.objs.size ∉ [(sh.heap.push (newSet led)).objs.size, la] := by
    rw [size2]
    intro m
    rcases List.mem_cons.mp m with e | m
    · exact absurd e (Nat.ne_of_lt (Nat.lt_succ_self _))
    · exact absurd (List.mem_singleton.mp m) (Nat.ne_of_gt lt0)
  have lens : ts.length = vs.size := by rw [← StrsAre.len_eq hi, Array.length_toList]
  refine wpAny_pyIter_list isl (wpAny_bind (wpAny_runValue ?_))
  refine texts_in ((Walks.list (by simp [hh]) _ la (by rw [size2]; exact Nat.ne_of_lt (Nat.lt_succ_of_lt lt0)) vs).toS) sh.heap.objs.size apart ts lens nd (by omega)
    (fun i v hv => SS.strs_at hi i v (by rw [Array.getElem?_toList]; exact hv)) vs.size 0 _ (Nat.zero_add _) ⟨⟨_, Heap.get?_push_size _ rfl, rfl, rfl⟩, isl.push _⟩ ?_ fun sh' mv st => ?_
  · refine SetOf_congr ((setObjOf_fresh (knd := PySem.strKind pg wd) led).setOf (Heap.get?_push_of_some _ hget) (by unfold scanBound; omega)) (fun _ => rfl) rfl
  · obtain ⟨h', g', d', tk', os'⟩ := sh'
    have e1 : g' = sh.gens := mv.gens
    have e2 : d' = sh.drawn := mv.drawn
    have e3 : os' = sh.os := mv.os
    subst e1 e2 e3
    show wpAny _ _ (pure ()) _ _ _
    refine wpAny_pure (wpAny_pure ?_)
    refine fin h' tk' ⟨by rw [lens]; exact st, fun b o hb e => mv.heap b o (fun m => ?_) (Heap.get?_push_of_some _ (Heap.get?_push_of_some _ e))⟩
    rcases List.mem_cons.mp m with e | m
    · exact absurd e (Nat.ne_of_lt hb)
    · have := List.mem_singleton.mp m
      rw [size2] at this
      exact absurd this (Nat.ne_of_lt (Nat.lt_succ_of_lt hb))
set_option maxHeartbeats 3200000 in
theorem set_made {la : Addr} {vs : Array Value} {ts : List Str} (hh : Ar.handled = none) (hl : sh.heap.IsList la vs) (hi : StrsAre vs.toList ts) (nd : ts.Nodup) (room : ts.length + 1 < scanBound) (Qz : Value → Shared → Prop)
    (fin : ∀ h' tk, Made pg wd sh ts h' → Qz (.ref sh.heap.objs.size) { sh with heap := h', toks := tk }) :
    wpAny (model pg wd) Ar (call (.type "set") [.ref la]) Qz Ez sh := by
  obtain ⟨c, tl, mro⟩ := PySem.F.called_set.mro
  have made := PySem.F.called_set.made
  have sub := PySem.F.called_set.sub
  have k1 := PySem.F.called_set.notType
  have k2 := PySem.F.called_set.canCreate
  have k3 := PySem.F.typeCall_set_1 (.ref la)
  apply wpAny_call
  apply codeAny_of_tree
  show wpAny _ _ (callAny (.type "set") _) _ _ _
  refine wpAny_pure ⟨Code.quiet_builtin _ (by decide +kernel), ?_⟩
  apply codeAny_builtin PySem.F.entry_type_call
  rw [Around.under_plain (weight_type_call_type "set" [.ref la] []) rfl]
  repeat (any_goals (first | assumption | wp_step))
  refine codeAny_mono (code_set_new_1 (.ref la) (E := Ez) (Q₁ := fun ob s1 => ∃ led, ob = .ref sh.heap.objs.size ∧ s1 = { sh with heap := sh.heap.push (newSet led) }) fun led => ⟨led, rfl, rfl⟩) fun r s1 hr => ?_
  match r, hr with
  | .error e, hr => exact hr
  | .ok (.ret ob), hr =>
    obtain ⟨led, rfl, rfl⟩ := hr
    have hget : (sh.heap.push (newSet led)).get? sh.heap.objs.size = some (newSet led) := Heap.get?_push_size _ rfl
    have ty : Shared.TypeIs { sh with heap := sh.heap.push (newSet led) } (.ref sh.heap.objs.size) "set" := ⟨_, hget, rfl⟩
    have il := PySem.F.called_set.init.lookup
    have ib := PySem.F.called_set.init.bind (.ref sh.heap.objs.size)
    repeat (any_goals (first | assumption | wp_step))
    refine codeAny_mono (codeAny_call_builtin (R := wants (fun r s2 => r = .none ∧ ∃ h' tk, s2 = { sh with heap := h', toks := tk } ∧ Made pg wd sh ts h') Ez) PySem.F.called_set.init.plain PySem.F.entry_set_init
      (check_set_init_1 ty (set_init (Ar := Ar.in1) led hh hl hi nd room _ fun h' tk md => ⟨rfl, h', tk, rfl, md⟩))) fun r2 s2 hr2 => ?_
    match r2, hr2 with
    | .error e, hr2 => exact hr2
    | .ok (.ret x), hr2 =>
      obtain ⟨rfl, h', tk, rfl, md⟩ := hr2
      repeat (any_goals (first | assumption | wp_step))
      exact fin h' tk md
    | .ok (.next), hr2 => exact hr2.elim
  | .ok (.next), hr => exact hr.elim
end
section
variable {X : Cx} {B : Bd} {a : Expr} {ta : TD} {p p2 q pos : Pos}
def tLenSetN (K : PySem.W.Frag) (t : TE) : TE := fun σ H Q => t σ H fun x H1 => ∃ (l : Addr) (ts : List Str), x = .ref l ∧ SqL K H1 l (ts.map V.str) ∧ ts.Nodup ∧ ts.length < 1000 ∧ Q (.int ts.length) H1
theorem pe_lenSetN {t : TE} (hc : X.calm = true) (hg : Gl X "len") (hm : X.mg "len" = none) (hg2 : Gl X "set") (hm2 : X.mg "set" = none) (ha : PE X a t)
    (na : starEach [a] X.env = (false, eval a X.env) :: starEach [] X.env := by rfl) : PE X (.Call (.Name "len" p) [.Call (.Name "set" p2) [a] [] q] [] pos) (tLenSetN X.K t) := by
  refine ⟨fun pins s σ H Q I h => Call_ (ld_blt I hg hm boot_len (callWith_builtin1 (args_cons ?_ rfl) rfl rfl))⟩
  refine Call_ (ld_blt I hg2 hm2 boot_set ?_)
  refine callWith_type1 (args_cons (thn (ha.run pins s σ H _ I h) fun v s1 ⟨x, H1, I1, r1, l, ts, e, hq, nd, hl, q1⟩ => args_nil ?_) na) na rfl
  subst e
  cases r1
  obtain ⟨its, r, pl, hz⟩ := I1.list hq
  refine set_made (I1.ok.hd hc) pl.isList (by simpa using strsAre_of r) nd (by unfold scanBound; omega) _ fun h' tk md => args_nil ?_
  obtain ⟨⟨o, es, ep, tb, ho, hex, hd, _, _, _, hf, hn⟩, keep⟩ := md
  have I2 : Inv X pins σ H1 { s1 with heap := h', toks := tk } := I1.kept fun b o e => keep b o (Heap.lt_size e) e
  exact call_len_set ho hex hd hf (by rw [hn]; omega) ⟨.int ts.length, H1, I2.tok _, ⟨_, by rw [hn]⟩, q1⟩
/-- len(set(x)), x a list of texts all unlike -/
@[simp] def qLenSet (ta : TD) : TD := fun env Q => ta env fun d env1 => match d with
  | .lst ds => ∃ ts : List Str, ds = ts.map D.str ∧ ts.Nodup ∧ ts.length < 1000 ∧ Q (.int ts.length) env1
  | _ => False
theorem de_lenSet (hc : X.calm = true) (hg : Gl X "len") (hm : X.mg "len" = none) (hg2 : Gl X "set") (hm2 : X.mg "set" = none) (ha : DE X B a ta)
    (na : starEach [a] X.env = (false, eval a X.env) :: starEach [] X.env := by rfl) : DE X B (.Call (.Name "len" p) [.Call (.Name "set" p2) [a] [] q] [] pos) (qLenSet ta) := by
  obtain ⟨te, pe, h⟩ := ha.ex
  refine ⟨_, pe_lenSetN hc hg hm hg2 hm2 pe na, fun F H σ env Q Q' R ht k => ?_⟩
  refine h F H σ env _ _ R ht fun d env1 v F1 H1 q1 s1 R1 r1 => ?_
  cases r1 with
  | lst hd ra =>
    obtain ⟨ts, rfl, nd, hl, q1⟩ := q1
    obtain rfl := RpA.of_strs ra
    exact ⟨_, ts, rfl, .of (R1.sub _ _ hd), nd, hl, k _ env1 _ F1 H1 q1 s1 R1 (.int _)⟩
  | _ => exact q1.elim
end
/-! ### text.split(sep) -/
section
variable {X : Cx} {B : Bd} {e a : Expr} {te tx : TD} {apos cpos : Pos}
@[simp] def qSplit (te tx : TD) : TD := fun env Q => te env fun d env1 => match d with
  | .str z => tx env1 fun x env2 => match x with
    | .str y => (y.length == 0) = false ∧ z.length + 2 ≤ sizeLine ∧ Q (.lst ((Txt.split z y).map D.str)) env2
    | _ => False
  | _ => False
theorem RpA.strs {K : PySem.W.Frag} {F : Hp} : ∀ ys : List Str, RpA K F (ys.map V.str) (ys.map D.str)
  | [] => .nil
  | y :: r => .cons (.str y) (RpA.strs r)
theorem de_split (he : DE X B e te) (hx : DE X B a tx) (hs : starEach [a] X.env = [(false, eval a X.env)] := by rfl) (hbase : attributeBase e "split" X.env (eval e X.env) = eval e X.env := by rfl) (hline : (apos.endLine == cpos.line) = true := by rfl) :
    DE X B (.Call (.Attribute e "split" apos) [a] [] cpos) (qSplit te tx) := by
  obtain ⟨t1, q1, h1⟩ := he.ex
  obtain ⟨t2, q2, h2⟩ := hx.ex
  refine ⟨_, pe_m1 PySem.F.slot_str_split PySem.F.type_str_split mt_split q1 q2 hs hbase hline, fun F H σ env Q Q' R ht k => ?_⟩
  refine h1 F H σ env _ _ R ht fun d env1 v F1 H1 q s1 R1 r1 => ?_
  cases r1 with
  | str z =>
    refine ⟨⟨z, rfl⟩, ?_⟩
    refine h2 F1 H1 σ env1 _ _ R1 q fun x env2 w F2 H2 q s2 R2 r2 => ?_
    cases r2 with
    | str y =>
      obtain ⟨ny, hl, q⟩ := q
      refine ⟨z, y, rfl, rfl, ny, hl, fun p hp => ?_⟩
      exact k _ env2 _ _ _ q ((s1.trans s2).trans (same_upd (R2.freeF hp))) (R2.alloc hp) (.lst upd_same (RpA.strs _))
    | _ => exact q.elim
  | _ => exact q.elim
end
theorem valsStr : ∀ l : List (Str × Tok), Vals (l.map fun p => V.str p.1) (l.map fun p => Value.str p.1 p.2)
  | [] => .nil
  | p :: r => .cons ⟨_, rfl⟩ (valsStr r)
end L2.DL

namespace L2.DL
open PySem PySem.Spec PyProof.Rows

/-! ### a, b = x, y and a, b, c = x, y, z -/
section
variable {X : Cx} {B : Bd} {pos : Pos} {K : PySem.W.Frag}
@[simp] def sPar (i j : Nat) (ta : TDA) : TDS := fun DD env => ta env fun ds env1 => match ds with
  | [d, e] => setC i (.val d) env1 fun env2 => setC j (.val e) env2 DD.nx
  | _ => False
theorem ds_par {i j : Nat} {x y : Str} {a b : Expr} {ta : TDA} {px py pt : Pos} {kt k2 pt2} (hc : X.calm = true) (hN : X.N.Nodup) (h : DA X B [a, b] ta) (hi : X.N[i]? = some x := by rfl) (hj : X.N[j]? = some y := by rfl) (hij : i ≠ j := by decide)
    (hx : X.env.scope.names.lookup x = some .local := by rfl) (hy : X.env.scope.names.lookup y = some .local := by rfl)
    (hw : swappedStores [.Tuple [.Name x px, .Name y py] kt pt] (.Tuple [a, b] k2 pt2) X.env = pure (some [x, y]) := by rfl)
    (hs : swapsWithSole [.Tuple [.Name x px, .Name y py] kt pt] (.Tuple [a, b] k2 pt2) pos.line X.env = pure false := by rfl) :
    DS X B (.Assign [.Tuple [.Name x px, .Name y py] kt pt] (.Tuple [a, b] k2 pt2) pos) (sPar i j ta) := by
  obtain ⟨ts, p, h⟩ := h.ex
  refine ⟨_, ps_par (i := i) (j := j) hc hN hi hj hij hx hy p hw hs, fun F H σ env DD DH R ht l => ?_⟩
  refine h F H σ env _ _ R ht fun ds env1 vs F1 H1 q s1 R1 r1 => ?_
  match ds, vs, r1, q with
  | [d, e], _, .cons r1 (.cons r2 .nil), q => exact ⟨_, _, rfl, l.nx _ _ F1 H1 (setC_of (setC_of q)) s1 ((R1.set r1 i).set r2 j)⟩
@[simp] def sPar3 (i j k : Nat) (ta : TDA) : TDS := fun DD env => ta env fun ds env1 => match ds with
  | [d, e, f] => setC i (.val d) env1 fun env2 => setC j (.val e) env2 fun env3 => setC k (.val f) env3 DD.nx
  | _ => False
theorem ds_par3 {i j l : Nat} {x y z : Str} {a b c : Expr} {ta : TDA} {px py pz pt : Pos} {kt k2 pt2} (hc : X.calm = true) (hN : X.N.Nodup) (h : DA X B [a, b, c] ta) (hi : X.N[i]? = some x := by rfl) (hj : X.N[j]? = some y := by rfl) (hl : X.N[l]? = some z := by rfl) (hij : i ≠ j := by decide) (hil : i ≠ l := by decide) (hjl : j ≠ l := by decide)
    (hx : X.env.scope.names.lookup x = some .local := by rfl) (hy : X.env.scope.names.lookup y = some .local := by rfl) (hz : X.env.scope.names.lookup z = some .local := by rfl)
    (hw : swappedStores [.Tuple [.Name x px, .Name y py, .Name z pz] kt pt] (.Tuple [a, b, c] k2 pt2) X.env = pure (some [x, y, z]) := by rfl)
    (hs : swapsWithSole [.Tuple [.Name x px, .Name y py, .Name z pz] kt pt] (.Tuple [a, b, c] k2 pt2) pos.line X.env = pure false := by rfl) :
    DS X B (.Assign [.Tuple [.Name x px, .Name y py, .Name z pz] kt pt] (.Tuple [a, b, c] k2 pt2) pos) (sPar3 i j l ta) := by
  obtain ⟨ts, p, h⟩ := h.ex
  refine ⟨_, ps_par3 (i := i) (j := j) (l := l) hc hN hi hj hl hij hil hjl hx hy hz p hw hs, fun F H σ env DD DH R ht n => ?_⟩
  refine h F H σ env _ _ R ht fun ds env1 vs F1 H1 q s1 R1 r1 => ?_
  match ds, vs, r1, q with
  | [d, e, f], _, .cons r1 (.cons r2 (.cons r3 .nil)), q => exact ⟨_, _, _, rfl, n.nx _ _ F1 H1 (setC_of (setC_of (setC_of q))) s1 (((R1.set r1 i).set r2 j).set r3 l)⟩

/-! ### dict(a list of pairs) -/
def pairsD : List D → Option (List (Key × D))
  | [] => some []
  | .tup [k, v] :: r => match keyD k, pairsD r with
    | some key, some kvs => some ((key, v) :: kvs)
    | _, _ => none
  | _ :: _ => none
@[simp] def dictPD : D → (D → Prop) → Prop := fun d Q => match d with
  | .lst ps => ∃ kvs, pairsD ps = some kvs ∧ Q (.dct (mergeD [] kvs))
  | _ => False
theorem pairs_rp {F : Hp} : ∀ {ps : List D} {vs : List V} {kvs : List (Key × D)}, pairsD ps = some kvs → RpA K F vs ps →
    ∃ (as : List Addr) (ws : List (Key × V)), vs = as.map V.ref ∧ Paired (fun p (kv : Key × V) => SqT K F p [kV kv.1, kv.2]) as ws ∧ RpK K F ws kvs
  | [], _, kvs, h, .nil => by
    cases h
    exact ⟨[], [], rfl, .nil, .nil⟩
  | p :: r, _, kvs, h, .cons r1 rr => by
    unfold pairsD at h
    split at h
    · rename_i h0; cases h0
    · rename_i k v r' e0
      cases e0
      split at h
      · rename_i key kv2 hk hr
        cases h
        obtain ⟨as, ws, rfl, pp, rk⟩ := pairs_rp hr rr
        cases r1 with
        | tup q ra =>
          cases ra with
          | cons rk1 ra2 =>
            cases ra2 with
            | cons rv ra3 =>
              cases ra3
              have ek := key_rp hk rk1
              subst ek
              exact ⟨_ :: as, (key, _) :: ws, rfl, .cons q pp, .cons rv rk⟩
      · cases h
    · cases h
theorem Paired.imp2 {α β : Type} {P Q : α → β → Prop} (h : ∀ a b, P a b → Q a b) : ∀ {xs : List α} {ys : List β}, Paired P xs ys → Paired Q xs ys
  | _, _, .nil => .nil
  | _, _, .cons a b => .cons (h _ _ a) (Paired.imp2 h b)
theorem c_dictP (hc : X.calm = true) : DCl X (.type "dict") (n1 dictPD) := by
  refine ⟨_, call_dictP hc, fun F H xs ds Q Q' s r h k => ?_⟩
  obtain ⟨d, rfl, h⟩ := n1_of h
  obtain ⟨v, rfl, r1⟩ := rpa1 r
  cases r1 with
  | lst h1 ra =>
    obtain ⟨kvs, hk, q⟩ := h
    obtain ⟨as, ws, rfl, pp, rk⟩ := pairs_rp hk ra
    exact ⟨_, as, ws, rfl, .of (s _ _ h1), Paired.imp2 (fun a b h => same_sqT s h) pp, fun p hp => k _ _ _ _ q (.new hp) (.dct upd_same ((RpK.merge rk .nil).mono (same_upd (s.free hp))))⟩
  | _ => exact h.elim
/-- keys all unlike: nothing is overwritten -/
theorem putD_new {k : Key} {v : D} {kvs : List (Key × D)} (h : k ∉ kvs.map (·.1)) : putD kvs k v = kvs ++ [(k, v)] := by
  unfold putD
  rw [if_neg]
  intro e
  obtain ⟨kv, m, q⟩ := List.any_eq_true.mp e
  exact h (by rw [← of_decide_eq_true q]; exact List.mem_map_of_mem m)
theorem mergeD_nd : ∀ {more kvs : List (Key × D)}, ((kvs ++ more).map (·.1)).Nodup → mergeD kvs more = kvs ++ more
  | [], kvs, _ => by rw [List.append_nil]; rfl
  | (k, v) :: r, kvs, h => by
    have hk : k ∉ kvs.map (·.1) := fun m => by
      rw [List.map_append, List.map_cons, List.nodup_append] at h
      exact h.2.2 k m k List.mem_cons_self rfl
    show mergeD (putD kvs k v) r = _
    rw [putD_new hk, mergeD_nd (by rw [List.append_assoc]; exact h), List.append_assoc]
    rfl
end
end L2.DL

namespace L2.DL
open PySem PySem.Spec PyProof.Rows

/-! ### range(i, j, -1) -/
def dnD (hi : Int) (n : Nat) : List D := (List.range n).map fun (i : Nat) => D.int (hi - (i : Int))
theorem dnD_get {hi : Int} {n i : Nat} : (dnD hi n)[i]? = if i < n then some (D.int (hi - i)) else none := by
  unfold dnD
  rw [List.getElem?_map]
  by_cases h : i < n
  · rw [List.getElem?_range h, if_pos h]; rfl
  · rw [List.getElem?_eq_none (by simpa using Nat.le_of_not_lt h), if_neg h]; rfl
theorem dnD_len {hi : Int} {n : Nat} : (dnD hi n).length = n := by unfold dnD; simp
theorem dnD_nil (hi : Int) : dnD hi 0 = [] := rfl
theorem dnD_cons (hi : Int) (n : Nat) : dnD hi (n + 1) = .int hi :: dnD (hi - 1) n := by
  unfold dnD
  rw [List.range_succ_eq_map, List.map_cons, List.map_map]
  congr 1
  · rw [show hi - ((0 : Nat) : Int) = hi by omega]
  · apply List.map_congr_left
    intro i _
    show D.int (hi - ((i + 1 : Nat) : Int)) = D.int (hi - 1 - (i : Int))
    congr 1
    omega
theorem iter_down {K : PySem.W.Frag} {hi : Int} {n : Nat} {F0 : Hp} : IterOk K (Itc hi (-1) n) (dnD hi n) F0 := fun F H i s0 sH => by
  refine ⟨fun e => by rw [dnD_len] at e; exact Nat.le_of_eq e.symm, fun d e => ?_⟩
  rw [dnD_get] at e
  by_cases h : i < n
  · rw [if_pos h] at e; cases e
    refine ⟨h, ?_⟩
    rintro x H' ⟨rfl, rfl⟩
    refine ⟨F, .nil, ?_⟩
    rw [show hi + (i : Int) * -1 = hi - i by omega]
    exact .int _
  · rw [if_neg h] at e; cases e
section
variable {X : Cx} {B : Bd} {pos : Pos}
@[simp] def qRgN (tr : TDA) : TDI := fun env Q => tr env fun ds env1 => match ds with
  | [.int i, .int j, .int c] => (c = -1 ∧ SmallR i ∧ SmallR j) ∧ Q (dnD i (i - j).toNat) env1
  | _ => False
theorem RpA.int3 {K : PySem.W.Frag} {F : Hp} {vs : List V} {i j k : Int} (r : RpA K F vs [.int i, .int j, .int k]) : vs = [.int i, .int j, .int k] := by
  cases r with
  | cons r rr => cases r; rw [rr.int2]
theorem di_rangeN {tg a b c : Expr} {tr : TDA} {p : Pos} (hg : Gl X "range") (hm : X.mg "range" = none) (ha : DA X B [a, b, c] tr)
    (hs : starEach [a, b, c] X.env = (false, eval a X.env) :: starEach [b, c] X.env := by rfl) (hpl : (backTo pos (starEach [b, c] X.env)).any (·.1) = false := by rfl) :
    DI X B tg (.Call (.Name "range" p) [a, b, c] [] pos) (qRgN tr) := by
  obtain ⟨ts, q, h⟩ := ha.ex
  refine ⟨_, pi_range3 hg hm q hs hpl, fun F H σ env Q R' R ht k => ?_⟩
  refine h F H σ env _ _ R ht fun ds env1 vs F1 H1 q1 s1 R1 r1 => ?_
  split at q1
  · obtain ⟨⟨rfl, ⟨h1, h2⟩, ⟨h3, h4⟩⟩, q1⟩ := q1
    exact ⟨_, _, _, _, r1.int3, .neg h1 h2 h3 h4, k _ env1 _ F1 H1 q1 s1 R1 iter_down⟩
  · exact q1.elim
end
end L2.DL

namespace L2.DL
open PySem PySem.Spec PyProof.Rows

/-! ### tuple * int -/
theorem tuple_mul1 (l : Addr) (items : Array Value) (n : Nat) (dd : Option Addr) (sl : Array (Option Value)) (u : Tok) :
    Meets (Builtin.«tuple.__mul__» ⟨[.ref l, .int 1 u], []⟩) (fun _ R s => s.heap.get? l = some { cls := .type "tuple", dict := dd, data := .seq items n, slots := sl } ∧ R (.ok (.ret (Value.ref l))) s) :=
  .of_wp fun prog w A R s h => by
    obtain ⟨hp, g, d, tk, os⟩ := s
    obtain ⟨hl, h⟩ := h
    have f1 := AutoSeq1.idx_int
    have c1 : (items.isEmpty || (1 : Int) == 1) = true := by rw [show ((1 : Int) == 1) = true from rfl, Bool.or_true]
    wp_walk using wpAny_loadPart' hl
    repeat (first
      | (refine wpAny_ite_false (decide_eq_false (by decide)) ?_; wp_walk using wpAny_loadPart' hl)
      | (refine wpAny_ite_true (decide_eq_true (by rw [c1])) ?_; wp_walk using wpAny_loadPart' hl))
    exact ⟨_, rfl, h⟩
def rRep1 (K : PySem.W.Frag) : R2 := fun x y H Q => ∃ l xs, x = .ref l ∧ y = .int 1 ∧ SqT K H l xs ∧ Q (.ref l) H
section
variable {X : Cx}
theorem op_rep1 : OpR X (binaryOp .Mult) (rRep1 X.K) := by
  intro pins s σ H x y v u Q I rx ry h
  obtain ⟨l, xs, rfl, rfl, hT, q⟩ := h
  cases rx
  obtain ⟨t, rfl⟩ := ry
  obtain ⟨its, r, ⟨⟨cls, dd, data, sl⟩, ho, hc, n, hd⟩, hs⟩ := I.tuple hT
  simp only at hc hd
  subst hc hd
  refine wpAny_binaryOp_repeat_ref (T := "tuple") (U := "int") (by decide) ⟨_, ho, rfl⟩ (fun s' => typeIs_int s' 1 t) noFill_tuple_mul F.fills_int_mul F.slot_int_rmul repeat_tuple F.slot_int_index.lookup
    (call_meets F.slot_int_rmul (typeIs_int s 1 t) F.entry_int_rmul (F.args_int_rmul_2 _ _) (int_rmul_tuple 1 t l its.toArray n dd sl)
      ⟨ho, rfl, ⟨_, ho, rfl⟩, call_meets F.slot_tuple_mul ⟨_, ho, rfl⟩ F.entry_tuple_mul (F.args_tuple_mul_2 _ _) (tuple_mul1 l its.toArray n dd sl t) ⟨ho, ?_⟩⟩)
  exact ⟨.ref l, H, I, rfl, q⟩
/-- a tuple times an int from 1 on -/
@[simp] def mulT : S2 := fun d e Q => match d, e with
  | .tup a, .int k => (a ≠ [] ∧ 1 ≤ k ∧ k ≤ 1000 ∧ a.length ≤ 1000) ∧ Q (.tup (List.replicate k.toNat a).flatten)
  | _, _ => False
theorem o_mulT : DOp X (binaryOp .Mult) mulT := by
  refine ⟨_, op_repT.or op_rep1, fun F H x y d e Q Q' s rx ry h k => ?_⟩
  cases rx with
  | tup h1 r1 =>
    cases ry <;> first | exact h.elim | skip
    rename_i al vs ds i
    obtain ⟨⟨c0, c1, c2, c3⟩, h⟩ := h
    have hT := same_sqT s h1
    by_cases e : i = 1
    · subst e
      have e : (List.replicate (1 : Int).toNat ds).flatten = ds := by show (List.replicate 1 ds).flatten = ds; simp
      rw [e] at h
      exact .inr ⟨_, _, rfl, rfl, hT, k _ _ F H h .nil (.tup h1 r1)⟩
    · refine .inl ⟨_, _, _, rfl, rfl, hT, ?_, by omega, c2, by rw [r1.length]; exact c3, fun p hp => ?_⟩
      · intro z
        have := r1.length
        rw [z] at this
        exact c0 (List.eq_nil_of_length_eq_zero this.symm)
      · exact k _ _ _ _ h (.new hp) (.tup (.of upd_same) ((r1.rep _).mono (same_upd (s.free hp))))
  | _ => cases ry <;> exact h.elim
end
end L2.DL

namespace L2.DL
open PySem PySem.Spec PyProof.Rows
theorem ex_some {α : Type} {o : Option α} {x : α} {p : α → Prop} (h : o = some x) (k : p x) : ∃ x, o = some x ∧ p x := ⟨x, h, k⟩
section
variable {X : Cx} {B : Bd} {e a : Expr} {es : List Expr} {te tx : TD} {pos : Pos}
/-! ### pop -/
@[simp] def qPopL (i : Nat) : TD := fun env Q => ownL env i fun fr xs => ∃ ys y, xs = ys ++ [y] ∧ setC i (.own fr (.lst ys)) env (Q y)
theorem de_popL {i : Nat} {ce : Expr} (p : PE X ce (tBM0 X.K "list" rPop (tVar i))) : DE X B ce (qPopL i) := by
  refine ⟨_, p, fun F H σ env Q Q' R ht l => ?_⟩
  obtain ⟨fr, xs, e0, ys, y, rfl, ht⟩ := ownL_of ht
  obtain ⟨a, vs, s, h1, ra⟩ := own_read R e0
  have hl : vs.length = ys.length + 1 := by rw [ra.length, List.length_append, List.length_singleton]
  obtain ⟨v, hv, rv⟩ := ra.get (i := ys.length) (d := y) (by simp)
  have rd : RpA X.K F vs.dropLast ys := by
    have := ra.take ys.length
    rw [List.take_left] at this
    rwa [List.dropLast_eq_take, hl, Nat.add_sub_cancel]
  refine ⟨_, s, .inl ⟨rfl, _, SqL.of h1⟩, a, vs, v, rfl, rfl, h1, by rw [hl, Nat.add_sub_cancel]; exact hv, ?_⟩
  exact l _ _ _ F _ (setC_of ht) (Same.refl _) (R.writeAt e0 s ⟨_, upd_same, rd⟩) rv
@[simp] def qPop0 (i : Nat) : TD := fun env Q => ownL env i fun fr xs => match xs with
  | y :: ys => setC i (.own fr (.lst ys)) env (Q y)
  | [] => False
theorem de_pop0 {i : Nat} {ce : Expr} {te : TE} (hn : ∀ (σ : St) (H : Hp) (Q : V → Hp → Prop), Q (.int 0) H → te σ H Q) (p : PE X ce (tBM X.K "list" rPopAt (tVar i) (tCons te tNil))) : DE X B ce (qPop0 i) := by
  refine ⟨_, p, fun F H σ env Q Q' R ht l => ?_⟩
  obtain ⟨fr, xs, e0, ht⟩ := ownL_of ht
  cases xs with
  | nil => exact ht.elim
  | cons y ys =>
    obtain ⟨a, vs, s, h1, ra⟩ := own_read R e0
    cases ra with
    | @cons v _ vs _ rv rr =>
      refine ⟨_, s, .inl ⟨rfl, _, SqL.of h1⟩, hn _ _ _ ?_⟩
      refine ⟨a, v :: vs, 0, 0, v, rfl, rfl, h1, by decide, by decide, ?_, rfl, ?_⟩
      · unfold seqIndex?
        simp
      · exact l _ _ _ F _ (setC_of ht) (Same.refl _) (R.writeAt e0 s ⟨_, upd_same, rr⟩) rv
/-! ### a call of a def that is taken from a list -/
inductive Sel (X : Cx) (n : Nat) : List (Addr × FSpec) → Prop
  | nil : Sel X n []
  | cons {k : Nat} {f : Addr} {fd : FuncData} {ps : List Str} {spec : FSpec} {L : List (Addr × FSpec)} (G : FnOk X.prog X.w X.K X.mg X.base CX0 k f fd ps (spD X.K n spec)) (hr : Room k X.A) (hk : PySem.W.keepIn X.K (.ref f) = true) (hb : Binds X.K fd ps []) (r : Sel X n L) : Sel X n ((f, spec) :: L)
theorem Sel.get {n : Nat} : ∀ {L : List (Addr × FSpec)} {f : Addr} {spec : FSpec}, Sel X n L → (f, spec) ∈ L → ∃ k fd ps, FnOk X.prog X.w X.K X.mg X.base CX0 k f fd ps (spD X.K n spec) ∧ Room k X.A ∧ PySem.W.keepIn X.K (.ref f) = true ∧ Binds X.K fd ps []
  | _, _, _, .nil, m => by cases m
  | _, _, _, .cons G hr hk hb r, m => by
    rcases List.mem_cons.mp m with e | m
    · cases e; exact ⟨_, _, _, G, hr, hk, hb⟩
    · exact Sel.get r m
def tSel (K : PySem.W.Frag) (n : Nat) (L : List (Addr × FSpec)) (ta : TE) (t : TA) : TE := fun σ H Q => ta σ H fun x H1 => ∃ f sp, (f, sp) ∈ L ∧ x = .ref f ∧ t σ H1 fun vs H2 => spD K n sp (vs ++ []) H2 Q (fun _ _ _ => False)
theorem pe_callV {n : Nat} {L : List (Addr × FSpec)} {fe : Expr} {ta : TE} {t : TA} (hL : Sel X n L) (he : PE X fe ta) (ha : PA X (e :: es) t)
    (ht : eval (.Call fe (e :: es) [] pos) X.env = (do callWith pos (← eval fe X.env) [] (backTo pos (starEach (e :: es) X.env)) (backToKw pos (keywordEach [] X.env))) := by rfl)
    (hst : starEach (e :: es) X.env = (false, eval e X.env) :: starEach es X.env := by rfl) (hpl : (backTo pos (starEach es X.env)).any (·.1) = false := by rfl) :
    PE X (.Call fe (e :: es) [] pos) (tSel X.K n L ta t) := by
  refine ⟨fun pins s σ H Q I h => ?_⟩
  rw [ht]
  refine wpAny_bind (thn (he.run pins s σ H _ I h) fun u s1 ⟨x, H1, I1, rx, f, sp, hm, ex, q⟩ => ?_)
  subst ex
  obtain rfl : u = Value.ref f := rx
  obtain ⟨k, fd, ps, G, hr, hk, hb⟩ := hL.get hm
  refine PySem.W.callWith_K (h₀ := X.base) I1.ok.mod.kin hk (thn (ha.run pos pins s1 σ H1 _ I1 q) fun us s2 ⟨vs, H2, I2, r, q2⟩ => ⟨I2.kIn, ?_⟩) hst hpl
  exact run_fn G hr hb .nil pass0 I2 r q2
@[simp] def qCallV (L : List (Addr × FSpec)) (n : Nat) (tf : TD) (tr : TDR) : TD := fun env Q => tf env fun d env0 => ∃ f sp, (f, sp) ∈ L ∧ d = .atm (.ref f) ∧ tr env0 fun as env1 => match callOk n as with
  | true => sp (handIn env1 as) fun d cs => putC env1 as cs fun env2 => Q d env2
  | false => False
theorem de_callV {n : Nat} {L : List (Addr × FSpec)} {fe : Expr} {tf : TD} {tr : TDR} (hL : Sel X n L) (he : DE X B fe tf) (ha : DR X B (e :: es) tr)
    (ht : eval (.Call fe (e :: es) [] pos) X.env = (do callWith pos (← eval fe X.env) [] (backTo pos (starEach (e :: es) X.env)) (backToKw pos (keywordEach [] X.env))) := by rfl)
    (hst : starEach (e :: es) X.env = (false, eval e X.env) :: starEach es X.env := by rfl) (hpl : (backTo pos (starEach es X.env)).any (·.1) = false := by rfl) :
    DE X B (.Call fe (e :: es) [] pos) (qCallV L n tf tr) := by
  obtain ⟨tfe, p, hf⟩ := he.ex
  obtain ⟨te, q, h⟩ := ha.ex
  refine ⟨_, pe_callV hL p q ht hst hpl, fun F H σ env Q Q' R ht k => ?_⟩
  refine hf F H σ env _ _ R ht fun d env0 v F0 H0 q0 s0 R0 r0 => ?_
  obtain ⟨f, sp, hm, rfl, q0⟩ := q0
  cases r0
  refine ⟨f, sp, hm, rfl, ?_⟩
  refine h F0 H0 σ env0 _ _ R0 q0 fun as env1 vs F1 H1 q1 s1 R1 ra => ?_
  have q1 : callOk n as = true ∧ sp (handIn env1 as) fun d cs => putC env1 as cs fun env2 => Q d env2 := by
    split at q1
    · rename_i hc; exact ⟨hc, q1⟩
    · exact q1.elim
  obtain ⟨hc, hs⟩ := q1
  obtain ⟨hn, nd⟩ := callOk_ok hc
  rw [List.append_nil]
  refine ⟨F1, HandM σ env1 as, handIn env1 as, by rw [Paired.length ra, hn], R1.handed ra nd, _, hs, fun d cs v F' H' q s' R' r' => ?_⟩
  exact k d _ v F' H' (putC_of q) ((s0.trans s1).trans s') (take_put (cs := cs) nd ▸ R1.taken ra s' R') r'
end
end L2.DL

namespace Y
open PySem PySem.Spec PyProof.Rows L2 L2.DL
def topS (i : Nat) : Stmt := PySem.Challenge.pw_roomtables_k30_calls_of_programs.main.body.getD i (.Pass ⟨0, 0, 0, 0⟩)
abbrev s_is_whole : Stmt := topS 3
abbrev N_is_whole : List Str := ["thing"]
theorem sc_is_whole : FnScope N_is_whole ["thing"] (defScope s_is_whole) := ⟨rfl, rfl, rfl, by decide +kernel, rfl, by decide +kernel, by decide +kernel⟩
abbrev s_kind_of : Stmt := topS 4
abbrev N_kind_of : List Str := ["needs", "name", "own", "kind"]
theorem sc_kind_of : FnScope N_kind_of ["needs", "name"] (defScope s_kind_of) := ⟨rfl, rfl, rfl, by decide +kernel, rfl, by decide +kernel, by decide +kernel⟩
abbrev s_is_part : Stmt := topS 5
abbrev N_is_part : List Str := ["kind", "part", "needs", "many"]
theorem sc_is_part : FnScope N_is_part ["kind", "part", "needs", "many"] (defScope s_is_part) := ⟨rfl, rfl, rfl, by decide +kernel, rfl, by decide +kernel, by decide +kernel⟩
abbrev s_is_sum : Stmt := topS 6
abbrev N_is_sum : List Str := ["thing", "needs", "many", "form", "kind", "part"]
theorem sc_is_sum : FnScope N_is_sum ["thing", "needs", "many"] (defScope s_is_sum) := ⟨rfl, rfl, rfl, by decide +kernel, rfl, by decide +kernel, by decide +kernel⟩
abbrev s_is_cond : Stmt := topS 14
abbrev N_is_cond : List Str := ["thing", "needs", "many", "part"]
theorem sc_is_cond : FnScope N_is_cond ["thing", "needs", "many"] (defScope s_is_cond) := ⟨rfl, rfl, rfl, by decide +kernel, rfl, by decide +kernel, by decide +kernel⟩
abbrev s_calls_in : Stmt := topS 16
abbrev N_calls_in : List Str := ["body", "turns", "word", "inner", "found", "one"]
theorem sc_calls_in : FnScope N_calls_in ["body", "turns"] (defScope s_calls_in) := ⟨rfl, rfl, rfl, by decide +kernel, rfl, by decide +kernel, by decide +kernel⟩
abbrev s_calls_of : Stmt := topS 17
abbrev N_calls_of : List Str := ["program", "found", "f", "function", "n", "call"]
theorem sc_calls_of : FnScope N_calls_of ["program"] (defScope s_calls_of) := ⟨rfl, rfl, rfl, by decide +kernel, rfl, by decide +kernel, by decide +kernel⟩
abbrev s_is_name : Stmt := topS 30
abbrev N_is_name : List Str := ["thing", "sign"]
theorem sc_is_name : FnScope N_is_name ["thing"] (defScope s_is_name) := ⟨rfl, rfl, rfl, by decide +kernel, rfl, by decide +kernel, by decide +kernel⟩
abbrev s_are_needs : Stmt := topS 31
abbrev N_are_needs : List Str := ["thing", "one"]
theorem sc_are_needs : FnScope N_are_needs ["thing"] (defScope s_are_needs) := ⟨rfl, rfl, rfl, by decide +kernel, rfl, by decide +kernel, by decide +kernel⟩
abbrev s_is_most : Stmt := topS 32
abbrev N_is_most : List Str := ["thing", "needs"]
theorem sc_is_most : FnScope N_is_most ["thing", "needs"] (defScope s_is_most) := ⟨rfl, rfl, rfl, by decide +kernel, rfl, by decide +kernel, by decide +kernel⟩
abbrev s_are_sums : Stmt := topS 33
abbrev N_are_sums : List Str := ["thing", "many", "needs", "own", "one"]
theorem sc_are_sums : FnScope N_are_sums ["thing", "many", "needs", "own"] (defScope s_are_sums) := ⟨rfl, rfl, rfl, by decide +kernel, rfl, by decide +kernel, by decide +kernel⟩
abbrev s_is_call : Stmt := topS 34
abbrev N_is_call : List Str := ["thing", "house", "own", "needs", "counts"]
theorem sc_is_call : FnScope N_is_call ["thing", "house", "own"] (defScope s_is_call) := ⟨rfl, rfl, rfl, by decide +kernel, rfl, by decide +kernel, by decide +kernel⟩
abbrev s_is_choice : Stmt := topS 35
abbrev N_is_choice : List Str := ["thing", "house", "own", "turns", "one"]
theorem sc_is_choice : FnScope N_is_choice ["thing", "house", "own", "turns"] (defScope s_is_choice) := ⟨rfl, rfl, rfl, by decide +kernel, rfl, by decide +kernel, by decide +kernel⟩
abbrev s_is_turned : Stmt := topS 36
abbrev N_is_turned : List Str := ["thing", "house", "own", "turns"]
theorem sc_is_turned : FnScope N_is_turned ["thing", "house", "own", "turns"] (defScope s_is_turned) := ⟨rfl, rfl, rfl, by decide +kernel, rfl, by decide +kernel, by decide +kernel⟩
abbrev s_is_body : Stmt := topS 37
abbrev N_is_body : List Str := ["thing", "house", "own", "turns", "word", "one"]
theorem sc_is_body : FnScope N_is_body ["thing", "house", "own", "turns"] (defScope s_is_body) := ⟨rfl, rfl, rfl, by decide +kernel, rfl, by decide +kernel, by decide +kernel⟩
abbrev s_is_worded : Stmt := topS 38
abbrev N_is_worded : List Str := ["thing"]
theorem sc_is_worded : FnScope N_is_worded ["thing"] (defScope s_is_worded) := ⟨rfl, rfl, rfl, by decide +kernel, rfl, by decide +kernel, by decide +kernel⟩
abbrev s_count_parts : Stmt := topS 39
abbrev N_count_parts : List Str := ["thing", "one"]
theorem sc_count_parts : FnScope N_count_parts ["thing"] (defScope s_count_parts) := ⟨rfl, rfl, rfl, by decide +kernel, rfl, by decide +kernel, by decide +kernel⟩
abbrev s_deepness : Stmt := topS 40
abbrev N_deepness : List Str := ["thing", "one"]
theorem sc_deepness : FnScope N_deepness ["thing"] (defScope s_deepness) := ⟨rfl, rfl, rfl, by decide +kernel, rfl, by decide +kernel, by decide +kernel⟩
abbrev s_is_head : Stmt := topS 41
abbrev N_is_head : List Str := ["thing", "needs", "one"]
theorem sc_is_head : FnScope N_is_head ["thing", "needs"] (defScope s_is_head) := ⟨rfl, rfl, rfl, by decide +kernel, rfl, by decide +kernel, by decide +kernel⟩
abbrev s_are_functions : Stmt := topS 42
abbrev N_are_functions : List Str := ["thing", "needs", "house", "name", "mosts", "body", "one"]
theorem sc_are_functions : FnScope N_are_functions ["thing", "needs"] (defScope s_are_functions) := ⟨rfl, rfl, rfl, by decide +kernel, rfl, by decide +kernel, by decide +kernel⟩
abbrev s_program_of : Stmt := topS 43
abbrev N_program_of : List Str := ["needs", "functions"]
theorem sc_program_of : FnScope N_program_of ["needs", "functions"] (defScope s_program_of) := ⟨rfl, rfl, rfl, by decide +kernel, rfl, by decide +kernel, by decide +kernel⟩
abbrev s_is_tree : Stmt := topS 46
abbrev N_is_tree : List Str := ["thing", "k", "parent"]
theorem sc_is_tree : FnScope N_is_tree ["thing"] (defScope s_is_tree) := ⟨rfl, rfl, rfl, by decide +kernel, rfl, by decide +kernel, by decide +kernel⟩
abbrev s_is_of : Stmt := topS 47
abbrev N_is_of : List Str := ["kind", "thing", "sign", "one"]
theorem sc_is_of : FnScope N_is_of ["kind", "thing"] (defScope s_is_of) := ⟨rfl, rfl, rfl, by decide +kernel, rfl, by decide +kernel, by decide +kernel⟩
abbrev s_copied : Stmt := topS 48
abbrev N_copied : List Str := ["thing"]
theorem sc_copied : FnScope N_copied ["thing"] (defScope s_copied) := ⟨rfl, rfl, rfl, by decide +kernel, rfl, by decide +kernel, by decide +kernel⟩
abbrev s_given_of : Stmt := topS 49
abbrev N_given_of : List Str := ["program", "things", "needs", "name", "kind"]
theorem sc_given_of : FnScope N_given_of ["program", "things"] (defScope s_given_of) := ⟨rfl, rfl, rfl, by decide +kernel, rfl, by decide +kernel, by decide +kernel⟩
abbrev s_l_at : Stmt := topS 51
abbrev N_l_at : List Str := ["_law_script", "_law_k", "_law_cell", "_law_number"]
theorem sc_l_at : FnScope N_l_at ["_law_script", "_law_k"] (defScope s_l_at) := ⟨rfl, rfl, rfl, by decide +kernel, rfl, by decide +kernel, by decide +kernel⟩
abbrev s_l_pen : Stmt := topS 52
abbrev N_l_pen : List Str := ["_law_script", "_law_k", "_law_cell"]
theorem sc_l_pen : FnScope N_l_pen ["_law_script", "_law_k"] (defScope s_l_pen) := ⟨rfl, rfl, rfl, by decide +kernel, rfl, by decide +kernel, by decide +kernel⟩
abbrev s_l_take : Stmt := topS 53
abbrev N_l_take : List Str := ["_law_pen_here", "_law_size", "_law_found"]
theorem sc_l_take : FnScope N_l_take ["_law_pen_here", "_law_size"] (defScope s_l_take) := ⟨rfl, rfl, rfl, by decide +kernel, rfl, by decide +kernel, by decide +kernel⟩
abbrev s_l_names : Stmt := topS 54
abbrev N_l_names : List Str := ["_law_pen_here", "_law_many", "_law_letters", "_law_words", "_law_first", "_law_tail", "_law_k"]
theorem sc_l_names : FnScope N_l_names ["_law_pen_here", "_law_many"] (defScope s_l_names) := ⟨rfl, rfl, rfl, by decide +kernel, rfl, by decide +kernel, by decide +kernel⟩
abbrev s_l_things : Stmt := topS 55
abbrev N_l_things : List Str := ["_law_pen_here", "_law_names_here", "_law_letters", "_law_number", "_law_row", "_law_text", "_law_tree", "_law_k"]
theorem sc_l_things : FnScope N_l_things ["_law_pen_here", "_law_names_here"] (defScope s_l_things) := ⟨rfl, rfl, rfl, by decide +kernel, rfl, by decide +kernel, by decide +kernel⟩
abbrev s_l_less : Stmt := topS 56
abbrev N_l_less : List Str := ["_law_k", "_law_n"]
theorem sc_l_less : FnScope N_l_less ["_law_k", "_law_n"] (defScope s_l_less) := ⟨rfl, rfl, rfl, by decide +kernel, rfl, by decide +kernel, by decide +kernel⟩
abbrev s_l_counted : Stmt := topS 57
abbrev N_l_counted : List Str := ["_law_pen_here", "_law_names_here", "_law_things_here", "_law_ways", "_law_k", "_law_base", "_law_body", "_law_most", "_law_limit", "_law_one"]
theorem sc_l_counted : FnScope N_l_counted ["_law_pen_here", "_law_names_here", "_law_things_here"] (defScope s_l_counted) := ⟨rfl, rfl, rfl, by decide +kernel, rfl, by decide +kernel, by decide +kernel⟩
abbrev s_l_stretches : Stmt := topS 58
abbrev N_l_stretches : List Str := ["_law_pen_here", "_law_names_here", "_law_things_here", "_law_size", "_law_parts", "_law_inner", "_law_body", "_law_low", "_law_high", "_law_turn"]
theorem sc_l_stretches : FnScope N_l_stretches ["_law_pen_here", "_law_names_here", "_law_things_here"] (defScope s_l_stretches) := ⟨rfl, rfl, rfl, by decide +kernel, rfl, by decide +kernel, by decide +kernel⟩
abbrev s_l_sets : Stmt := topS 59
abbrev N_l_sets : List Str := ["_law_pen_here", "_law_names_here", "_law_things_here", "_law_one", "_law_inner", "_law_body", "_law_most", "_law_limit", "_law_high", "_law_size"]
theorem sc_l_sets : FnScope N_l_sets ["_law_pen_here", "_law_names_here", "_law_things_here"] (defScope s_l_sets) := ⟨rfl, rfl, rfl, by decide +kernel, rfl, by decide +kernel, by decide +kernel⟩
abbrev s_l_knots : Stmt := topS 60
abbrev N_l_knots : List Str := ["_law_pen_here", "_law_names_here", "_law_things_here", "_law_tree", "_law_high", "_law_word", "_law_inner", "_law_body"]
theorem sc_l_knots : FnScope N_l_knots ["_law_pen_here", "_law_names_here", "_law_things_here"] (defScope s_l_knots) := ⟨rfl, rfl, rfl, by decide +kernel, rfl, by decide +kernel, by decide +kernel⟩
abbrev s_l_two : Stmt := topS 61
abbrev N_l_two : List Str := ["_law_pen_here", "_law_names_here", "_law_things_here", "_law_limit", "_law_one", "_law_back", "_law_body"]
theorem sc_l_two : FnScope N_l_two ["_law_pen_here", "_law_names_here", "_law_things_here"] (defScope s_l_two) := ⟨rfl, rfl, rfl, by decide +kernel, rfl, by decide +kernel, by decide +kernel⟩
abbrev s_l_grid : Stmt := topS 62
abbrev N_l_grid : List Str := ["_law_pen_here", "_law_names_here", "_law_things_here", "_law_sizes", "_law_up", "_law_left", "_law_corner", "_law_some", "_law_cond", "_law_body"]
theorem sc_l_grid : FnScope N_l_grid ["_law_pen_here", "_law_names_here", "_law_things_here"] (defScope s_l_grid) := ⟨rfl, rfl, rfl, by decide +kernel, rfl, by decide +kernel, by decide +kernel⟩
abbrev s_l_upwards : Stmt := topS 63
abbrev N_l_upwards : List Str := ["_law_pen_here", "_law_names_here", "_law_things_here", "_law_more", "_law_body", "_law_most", "_law_limit"]
theorem sc_l_upwards : FnScope N_l_upwards ["_law_pen_here", "_law_names_here", "_law_things_here"] (defScope s_l_upwards) := ⟨rfl, rfl, rfl, by decide +kernel, rfl, by decide +kernel, by decide +kernel⟩
abbrev s_l_places : Stmt := topS 64
abbrev N_l_places : List Str := ["_law_pen_here", "_law_names_here", "_law_things_here", "_law_far", "_law_third", "_law_second", "_law_first", "_law_body", "_law_k", "_law_one"]
theorem sc_l_places : FnScope N_l_places ["_law_pen_here", "_law_names_here", "_law_things_here"] (defScope s_l_places) := ⟨rfl, rfl, rfl, by decide +kernel, rfl, by decide +kernel, by decide +kernel⟩
abbrev s_l_arg : Stmt := topS 65
abbrev N_l_arg : List Str := ["_law_pen_here", "_law_names_here", "_law_first", "_law_own", "_law_mine", "_law_other", "_law_small", "_law_some"]
theorem sc_l_arg : FnScope N_l_arg ["_law_pen_here", "_law_names_here", "_law_first", "_law_own"] (defScope s_l_arg) := ⟨rfl, rfl, rfl, by decide +kernel, rfl, by decide +kernel, by decide +kernel⟩
abbrev s_l_call : Stmt := topS 66
abbrev N_l_call : List Str := ["_law_pen_here", "_law_names_here", "_law_counts", "_law_first", "_law_own", "_law_g", "_law_k"]
theorem sc_l_call : FnScope N_l_call ["_law_pen_here", "_law_names_here", "_law_counts", "_law_first", "_law_own"] (defScope s_l_call) := ⟨rfl, rfl, rfl, by decide +kernel, rfl, by decide +kernel, by decide +kernel⟩
abbrev s_l_turned : Stmt := topS 67
abbrev N_l_turned : List Str := ["_law_pen_here", "_law_names_here", "_law_counts", "_law_first", "_law_own", "_law_low", "_law_high", "_law_inner"]
theorem sc_l_turned : FnScope N_l_turned ["_law_pen_here", "_law_names_here", "_law_counts", "_law_first", "_law_own"] (defScope s_l_turned) := ⟨rfl, rfl, rfl, by decide +kernel, rfl, by decide +kernel, by decide +kernel⟩
abbrev s_l_item : Stmt := topS 68
abbrev N_l_item : List Str := ["_law_pen_here", "_law_names_here", "_law_counts", "_law_first", "_law_k", "_law_way"]
theorem sc_l_item : FnScope N_l_item ["_law_pen_here", "_law_names_here", "_law_counts", "_law_first", "_law_k"] (defScope s_l_item) := ⟨rfl, rfl, rfl, by decide +kernel, rfl, by decide +kernel, by decide +kernel⟩
abbrev s_l_wild : Stmt := topS 69
abbrev N_l_wild : List Str := ["_law_pen_here", "_law_names_here", "_law_things_here", "_law_counts", "_law_found", "_law_first", "_law_limits", "_law_items", "_law_body", "_law_k", "_law_one", "_law_some", "_law_limit"]
theorem sc_l_wild : FnScope N_l_wild ["_law_pen_here", "_law_names_here", "_law_things_here"] (defScope s_l_wild) := ⟨rfl, rfl, rfl, by decide +kernel, rfl, by decide +kernel, by decide +kernel⟩
abbrev s_l_drawn : Stmt := topS 70
abbrev N_l_drawn : List Str := ["_law_pen_here", "_law_names_here", "_law_things_here", "_law_shapes", "_law_way"]
theorem sc_l_drawn : FnScope N_l_drawn ["_law_pen_here", "_law_names_here", "_law_things_here"] (defScope s_l_drawn) := ⟨rfl, rfl, rfl, by decide +kernel, rfl, by decide +kernel, by decide +kernel⟩
abbrev s_l_program : Stmt := topS 71
abbrev N_l_program : List Str := ["_law_pen_here", "_law_names_here", "_law_things_here", "_law_found", "_law_needs", "_law_program_here", "_law_k", "_law_one"]
theorem sc_l_program : FnScope N_l_program ["_law_pen_here"] (defScope s_l_program) := ⟨rfl, rfl, rfl, by decide +kernel, rfl, by decide +kernel, by decide +kernel⟩
abbrev s_l_called : Stmt := topS 72
abbrev N_l_called : List Str := ["_law_body", "_law_found", "_law_left", "_law_one"]
theorem sc_l_called : FnScope N_l_called ["_law_body"] (defScope s_l_called) := ⟨rfl, rfl, rfl, by decide +kernel, rfl, by decide +kernel, by decide +kernel⟩
abbrev s_l_is_list : Stmt := topS 73
abbrev N_l_is_list : List Str := ["_law_found", "_law_due", "_law_one", "_law_n"]
theorem sc_l_is_list : FnScope N_l_is_list ["_law_found", "_law_due"] (defScope s_l_is_list) := ⟨rfl, rfl, rfl, by decide +kernel, rfl, by decide +kernel, by decide +kernel⟩
abbrev s_law : Stmt := topS 74
abbrev N_law : List Str := ["_law_script", "_law_k", "_law_pen_here", "_law_due", "_law_found", "_law_program_here", "_law_given", "_law_limits", "_law_f", "_law_function", "_law_n", "_law_g"]
theorem sc_law : FnScope N_law ["_law_script"] (defScope s_law) := ⟨rfl, rfl, rfl, by decide +kernel, rfl, by decide +kernel, by decide +kernel⟩
abbrev y_KINDS : List (Str × D) := [("x", (.tup [(.str "number")])), ("z", (.tup [(.str "row"), (.str "text"), (.str "tree")])), ("l", (.tup [(.str "row"), (.str "text")])), ("t", (.tup [(.str "tree")]))]
abbrev n_KINDS : List Str := []
abbrev y_FORMS : List (Str × D) := [("num", (.str "n")), ("own", (.str "o")), ("need", (.str "x")), ("size", (.str "z")), ("at", (.str "ls")), ("kids", (.str "ts")), ("kid", (.str "tss")), ("full", (.str "s")), ("with", (.str "ss")), ("without", (.str "ss")), ("many", (.str "s")), ("plus", (.str "ss")), ("less", (.str "ss")), ("times", (.str "ss")), ("half", (.str "s")), ("rest", (.str "ss")), ("lesser", (.str "ss")), ("greater", (.str "ss"))]
abbrev n_FORMS : List Str := [""]
abbrev y_OF_CONDS : List (Str × D) := [("not", (.int 1)), ("and", (.int 2)), ("or", (.int 2))]
abbrev n_OF_CONDS : List Str := ["below", "same", "has"]
abbrev c_OF_SUMS : D := (.tup [(.str "below"), (.str "same"), (.str "has")])
abbrev c_WORDS : D := (.tup [(.str "num"), (.str "own"), (.str "need"), (.str "size"), (.str "at"), (.str "kids"), (.str "kid"), (.str "full"), (.str "with"), (.str "without"), (.str "many"), (.str "plus"), (.str "less"), (.str "times"), (.str "half"), (.str "rest"), (.str "lesser"), (.str "greater"), (.str "below"), (.str "same"), (.str "has"), (.str "not"), (.str "and"), (.str "or"), (.str "gain"), (.str "none"), (.str "call"), (.str "both"), (.str "choose"), (.str "each"), (.str "all"), (.str "if"), (.str "number"), (.str "row"), (.str "text"), (.str "tree")])
abbrev c_LETTERS : D := (.str "abcdefghijklmnopqrstuvwxyz")
abbrev c_MOST_NEEDS : D := (.int 6)
abbrev c_NEED_KINDS : D := (.tup [(.str "number"), (.str "row"), (.str "text"), (.str "tree")])
abbrev c_MOST_CHOICES : D := (.int 4)
abbrev c_MOST_TURNS : D := (.int 2)
abbrev c_MOST_PLACES : D := (.int 3)
abbrev c_MOST_MOST : D := (.int 12)
abbrev c_MOST_FUNCTIONS : D := (.int 4)
abbrev c_MOST_PARTS : D := (.int 60)
abbrev c_MOST_DEEP : D := (.int 12)
abbrev c_MOST_SIZE : D := (.int 12)
set_option maxHeartbeats 8000000 in
structure Txt (K : PySem.W.Frag) (w : World) (mg : Str → Option Value) where
  f_is_whole : Addr
  d_is_whole : FuncData
  F_is_whole : Fun K "is_whole" "is_whole" s_is_whole f_is_whole d_is_whole
  b_is_whole : Binds K d_is_whole ["thing"] []
  g_is_whole : mg "is_whole" = some (.ref f_is_whole)
  f_kind_of : Addr
  d_kind_of : FuncData
  F_kind_of : Fun K "kind_of" "kind_of" s_kind_of f_kind_of d_kind_of
  b_kind_of : Binds K d_kind_of ["needs", "name"] []
  g_kind_of : mg "kind_of" = some (.ref f_kind_of)
  f_is_part : Addr
  d_is_part : FuncData
  F_is_part : Fun K "is_part" "is_part" s_is_part f_is_part d_is_part
  b_is_part : Binds K d_is_part ["kind", "part", "needs", "many"] []
  g_is_part : mg "is_part" = some (.ref f_is_part)
  f_is_sum : Addr
  d_is_sum : FuncData
  F_is_sum : Fun K "is_sum" "is_sum" s_is_sum f_is_sum d_is_sum
  b_is_sum : Binds K d_is_sum ["thing", "needs", "many"] []
  g_is_sum : mg "is_sum" = some (.ref f_is_sum)
  f_is_cond : Addr
  d_is_cond : FuncData
  F_is_cond : Fun K "is_cond" "is_cond" s_is_cond f_is_cond d_is_cond
  b_is_cond : Binds K d_is_cond ["thing", "needs", "many"] []
  g_is_cond : mg "is_cond" = some (.ref f_is_cond)
  f_calls_in : Addr
  d_calls_in : FuncData
  F_calls_in : Fun K "calls_in" "calls_in" s_calls_in f_calls_in d_calls_in
  b_calls_in : Binds K d_calls_in ["body", "turns"] []
  g_calls_in : mg "calls_in" = some (.ref f_calls_in)
  f_calls_of : Addr
  d_calls_of : FuncData
  F_calls_of : Fun K "calls_of" "calls_of" s_calls_of f_calls_of d_calls_of
  b_calls_of : Binds K d_calls_of ["program"] []
  g_calls_of : mg "calls_of" = some (.ref f_calls_of)
  f_is_name : Addr
  d_is_name : FuncData
  F_is_name : Fun K "is_name" "is_name" s_is_name f_is_name d_is_name
  b_is_name : Binds K d_is_name ["thing"] []
  g_is_name : mg "is_name" = some (.ref f_is_name)
  f_are_needs : Addr
  d_are_needs : FuncData
  F_are_needs : Fun K "are_needs" "are_needs" s_are_needs f_are_needs d_are_needs
  b_are_needs : Binds K d_are_needs ["thing"] []
  g_are_needs : mg "are_needs" = some (.ref f_are_needs)
  f_is_most : Addr
  d_is_most : FuncData
  F_is_most : Fun K "is_most" "is_most" s_is_most f_is_most d_is_most
  b_is_most : Binds K d_is_most ["thing", "needs"] []
  g_is_most : mg "is_most" = some (.ref f_is_most)
  f_are_sums : Addr
  d_are_sums : FuncData
  F_are_sums : Fun K "are_sums" "are_sums" s_are_sums f_are_sums d_are_sums
  b_are_sums : Binds K d_are_sums ["thing", "many", "needs", "own"] []
  g_are_sums : mg "are_sums" = some (.ref f_are_sums)
  f_is_call : Addr
  d_is_call : FuncData
  F_is_call : Fun K "is_call" "is_call" s_is_call f_is_call d_is_call
  b_is_call : Binds K d_is_call ["thing", "house", "own"] []
  g_is_call : mg "is_call" = some (.ref f_is_call)
  f_is_choice : Addr
  d_is_choice : FuncData
  F_is_choice : Fun K "is_choice" "is_choice" s_is_choice f_is_choice d_is_choice
  b_is_choice : Binds K d_is_choice ["thing", "house", "own", "turns"] []
  g_is_choice : mg "is_choice" = some (.ref f_is_choice)
  f_is_turned : Addr
  d_is_turned : FuncData
  F_is_turned : Fun K "is_turned" "is_turned" s_is_turned f_is_turned d_is_turned
  b_is_turned : Binds K d_is_turned ["thing", "house", "own", "turns"] []
  g_is_turned : mg "is_turned" = some (.ref f_is_turned)
  f_is_body : Addr
  d_is_body : FuncData
  F_is_body : Fun K "is_body" "is_body" s_is_body f_is_body d_is_body
  b_is_body : Binds K d_is_body ["thing", "house", "own", "turns"] []
  g_is_body : mg "is_body" = some (.ref f_is_body)
  f_is_worded : Addr
  d_is_worded : FuncData
  F_is_worded : Fun K "is_worded" "is_worded" s_is_worded f_is_worded d_is_worded
  b_is_worded : Binds K d_is_worded ["thing"] []
  g_is_worded : mg "is_worded" = some (.ref f_is_worded)
  f_count_parts : Addr
  d_count_parts : FuncData
  F_count_parts : Fun K "count_parts" "count_parts" s_count_parts f_count_parts d_count_parts
  b_count_parts : Binds K d_count_parts ["thing"] []
  g_count_parts : mg "count_parts" = some (.ref f_count_parts)
  f_deepness : Addr
  d_deepness : FuncData
  F_deepness : Fun K "deepness" "deepness" s_deepness f_deepness d_deepness
  b_deepness : Binds K d_deepness ["thing"] []
  g_deepness : mg "deepness" = some (.ref f_deepness)
  f_is_head : Addr
  d_is_head : FuncData
  F_is_head : Fun K "is_head" "is_head" s_is_head f_is_head d_is_head
  b_is_head : Binds K d_is_head ["thing", "needs"] []
  g_is_head : mg "is_head" = some (.ref f_is_head)
  f_are_functions : Addr
  d_are_functions : FuncData
  F_are_functions : Fun K "are_functions" "are_functions" s_are_functions f_are_functions d_are_functions
  b_are_functions : Binds K d_are_functions ["thing", "needs"] []
  g_are_functions : mg "are_functions" = some (.ref f_are_functions)
  f_program_of : Addr
  d_program_of : FuncData
  F_program_of : Fun K "program_of" "program_of" s_program_of f_program_of d_program_of
  b_program_of : Binds K d_program_of ["needs", "functions"] []
  g_program_of : mg "program_of" = some (.ref f_program_of)
  f_is_tree : Addr
  d_is_tree : FuncData
  F_is_tree : Fun K "is_tree" "is_tree" s_is_tree f_is_tree d_is_tree
  b_is_tree : Binds K d_is_tree ["thing"] []
  g_is_tree : mg "is_tree" = some (.ref f_is_tree)
  f_is_of : Addr
  d_is_of : FuncData
  F_is_of : Fun K "is_of" "is_of" s_is_of f_is_of d_is_of
  b_is_of : Binds K d_is_of ["kind", "thing"] []
  g_is_of : mg "is_of" = some (.ref f_is_of)
  f_copied : Addr
  d_copied : FuncData
  F_copied : Fun K "copied" "copied" s_copied f_copied d_copied
  b_copied : Binds K d_copied ["thing"] []
  g_copied : mg "copied" = some (.ref f_copied)
  f_given_of : Addr
  d_given_of : FuncData
  F_given_of : Fun K "given_of" "given_of" s_given_of f_given_of d_given_of
  b_given_of : Binds K d_given_of ["program", "things"] []
  g_given_of : mg "given_of" = some (.ref f_given_of)
  f_l_at : Addr
  d_l_at : FuncData
  F_l_at : Fun K "_law_at" "_law_at" s_l_at f_l_at d_l_at
  b_l_at : Binds K d_l_at ["_law_script", "_law_k"] []
  g_l_at : mg "_law_at" = some (.ref f_l_at)
  f_l_pen : Addr
  d_l_pen : FuncData
  F_l_pen : Fun K "_law_pen" "_law_pen" s_l_pen f_l_pen d_l_pen
  b_l_pen : Binds K d_l_pen ["_law_script", "_law_k"] []
  g_l_pen : mg "_law_pen" = some (.ref f_l_pen)
  f_l_take : Addr
  d_l_take : FuncData
  F_l_take : Fun K "_law_take" "_law_take" s_l_take f_l_take d_l_take
  b_l_take : Binds K d_l_take ["_law_pen_here", "_law_size"] []
  g_l_take : mg "_law_take" = some (.ref f_l_take)
  f_l_names : Addr
  d_l_names : FuncData
  F_l_names : Fun K "_law_names" "_law_names" s_l_names f_l_names d_l_names
  b_l_names : Binds K d_l_names ["_law_pen_here", "_law_many"] []
  g_l_names : mg "_law_names" = some (.ref f_l_names)
  f_l_things : Addr
  d_l_things : FuncData
  F_l_things : Fun K "_law_things" "_law_things" s_l_things f_l_things d_l_things
  b_l_things : Binds K d_l_things ["_law_pen_here", "_law_names_here"] []
  g_l_things : mg "_law_things" = some (.ref f_l_things)
  f_l_less : Addr
  d_l_less : FuncData
  F_l_less : Fun K "_law_less" "_law_less" s_l_less f_l_less d_l_less
  b_l_less : Binds K d_l_less ["_law_k", "_law_n"] []
  g_l_less : mg "_law_less" = some (.ref f_l_less)
  f_l_counted : Addr
  d_l_counted : FuncData
  F_l_counted : Fun K "_law_counted" "_law_counted" s_l_counted f_l_counted d_l_counted
  b_l_counted : Binds K d_l_counted ["_law_pen_here", "_law_names_here", "_law_things_here"] []
  g_l_counted : mg "_law_counted" = some (.ref f_l_counted)
  f_l_stretches : Addr
  d_l_stretches : FuncData
  F_l_stretches : Fun K "_law_stretches" "_law_stretches" s_l_stretches f_l_stretches d_l_stretches
  b_l_stretches : Binds K d_l_stretches ["_law_pen_here", "_law_names_here", "_law_things_here"] []
  g_l_stretches : mg "_law_stretches" = some (.ref f_l_stretches)
  f_l_sets : Addr
  d_l_sets : FuncData
  F_l_sets : Fun K "_law_sets" "_law_sets" s_l_sets f_l_sets d_l_sets
  b_l_sets : Binds K d_l_sets ["_law_pen_here", "_law_names_here", "_law_things_here"] []
  g_l_sets : mg "_law_sets" = some (.ref f_l_sets)
  f_l_knots : Addr
  d_l_knots : FuncData
  F_l_knots : Fun K "_law_knots" "_law_knots" s_l_knots f_l_knots d_l_knots
  b_l_knots : Binds K d_l_knots ["_law_pen_here", "_law_names_here", "_law_things_here"] []
  g_l_knots : mg "_law_knots" = some (.ref f_l_knots)
  f_l_two : Addr
  d_l_two : FuncData
  F_l_two : Fun K "_law_two" "_law_two" s_l_two f_l_two d_l_two
  b_l_two : Binds K d_l_two ["_law_pen_here", "_law_names_here", "_law_things_here"] []
  g_l_two : mg "_law_two" = some (.ref f_l_two)
  f_l_grid : Addr
  d_l_grid : FuncData
  F_l_grid : Fun K "_law_grid" "_law_grid" s_l_grid f_l_grid d_l_grid
  b_l_grid : Binds K d_l_grid ["_law_pen_here", "_law_names_here", "_law_things_here"] []
  g_l_grid : mg "_law_grid" = some (.ref f_l_grid)
  f_l_upwards : Addr
  d_l_upwards : FuncData
  F_l_upwards : Fun K "_law_upwards" "_law_upwards" s_l_upwards f_l_upwards d_l_upwards
  b_l_upwards : Binds K d_l_upwards ["_law_pen_here", "_law_names_here", "_law_things_here"] []
  g_l_upwards : mg "_law_upwards" = some (.ref f_l_upwards)
  f_l_places : Addr
  d_l_places : FuncData
  F_l_places : Fun K "_law_places" "_law_places" s_l_places f_l_places d_l_places
  b_l_places : Binds K d_l_places ["_law_pen_here", "_law_names_here", "_law_things_here"] []
  g_l_places : mg "_law_places" = some (.ref f_l_places)
  f_l_arg : Addr
  d_l_arg : FuncData
  F_l_arg : Fun K "_law_arg" "_law_arg" s_l_arg f_l_arg d_l_arg
  b_l_arg : Binds K d_l_arg ["_law_pen_here", "_law_names_here", "_law_first", "_law_own"] []
  g_l_arg : mg "_law_arg" = some (.ref f_l_arg)
  f_l_call : Addr
  d_l_call : FuncData
  F_l_call : Fun K "_law_call" "_law_call" s_l_call f_l_call d_l_call
  b_l_call : Binds K d_l_call ["_law_pen_here", "_law_names_here", "_law_counts", "_law_first", "_law_own"] []
  g_l_call : mg "_law_call" = some (.ref f_l_call)
  f_l_turned : Addr
  d_l_turned : FuncData
  F_l_turned : Fun K "_law_turned" "_law_turned" s_l_turned f_l_turned d_l_turned
  b_l_turned : Binds K d_l_turned ["_law_pen_here", "_law_names_here", "_law_counts", "_law_first", "_law_own"] []
  g_l_turned : mg "_law_turned" = some (.ref f_l_turned)
  f_l_item : Addr
  d_l_item : FuncData
  F_l_item : Fun K "_law_item" "_law_item" s_l_item f_l_item d_l_item
  b_l_item : Binds K d_l_item ["_law_pen_here", "_law_names_here", "_law_counts", "_law_first", "_law_k"] []
  g_l_item : mg "_law_item" = some (.ref f_l_item)
  f_l_wild : Addr
  d_l_wild : FuncData
  F_l_wild : Fun K "_law_wild" "_law_wild" s_l_wild f_l_wild d_l_wild
  b_l_wild : Binds K d_l_wild ["_law_pen_here", "_law_names_here", "_law_things_here"] []
  g_l_wild : mg "_law_wild" = some (.ref f_l_wild)
  f_l_drawn : Addr
  d_l_drawn : FuncData
  F_l_drawn : Fun K "_law_drawn" "_law_drawn" s_l_drawn f_l_drawn d_l_drawn
  b_l_drawn : Binds K d_l_drawn ["_law_pen_here", "_law_names_here", "_law_things_here"] []
  g_l_drawn : mg "_law_drawn" = some (.ref f_l_drawn)
  f_l_program : Addr
  d_l_program : FuncData
  F_l_program : Fun K "_law_program" "_law_program" s_l_program f_l_program d_l_program
  b_l_program : Binds K d_l_program ["_law_pen_here"] []
  g_l_program : mg "_law_program" = some (.ref f_l_program)
  f_l_called : Addr
  d_l_called : FuncData
  F_l_called : Fun K "_law_called" "_law_called" s_l_called f_l_called d_l_called
  b_l_called : Binds K d_l_called ["_law_body"] []
  g_l_called : mg "_law_called" = some (.ref f_l_called)
  f_l_is_list : Addr
  d_l_is_list : FuncData
  F_l_is_list : Fun K "_law_is_list" "_law_is_list" s_l_is_list f_l_is_list d_l_is_list
  b_l_is_list : Binds K d_l_is_list ["_law_found", "_law_due"] []
  g_l_is_list : mg "_law_is_list" = some (.ref f_l_is_list)
  f_law : Addr
  d_law : FuncData
  F_law : Fun K "law" "law" s_law f_law d_law
  b_law : Binds K d_law ["_law_script"] []
  g_law : mg "law" = some (.ref f_law)
  m_OF_SUMS : GlobD K mg "OF_SUMS" c_OF_SUMS
  m_WORDS : GlobD K mg "WORDS" c_WORDS
  m_LETTERS : GlobD K mg "LETTERS" c_LETTERS
  m_MOST_NEEDS : GlobD K mg "MOST_NEEDS" c_MOST_NEEDS
  m_NEED_KINDS : GlobD K mg "NEED_KINDS" c_NEED_KINDS
  m_MOST_CHOICES : GlobD K mg "MOST_CHOICES" c_MOST_CHOICES
  m_MOST_TURNS : GlobD K mg "MOST_TURNS" c_MOST_TURNS
  m_MOST_PLACES : GlobD K mg "MOST_PLACES" c_MOST_PLACES
  m_MOST_MOST : GlobD K mg "MOST_MOST" c_MOST_MOST
  m_MOST_FUNCTIONS : GlobD K mg "MOST_FUNCTIONS" c_MOST_FUNCTIONS
  m_MOST_PARTS : GlobD K mg "MOST_PARTS" c_MOST_PARTS
  m_MOST_DEEP : GlobD K mg "MOST_DEEP" c_MOST_DEEP
  m_MOST_SIZE : GlobD K mg "MOST_SIZE" c_MOST_SIZE
  m_KINDS : KTabD K w mg "KINDS" y_KINDS n_KINDS
  m_FORMS : KTabD K w mg "FORMS" y_FORMS n_FORMS
  m_OF_CONDS : KTabD K w mg "OF_CONDS" y_OF_CONDS n_OF_CONDS
  z_isinstance : mg "isinstance" = none
  z_int : mg "int" = none
  z_bool : mg "bool" = none
  z_tuple : mg "tuple" = none
  z_len : mg "len" = none
  z_str : mg "str" = none
  z_all : mg "all" = none
  z_zip : mg "zip" = none
  z_list : mg "list" = none
  z_enumerate : mg "enumerate" = none
  z_set : mg "set" = none
  z_sum : mg "sum" = none
  z_max : mg "max" = none
  z_dict : mg "dict" = none
  z_range : mg "range" = none
section
variable {P : Program} {w : World} {K : PySem.W.Frag} {mg : Str → Option Value} {base : Heap}
abbrev K_is_whole (P : Program) (w : World) (base : Heap) (T : Txt K w mg) (k : Nat) (sp : FSpec) : Prop := FnOk P w K mg base CX0 k T.f_is_whole T.d_is_whole ["thing"] (spD K 1 sp)
def t_is_whole : TDS := sRet (qAndV (qCl (isiD .int) (qCons (qVar 0) (qCons (qC (.atm (.ty "int"))) qNil))) (qNotV (qCl (isiD .bool) (qCons (qVar 0) (qCons (qC (.atm (.ty "bool"))) qNil)))))
set_option maxHeartbeats 4000000 in
theorem d_is_whole (T : Txt K w mg) {k : Nat}  {cdv : Value} {A : Around} {outer : List Env} {s : Shared} {H : Hp} {E : XK} {B : Bd} (hr : Room k (A.deeper (envOfC "is_whole" (defScope s_is_whole) s.heap.objs.size T.f_is_whole cdv))) :
    DSs (cxOf CX0 P w K mg base N_is_whole "is_whole" (defScope s_is_whole) T.f_is_whole cdv A outer s H E).nox B (defBody s_is_whole) (t_is_whole) :=
  dss_one (ds_ret (de_and (de_callB (c_isi .int) (by rfl) T.z_isinstance (by decide +kernel) (da_cons (dv 0) (da_cons (de_bty (by rfl) T.z_int (by decide +kernel)) da_nil))) (de_one (de_not (de_callB (c_isi .bool) (by rfl) T.z_isinstance (by decide +kernel) (da_cons (dv 0) (da_cons (de_bty (by rfl) T.z_bool (by decide +kernel)) da_nil)))))))
def t_kind_of_1 : TDS := sIf (qTest (qOp eqZ (qVar 2) (qVar 1))) (sRet (qVar 3)) (sNext)
abbrev K_kind_of (P : Program) (w : World) (base : Heap) (T : Txt K w mg) (k : Nat) (sp : FSpec) : Prop := FnOk P w K mg base CX0 k T.f_kind_of T.d_kind_of ["needs", "name"] (spD K 2 sp)
def t_kind_of : TDS := sSeq (sFor (qIter (qVar 0)) (gTupD 2 (gConsD (gN 2) (gConsD (gN 3) (gNilD)))) (t_kind_of_1)) (sRet (qC (.str "")))
set_option maxHeartbeats 4000000 in
theorem d_kind_of (T : Txt K w mg) {k : Nat}  {cdv : Value} {A : Around} {outer : List Env} {s : Shared} {H : Hp} {E : XK} {B : Bd} (hr : Room k (A.deeper (envOfC "kind_of" (defScope s_kind_of) s.heap.objs.size T.f_kind_of cdv))) :
    DSs (cxOf CX0 P w K mg base N_kind_of "kind_of" (defScope s_kind_of) T.f_kind_of cdv A outer s H E).nox B (defBody s_kind_of) (t_kind_of) :=
  dss_cons (ds_for PassesOwn.never rfl (di_any (dv 0)) (dg_tup rfl (dgs_cons (dg_name (i := 2) sc_kind_of.nd) (dgs_cons (dg_name (i := 3) sc_kind_of.nd) (dgs_nil)))) (dss_one (ds_if (dt_cmp (o_eqZ hr.units) (dv 2) (dv 1) (nomark _)) (dss_one (ds_ret (dv 3))) (dss_nil)))) (dss_one (ds_ret (de_str)))
abbrev K_is_part (P : Program) (w : World) (base : Heap) (T : Txt K w mg) (k : Nat) (sp : FSpec) : Prop := FnOk P w K mg base CX0 k T.f_is_part T.d_is_part ["kind", "part", "needs", "many"] (spD K 4 sp)
def t_is_part (sp_is_sum : FSpec) (sp_is_whole : FSpec) (sp_kind_of : FSpec) : TDS := sSeq (sIf (qTest (qOp eqD (qVar 0) (qC (.str "s")))) (sRet (qCall sp_is_sum 3 (rCons (qVar 1) (rCons (qVar 2) (rCons (qVar 3) (rNil)))))) (sNext)) (sSeq (sIf (qTest (qOp eqD (qVar 0) (qC (.str "n")))) (sRet (qCall sp_is_whole 1 (rCons (qVar 1) (rNil)))) (sNext)) (sSeq (sIf (qTest (qOp eqD (qVar 0) (qC (.str "o")))) (sRet (qAndV (qCall sp_is_whole 1 (rCons (qVar 1) (rNil))) (qChain (i2 fun i j Q => Q (.bl (decide (i ≤ j)))) (i2 fun i j Q => Q (.bl (decide (i < j)))) (qC (.int 0)) (qVar 1) (qVar 3)))) (sNext)) (sRet (qOp inD (qCall sp_kind_of 2 (rCons (qVar 2) (rCons (qVar 1) (rNil)))) (qIxK y_KINDS (qVar 0))))))
set_option maxHeartbeats 4000000 in
theorem d_is_part (T : Txt K w mg) {k : Nat} {k_is_sum : Nat} {sp_is_sum : FSpec} (G_is_sum : FnOk P w K mg base CX0 k_is_sum T.f_is_sum T.d_is_sum ["thing", "needs", "many"] (spD K 3 sp_is_sum)) (h_is_sum : k_is_sum ≤ k) {k_is_whole : Nat} {sp_is_whole : FSpec} (G_is_whole : FnOk P w K mg base CX0 k_is_whole T.f_is_whole T.d_is_whole ["thing"] (spD K 1 sp_is_whole)) (h_is_whole : k_is_whole ≤ k) {k_kind_of : Nat} {sp_kind_of : FSpec} (G_kind_of : FnOk P w K mg base CX0 k_kind_of T.f_kind_of T.d_kind_of ["needs", "name"] (spD K 2 sp_kind_of)) (h_kind_of : k_kind_of ≤ k) {cdv : Value} {A : Around} {outer : List Env} {s : Shared} {H : Hp} {E : XK} {B : Bd} (hr : Room k (A.deeper (envOfC "is_part" (defScope s_is_part) s.heap.objs.size T.f_is_part cdv))) :
    DSs (cxOf CX0 P w K mg base N_is_part "is_part" (defScope s_is_part) T.f_is_part cdv A outer s H E).nox B (defBody s_is_part) (t_is_part sp_is_sum sp_is_whole sp_kind_of) :=
  dss_cons (ds_if (dt_cmp (o_eq hr.units) (dv 0) (de_str) (nomark _)) (dss_one (ds_ret (de_call G_is_sum (hr.mono (by omega)) (by rfl) T.g_is_sum T.F_is_sum.kp T.b_is_sum (dr_cons (dv 1) (dr_cons (dv 2) (dr_cons (dv 3) (dr_nil))))))) (dss_nil)) (dss_cons (ds_if (dt_cmp (o_eq hr.units) (dv 0) (de_str) (nomark _)) (dss_one (ds_ret (de_call G_is_whole (hr.mono (by omega)) (by rfl) T.g_is_whole T.F_is_whole.kp T.b_is_whole (dr_cons (dv 1) (dr_nil))))) (dss_nil)) (dss_cons (ds_if (dt_cmp (o_eq hr.units) (dv 0) (de_str) (nomark _)) (dss_one (ds_ret (de_and (de_call G_is_whole (hr.mono (by omega)) (by rfl) T.g_is_whole T.F_is_whole.kp T.b_is_whole (dr_cons (dv 1) (dr_nil))) (de_one (de_chain (o_le) (o_lt) (de_int) (dv 1) (dv 3)))))) (dss_nil)) (dss_one (ds_ret (de_cmp (o_in (hu_of hr)) (de_call G_kind_of (hr.mono (by omega)) (by rfl) T.g_kind_of T.F_kind_of.kp T.b_kind_of (dr_cons (dv 2) (dr_cons (dv 1) (dr_nil)))) (de_ixK (by rfl) T.m_KINDS (dv 0) (fun _ _ => rfl)) (by rfl))))))
def t_is_sum_1 (sp_is_part : FSpec) : TD := qCall sp_is_part 4 (rCons (qVar 4) (rCons (qVar 5) (rCons (qVar 1) (rCons (qVar 2) (rNil)))))
abbrev K_is_sum (P : Program) (w : World) (base : Heap) (T : Txt K w mg) (k : Nat) (sp : FSpec) : Prop := FnOk P w K mg base CX0 k T.f_is_sum T.d_is_sum ["thing", "needs", "many"] (spD K 3 sp)
def t_is_sum (sp_is_part : FSpec) : TDS := sSeq (sIf (qOr (qNot (qTest (qCl (isiD .tup) (qCons (qVar 0) (qCons (qC (.atm (.ty "tuple"))) qNil))))) (qOr (qTest (qOp eqD (qCl (n1 lenD) (qCons (qVar 0) (qNil))) (qC (.int 0)))) (qOr (qNot (qTest (qCl (isiD .str) (qCons (qOp ixD (qVar 0) (qC (.int 0))) (qCons (qC (.atm (.ty "str"))) qNil))))) (qTest (qNinK y_FORMS n_FORMS (qOp ixD (qVar 0) (qC (.int 0)))))))) (sRet (qC (.bl false))) (sNext)) (sSeq (sAsg (qIxK y_FORMS (qOp ixD (qVar 0) (qC (.int 0)))) (gN 3)) (sSeq (sIf (qTest (qOp neD (qCl (n1 lenD) (qCons (qVar 0) (qNil))) (qOp addD (qC (.int 1)) (qCl (n1 lenD) (qCons (qVar 3) (qNil)))))) (sRet (qC (.bl false))) (sNext)) (sRet (qCl onL_all (qCons (qFz (fComp (qZip (qCons (qVar 3) (qCons (qSl slD (qVar 0) (qPart (qC (.int 1))) (qNoPart)) (qNil)))) (gTupD 2 (gConsD (gN 4) (gConsD (gN 5) (gNilD)))) (qYes) ((t_is_sum_1 sp_is_part)) [4, 5])) (qNil))))))
set_option maxHeartbeats 4000000 in
theorem d_is_sum (T : Txt K w mg) {k : Nat} {k_is_part : Nat} {sp_is_part : FSpec} (G_is_part : FnOk P w K mg base CX0 k_is_part T.f_is_part T.d_is_part ["kind", "part", "needs", "many"] (spD K 4 sp_is_part)) (h_is_part : k_is_part ≤ k) {cdv : Value} {A : Around} {outer : List Env} {s : Shared} {H : Hp} {E : XK} {B : Bd} (hr : Room k (A.deeper (envOfC "is_sum" (defScope s_is_sum) s.heap.objs.size T.f_is_sum cdv))) :
    DSs (cxOf CX0 P w K mg base N_is_sum "is_sum" (defScope s_is_sum) T.f_is_sum cdv A outer s H E).nox B (defBody s_is_sum) (t_is_sum sp_is_part) :=
  dss_cons (ds_if (DW.dt (dw_or (dt_not (dt_val (de_callB (c_isi .tup) (by rfl) T.z_isinstance (by decide +kernel) (da_cons (dv 0) (da_cons (de_bty (by rfl) T.z_tuple (by decide +kernel)) da_nil))))) (dw_or (dt_cmp (o_eq hr.units) (de_callB (c_len) (by rfl) T.z_len (by decide +kernel) (da_cons (dv 0) (da_nil))) (de_int) (nomark _)) (dw_or (dt_not (dt_val (de_callB (c_isi .str) (by rfl) T.z_isinstance (by decide +kernel) (da_cons (de_ix (o_ix (hu_of hr)) (dv 0) (de_int)) (da_cons (de_bty (by rfl) T.z_str (by decide +kernel)) da_nil))))) (dw_or1 (dt_ninK (by rfl) T.m_FORMS (de_ix (o_ix (hu_of hr)) (dv 0) (de_int)))))))) (dss_one (ds_ret (de_bl))) (dss_nil)) (dss_cons (ds_set (i := 3) sc_is_sum.nd (de_ixK (by rfl) T.m_FORMS (de_ix (o_ix (hu_of hr)) (dv 0) (de_int)) (fun _ _ => rfl))) (dss_cons (ds_if (dt_cmp (o_ne hr.units) (de_callB (c_len) (by rfl) T.z_len (by decide +kernel) (da_cons (dv 0) (da_nil))) (de_op o_add (de_int) (de_callB (c_len) (by rfl) T.z_len (by decide +kernel) (da_cons (dv 3) (da_nil)))) (nomark _)) (dss_one (ds_ret (de_bl))) (dss_nil)) (dss_one (ds_ret (de_callB (c_all rfl) (by rfl) T.z_all (by decide +kernel) (da_cons (DF.de (df_comp (own := [("kind", 4), ("part", 5)]) rfl sc_is_sum.nd (di_zip (by rfl) T.z_zip (da_cons (dv 3) (da_cons (de_slice o_sl (dv 0) (do_some (de_int)) (do_none)) (da_nil)))) (blkOk_by (own := [("kind", 4), ("part", 5)]) (N := N_is_sum) (sc := defScope s_is_sum) (by decide +kernel)) (fun _ _ _ _ _ _ => dg_tup rfl (dgs_cons (dg_name (i := 4) sc_is_sum.nd) (dgs_cons (dg_name (i := 5) sc_is_sum.nd) (dgs_nil)))) (fun _ _ _ _ _ _ => dts_nil) (fun _ _ _ _ _ _ => de_call G_is_part (hr.mono (by omega)) (by rfl) T.g_is_part T.F_is_part.kp T.b_is_part (dr_cons (dv 4) (dr_cons (dv 5) (dr_cons (dv 1) (dr_cons (dv 2) (dr_nil)))))))) (da_nil)))))))
def t_is_cond_1 (sp_is_cond : FSpec) (sp_is_sum : FSpec) : TD := qCall sp_is_cond 3 (rCons (qVar 3) (rCons (qVar 1) (rCons (qVar 2) (rNil))))
def t_is_cond_2 (sp_is_cond : FSpec) (sp_is_sum : FSpec) : TD := qCall sp_is_sum 3 (rCons (qVar 3) (rCons (qVar 1) (rCons (qVar 2) (rNil))))
abbrev K_is_cond (P : Program) (w : World) (base : Heap) (T : Txt K w mg) (k : Nat) (sp : FSpec) : Prop := FnOk P w K mg base CX0 k T.f_is_cond T.d_is_cond ["thing", "needs", "many"] (spD K 3 sp)
def t_is_cond (sp_is_cond : FSpec) (sp_is_sum : FSpec) : TDS := sSeq (sIf (qOr (qNot (qTest (qCl (isiD .tup) (qCons (qVar 0) (qCons (qC (.atm (.ty "tuple"))) qNil))))) (qOr (qTest (qOp eqD (qCl (n1 lenD) (qCons (qVar 0) (qNil))) (qC (.int 0)))) (qNot (qTest (qCl (isiD .str) (qCons (qOp ixD (qVar 0) (qC (.int 0))) (qCons (qC (.atm (.ty "str"))) qNil))))))) (sRet (qC (.bl false))) (sNext)) (sSeq (sIf (qTest (qInK y_OF_CONDS n_OF_CONDS (qOp ixD (qVar 0) (qC (.int 0))))) (sRet (qAndV (qOp eqD (qCl (n1 lenD) (qCons (qVar 0) (qNil))) (qOp addD (qC (.int 1)) (qIxK y_OF_CONDS (qOp ixD (qVar 0) (qC (.int 0)))))) (qCl onL_all (qCons (qFz (fComp (qIter (qSl slD (qVar 0) (qPart (qC (.int 1))) (qNoPart))) (gN 3) (qYes) ((t_is_cond_1 sp_is_cond sp_is_sum)) [3])) (qNil))))) (sNext)) (sRet (qAndV (qOp inD (qOp ixD (qVar 0) (qC (.int 0))) (qC c_OF_SUMS)) (qAndV (qOp eqD (qCl (n1 lenD) (qCons (qVar 0) (qNil))) (qC (.int 3))) (qCl onL_all (qCons (qFz (fComp (qIter (qSl slD (qVar 0) (qPart (qC (.int 1))) (qNoPart))) (gN 3) (qYes) ((t_is_cond_2 sp_is_cond sp_is_sum)) [3])) (qNil)))))))
set_option maxHeartbeats 4000000 in
theorem d_is_cond (T : Txt K w mg) {k : Nat} {k_is_cond : Nat} {sp_is_cond : FSpec} (G_is_cond : FnOk P w K mg base CX0 k_is_cond T.f_is_cond T.d_is_cond ["thing", "needs", "many"] (spD K 3 sp_is_cond)) (h_is_cond : k_is_cond ≤ k) {k_is_sum : Nat} {sp_is_sum : FSpec} (G_is_sum : FnOk P w K mg base CX0 k_is_sum T.f_is_sum T.d_is_sum ["thing", "needs", "many"] (spD K 3 sp_is_sum)) (h_is_sum : k_is_sum ≤ k) {cdv : Value} {A : Around} {outer : List Env} {s : Shared} {H : Hp} {E : XK} {B : Bd} (hr : Room k (A.deeper (envOfC "is_cond" (defScope s_is_cond) s.heap.objs.size T.f_is_cond cdv))) :
    DSs (cxOf CX0 P w K mg base N_is_cond "is_cond" (defScope s_is_cond) T.f_is_cond cdv A outer s H E).nox B (defBody s_is_cond) (t_is_cond sp_is_cond sp_is_sum) :=
  dss_cons (ds_if (DW.dt (dw_or (dt_not (dt_val (de_callB (c_isi .tup) (by rfl) T.z_isinstance (by decide +kernel) (da_cons (dv 0) (da_cons (de_bty (by rfl) T.z_tuple (by decide +kernel)) da_nil))))) (dw_or (dt_cmp (o_eq hr.units) (de_callB (c_len) (by rfl) T.z_len (by decide +kernel) (da_cons (dv 0) (da_nil))) (de_int) (nomark _)) (dw_or1 (dt_not (dt_val (de_callB (c_isi .str) (by rfl) T.z_isinstance (by decide +kernel) (da_cons (de_ix (o_ix (hu_of hr)) (dv 0) (de_int)) (da_cons (de_bty (by rfl) T.z_str (by decide +kernel)) da_nil))))))))) (dss_one (ds_ret (de_bl))) (dss_nil)) (dss_cons (ds_if (dt_inK (by rfl) T.m_OF_CONDS (de_ix (o_ix (hu_of hr)) (dv 0) (de_int))) (dss_one (ds_ret (de_and (de_cmp (o_eq hr.units) (de_callB (c_len) (by rfl) T.z_len (by decide +kernel) (da_cons (dv 0) (da_nil))) (de_op o_add (de_int) (de_ixK (by rfl) T.m_OF_CONDS (de_ix (o_ix (hu_of hr)) (dv 0) (de_int)) (fun _ _ => rfl))) (nomark _)) (de_one (de_callB (c_all rfl) (by rfl) T.z_all (by decide +kernel) (da_cons (DF.de (df_comp (own := [("part", 3)]) rfl sc_is_cond.nd (di_any (de_slice o_sl (dv 0) (do_some (de_int)) (do_none))) (blkOk_by (own := [("part", 3)]) (N := N_is_cond) (sc := defScope s_is_cond) (by decide +kernel)) (fun _ _ _ _ _ _ => dg_name (i := 3) sc_is_cond.nd) (fun _ _ _ _ _ _ => dts_nil) (fun _ _ _ _ _ _ => de_call G_is_cond (hr.mono (by omega)) (by rfl) T.g_is_cond T.F_is_cond.kp T.b_is_cond (dr_cons (dv 3) (dr_cons (dv 1) (dr_cons (dv 2) (dr_nil))))))) (da_nil))))))) (dss_nil)) (dss_one (ds_ret (de_and (de_cmp (o_in (hu_of hr)) (de_ix (o_ix (hu_of hr)) (dv 0) (de_int)) (de_const (by rfl) T.m_OF_SUMS) (by rfl)) (de_and (de_cmp (o_eq hr.units) (de_callB (c_len) (by rfl) T.z_len (by decide +kernel) (da_cons (dv 0) (da_nil))) (de_int) (nomark _)) (de_one (de_callB (c_all rfl) (by rfl) T.z_all (by decide +kernel) (da_cons (DF.de (df_comp (own := [("part", 3)]) rfl sc_is_cond.nd (di_any (de_slice o_sl (dv 0) (do_some (de_int)) (do_none))) (blkOk_by (own := [("part", 3)]) (N := N_is_cond) (sc := defScope s_is_cond) (by decide +kernel)) (fun _ _ _ _ _ _ => dg_name (i := 3) sc_is_cond.nd) (fun _ _ _ _ _ _ => dts_nil) (fun _ _ _ _ _ _ => de_call G_is_sum (hr.mono (by omega)) (by rfl) T.g_is_sum T.F_is_sum.kp T.b_is_sum (dr_cons (dv 3) (dr_cons (dv 1) (dr_cons (dv 2) (dr_nil))))))) (da_nil)))))))))
def t_calls_in_1 (sp_calls_in : FSpec) : TDS := sExt 4 (qCall sp_calls_in 2 (rCons (qVar 5) (rCons (qVar 1) (rNil))))
abbrev K_calls_in (P : Program) (w : World) (base : Heap) (T : Txt K w mg) (k : Nat) (sp : FSpec) : Prop := FnOk P w K mg base CX0 k T.f_calls_in T.d_calls_in ["body", "turns"] (spD K 2 sp)
def t_calls_in (sp_calls_in : FSpec) : TDS := sSeq (sAsg (qOp ixD (qVar 0) (qC (.int 0))) (gN 2)) (sSeq (sIf (qTest (qOp eqD (qVar 2) (qC (.str "call")))) (sRet (qLst (qCons (qTup (qCons (qOp ixD (qVar 0) (qC (.int 1))) (qCons (qOp ixD (qVar 0) (qC (.int 2))) (qCons (qVar 1) (qNil))))) (qNil)))) (sNext)) (sSeq (sIf (qTest (qOp inD (qVar 2) (qTup (qCons (qC (.str "each")) (qCons (qC (.str "all")) (qNil)))))) (sRet (qCall sp_calls_in 2 (rCons (qOp ixD (qVar 0) (qC (.int 3))) (rCons (qOp addD (qVar 1) (qLst (qCons (qTup (qCons (qOp ixD (qVar 0) (qC (.int 1))) (qCons (qOp ixD (qVar 0) (qC (.int 2))) (qNil)))) (qNil)))) (rNil))))) (sNext)) (sSeq (sAsg (qLst (qNil)) (gN 3)) (sSeq (sIf (qTest (qOp eqD (qVar 2) (qC (.str "choose")))) (sAsg (qCl (n1 listD) (qCons (qOp ixD (qVar 0) (qC (.int 1))) (qNil))) (gN 3)) (sNext)) (sSeq (sIf (qTest (qOp eqD (qVar 2) (qC (.str "both")))) (sAsg (qLst (qCons (qOp ixD (qVar 0) (qC (.int 1))) (qCons (qOp ixD (qVar 0) (qC (.int 2))) (qNil)))) (gN 3)) (sNext)) (sSeq (sIf (qTest (qOp eqD (qVar 2) (qC (.str "if")))) (sAsg (qLst (qCons (qOp ixD (qVar 0) (qC (.int 2))) (qCons (qOp ixD (qVar 0) (qC (.int 3))) (qNil)))) (gN 3)) (sNext)) (sSeq (sOwn 4 (fLst (qNil))) (sSeq (sFor (qIter (qVar 3)) (gN 5) ((t_calls_in_1 sp_calls_in))) (sFz 4 (sRet (qVar 4)))))))))))
set_option maxHeartbeats 4000000 in
theorem d_calls_in (T : Txt K w mg) {k : Nat} {k_calls_in : Nat} {sp_calls_in : FSpec} (G_calls_in : FnOk P w K mg base CX0 k_calls_in T.f_calls_in T.d_calls_in ["body", "turns"] (spD K 2 sp_calls_in)) (h_calls_in : k_calls_in ≤ k) {cdv : Value} {A : Around} {outer : List Env} {s : Shared} {H : Hp} {E : XK} {B : Bd} (hr : Room k (A.deeper (envOfC "calls_in" (defScope s_calls_in) s.heap.objs.size T.f_calls_in cdv))) :
    DSs (cxOf CX0 P w K mg base N_calls_in "calls_in" (defScope s_calls_in) T.f_calls_in cdv A outer s H E).nox B (defBody s_calls_in) (t_calls_in sp_calls_in) :=
  dss_cons (ds_set (i := 2) sc_calls_in.nd (de_ix (o_ix (hu_of hr)) (dv 0) (de_int))) (dss_cons (ds_if (dt_cmp (o_eq hr.units) (dv 2) (de_str) (nomark _)) (dss_one (ds_ret (de_lst (da_cons (de_tup (da_cons (de_ix (o_ix (hu_of hr)) (dv 0) (de_int)) (da_cons (de_ix (o_ix (hu_of hr)) (dv 0) (de_int)) (da_cons (dv 1) (da_nil))))) (da_nil))))) (dss_nil)) (dss_cons (ds_if (dt_cmp (o_in (hu_of hr)) (dv 2) (de_tup (da_cons (de_str) (da_cons (de_str) (da_nil)))) (by rfl)) (dss_one (ds_ret (de_call G_calls_in (hr.mono (by omega)) (by rfl) T.g_calls_in T.F_calls_in.kp T.b_calls_in (dr_cons (de_ix (o_ix (hu_of hr)) (dv 0) (de_int)) (dr_cons (de_op o_add (dv 1) (de_lst (da_cons (de_tup (da_cons (de_ix (o_ix (hu_of hr)) (dv 0) (de_int)) (da_cons (de_ix (o_ix (hu_of hr)) (dv 0) (de_int)) (da_nil)))) (da_nil)))) (dr_nil)))))) (dss_nil)) (dss_cons (ds_set (i := 3) sc_calls_in.nd (de_lst (da_nil))) (dss_cons (ds_if (dt_cmp (o_eq hr.units) (dv 2) (de_str) (nomark _)) (dss_one (ds_set (i := 3) sc_calls_in.nd (de_callTy (c_list) (by rfl) T.z_list (by decide +kernel) (da_cons (de_ix (o_ix (hu_of hr)) (dv 0) (de_int)) (da_nil))))) (dss_nil)) (dss_cons (ds_if (dt_cmp (o_eq hr.units) (dv 2) (de_str) (nomark _)) (dss_one (ds_set (i := 3) sc_calls_in.nd (de_lst (da_cons (de_ix (o_ix (hu_of hr)) (dv 0) (de_int)) (da_cons (de_ix (o_ix (hu_of hr)) (dv 0) (de_int)) (da_nil)))))) (dss_nil)) (dss_cons (ds_if (dt_cmp (o_eq hr.units) (dv 2) (de_str) (nomark _)) (dss_one (ds_set (i := 3) sc_calls_in.nd (de_lst (da_cons (de_ix (o_ix (hu_of hr)) (dv 0) (de_int)) (da_cons (de_ix (o_ix (hu_of hr)) (dv 0) (de_int)) (da_nil)))))) (dss_nil)) (dss_cons (ds_own (i := 4) sc_calls_in.nd (df_lst (da_nil))) (dss_cons (ds_for PassesOwn.never rfl (di_any (dv 3)) (dg_name (i := 5) sc_calls_in.nd) (dss_one (ds_extend (i := 4) (pe_bm PySem.F.plainAttrs_list PySem.F.slot_list_extend PySem.F.type_list_extend mt_extend (pv 4) (pa_cons (DE.pe (de_call G_calls_in (hr.mono (by omega)) (by rfl) T.g_calls_in T.F_calls_in.kp T.b_calls_in (dr_cons (dv 5) (dr_cons (dv 1) (dr_nil))))) pa_nil))))) (dss_fz 4 (dss_one (ds_ret (dv 4))))))))))))
def t_calls_of_1 (sp_calls_in : FSpec) : TD := qTup (qCons (qVar 2) (qCons (qVar 4) (qCons (qOp ixD (qVar 5) (qC (.int 0))) (qNil))))
def t_calls_of_2 (sp_calls_in : FSpec) : TDS := sExt 1 (qFz (fComp (qEnum (qCons (qCall sp_calls_in 2 (rCons (qOp ixD (qVar 3) (qC (.int 2))) (rCons (qLst (qNil)) (rNil)))) (qNil))) (gTupD 2 (gConsD (gN 4) (gConsD (gN 5) (gNilD)))) (qYes) ((t_calls_of_1 sp_calls_in)) [4, 5]))
abbrev K_calls_of (P : Program) (w : World) (base : Heap) (T : Txt K w mg) (k : Nat) (sp : FSpecO) : Prop := FnOk P w K mg base CX0 k T.f_calls_of T.d_calls_of ["program"] (spO K 1 sp)
def t_calls_of (sp_calls_in : FSpec) : TDS := sSeq (sOwn 1 (fLst (qNil))) (sSeq (sFor (qEnum (qCons (qOp ixD (qVar 0) (qC (.int 1))) (qNil))) (gTupD 2 (gConsD (gN 2) (gConsD (gN 3) (gNilD)))) ((t_calls_of_2 sp_calls_in))) (sRetN1 1))
set_option maxHeartbeats 4000000 in
theorem d_calls_of (T : Txt K w mg) {k : Nat} {k_calls_in : Nat} {sp_calls_in : FSpec} (G_calls_in : FnOk P w K mg base CX0 k_calls_in T.f_calls_in T.d_calls_in ["body", "turns"] (spD K 2 sp_calls_in)) (h_calls_in : k_calls_in ≤ k) {cdv : Value} {A : Around} {outer : List Env} {s : Shared} {H : Hp} {E : XK} {B : Bd} (hr : Room k (A.deeper (envOfC "calls_of" (defScope s_calls_of) s.heap.objs.size T.f_calls_of cdv))) :
    DSs (cxOf CX0 P w K mg base N_calls_of "calls_of" (defScope s_calls_of) T.f_calls_of cdv A outer s H E).nox B (defBody s_calls_of) (t_calls_of sp_calls_in) :=
  dss_cons (ds_own (i := 1) sc_calls_of.nd (df_lst (da_nil))) (dss_cons (ds_for PassesOwn.never rfl (di_enum (by rfl) T.z_enumerate (da_cons (de_ix (o_ix (hu_of hr)) (dv 0) (de_int)) (da_nil))) (dg_tup rfl (dgs_cons (dg_name (i := 2) sc_calls_of.nd) (dgs_cons (dg_name (i := 3) sc_calls_of.nd) (dgs_nil)))) (dss_one (ds_extend (i := 1) (pe_bm PySem.F.plainAttrs_list PySem.F.slot_list_extend PySem.F.type_list_extend mt_extend (pv 1) (pa_cons (DE.pe (DF.de (df_comp (own := [("n", 4), ("call", 5)]) rfl sc_calls_of.nd (di_enum (by rfl) T.z_enumerate (da_cons (de_call G_calls_in (hr.mono (by omega)) (by rfl) T.g_calls_in T.F_calls_in.kp T.b_calls_in (dr_cons (de_ix (o_ix (hu_of hr)) (dv 3) (de_int)) (dr_cons (de_lst (da_nil)) (dr_nil)))) (da_nil))) (blkOk_by (own := [("n", 4), ("call", 5)]) (N := N_calls_of) (sc := defScope s_calls_of) (by decide +kernel)) (fun _ _ _ _ _ _ => dg_tup rfl (dgs_cons (dg_name (i := 4) sc_calls_of.nd) (dgs_cons (dg_name (i := 5) sc_calls_of.nd) (dgs_nil)))) (fun _ _ _ _ _ _ => dts_nil) (fun _ _ _ _ _ _ => de_tup (da_cons (dv 2) (da_cons (dv 4) (da_cons (de_ix (o_ix (hu_of hr)) (dv 5) (de_int)) (da_nil)))))))) pa_nil))))) (dss_one (ds_retN1 (i := 1) (pv 1))))
def t_is_name_1 : TD := qOp inD (qVar 1) (qC c_LETTERS)
abbrev K_is_name (P : Program) (w : World) (base : Heap) (T : Txt K w mg) (k : Nat) (sp : FSpec) : Prop := FnOk P w K mg base CX0 k T.f_is_name T.d_is_name ["thing"] (spD K 1 sp)
def t_is_name : TDS := sSeq (sIf (qOr (qNot (qTest (qCl (isiD .str) (qCons (qVar 0) (qCons (qC (.atm (.ty "str"))) qNil))))) (qOr (qNot (qTest (qChain (i2 fun i j Q => Q (.bl (decide (i ≤ j)))) (i2 fun i j Q => Q (.bl (decide (i ≤ j)))) (qC (.int 2)) (qCl (n1 lenD) (qCons (qVar 0) (qNil))) (qC (.int 8))))) (qTest (qOp inD (qVar 0) (qC c_WORDS))))) (sRet (qC (.bl false))) (sNext)) (sRet (qCl onL_all (qCons (qFz (fComp (qIter (qVar 0)) (gN 1) (qYes) (t_is_name_1) [1])) (qNil))))
set_option maxHeartbeats 4000000 in
theorem d_is_name (T : Txt K w mg) {k : Nat}  {cdv : Value} {A : Around} {outer : List Env} {s : Shared} {H : Hp} {E : XK} {B : Bd} (hr : Room k (A.deeper (envOfC "is_name" (defScope s_is_name) s.heap.objs.size T.f_is_name cdv))) :
    DSs (cxOf CX0 P w K mg base N_is_name "is_name" (defScope s_is_name) T.f_is_name cdv A outer s H E).nox B (defBody s_is_name) (t_is_name) :=
  dss_cons (ds_if (DW.dt (dw_or (dt_not (dt_val (de_callB (c_isi .str) (by rfl) T.z_isinstance (by decide +kernel) (da_cons (dv 0) (da_cons (de_bty (by rfl) T.z_str (by decide +kernel)) da_nil))))) (dw_or (dt_not (dt_chain (o_le) (o_le) (de_int) (de_callB (c_len) (by rfl) T.z_len (by decide +kernel) (da_cons (dv 0) (da_nil))) (de_int))) (dw_or1 (dt_cmp (o_in (hu_of hr)) (dv 0) (de_const (by rfl) T.m_WORDS) (by rfl)))))) (dss_one (ds_ret (de_bl))) (dss_nil)) (dss_one (ds_ret (de_callB (c_all rfl) (by rfl) T.z_all (by decide +kernel) (da_cons (DF.de (df_comp (own := [("sign", 1)]) rfl sc_is_name.nd (di_any (dv 0)) (blkOk_by (own := [("sign", 1)]) (N := N_is_name) (sc := defScope s_is_name) (by decide +kernel)) (fun _ _ _ _ _ _ => dg_name (i := 1) sc_is_name.nd) (fun _ _ _ _ _ _ => dts_nil) (fun _ _ _ _ _ _ => de_cmp (o_in (hu_of hr)) (dv 1) (de_const (by rfl) T.m_LETTERS) (by rfl)))) (da_nil)))))
def t_are_needs_1 (sp_is_name : FSpec) : TDS := sSeq (sIf (qOr (qNot (qTest (qCl (isiD .tup) (qCons (qVar 1) (qCons (qC (.atm (.ty "tuple"))) qNil))))) (qOr (qTest (qOp neD (qCl (n1 lenD) (qCons (qVar 1) (qNil))) (qC (.int 2)))) (qOr (qNot (qTest (qCall sp_is_name 1 (rCons (qOp ixD (qVar 1) (qC (.int 0))) (rNil))))) (qNot (qTest (qCl (isiD .str) (qCons (qOp ixD (qVar 1) (qC (.int 1))) (qCons (qC (.atm (.ty "str"))) qNil)))))))) (sRet (qC (.bl false))) (sNext)) (sIf (qTest (qOp ninD (qOp ixD (qVar 1) (qC (.int 1))) (qC c_NEED_KINDS))) (sRet (qC (.bl false))) (sNext))
def t_are_needs_2 (sp_is_name : FSpec) : TD := qOp ixD (qVar 1) (qC (.int 0))
abbrev K_are_needs (P : Program) (w : World) (base : Heap) (T : Txt K w mg) (k : Nat) (sp : FSpec) : Prop := FnOk P w K mg base CX0 k T.f_are_needs T.d_are_needs ["thing"] (spD K 1 sp)
def t_are_needs (sp_is_name : FSpec) : TDS := sSeq (sIf (qOr (qNot (qTest (qCl (isiD .tup) (qCons (qVar 0) (qCons (qC (.atm (.ty "tuple"))) qNil))))) (qTest (qOp (i2 fun i j Q => Q (.bl (decide (j < i)))) (qCl (n1 lenD) (qCons (qVar 0) (qNil))) (qC c_MOST_NEEDS)))) (sRet (qC (.bl false))) (sNext)) (sSeq (sFor (qIter (qVar 0)) (gN 1) ((t_are_needs_1 sp_is_name))) (sRet (qOp eqD (qLenSet (qFz (fComp (qIter (qVar 0)) (gN 1) (qYes) ((t_are_needs_2 sp_is_name)) [1]))) (qCl (n1 lenD) (qCons (qVar 0) (qNil))))))
set_option maxHeartbeats 4000000 in
theorem d_are_needs (T : Txt K w mg) {k : Nat} {k_is_name : Nat} {sp_is_name : FSpec} (G_is_name : FnOk P w K mg base CX0 k_is_name T.f_is_name T.d_is_name ["thing"] (spD K 1 sp_is_name)) (h_is_name : k_is_name ≤ k) {cdv : Value} {A : Around} {outer : List Env} {s : Shared} {H : Hp} {E : XK} {B : Bd} (hr : Room k (A.deeper (envOfC "are_needs" (defScope s_are_needs) s.heap.objs.size T.f_are_needs cdv))) :
    DSs (cxOf CX0 P w K mg base N_are_needs "are_needs" (defScope s_are_needs) T.f_are_needs cdv A outer s H E).nox B (defBody s_are_needs) (t_are_needs sp_is_name) :=
  dss_cons (ds_if (DW.dt (dw_or (dt_not (dt_val (de_callB (c_isi .tup) (by rfl) T.z_isinstance (by decide +kernel) (da_cons (dv 0) (da_cons (de_bty (by rfl) T.z_tuple (by decide +kernel)) da_nil))))) (dw_or1 (dt_cmp (o_gt) (de_callB (c_len) (by rfl) T.z_len (by decide +kernel) (da_cons (dv 0) (da_nil))) (de_const (by rfl) T.m_MOST_NEEDS) (nomark _))))) (dss_one (ds_ret (de_bl))) (dss_nil)) (dss_cons (ds_for PassesOwn.never rfl (di_any (dv 0)) (dg_name (i := 1) sc_are_needs.nd) (dss_cons (ds_if (DW.dt (dw_or (dt_not (dt_val (de_callB (c_isi .tup) (by rfl) T.z_isinstance (by decide +kernel) (da_cons (dv 1) (da_cons (de_bty (by rfl) T.z_tuple (by decide +kernel)) da_nil))))) (dw_or (dt_cmp (o_ne hr.units) (de_callB (c_len) (by rfl) T.z_len (by decide +kernel) (da_cons (dv 1) (da_nil))) (de_int) (nomark _)) (dw_or (dt_not (dt_val (de_call G_is_name (hr.mono (by omega)) (by rfl) T.g_is_name T.F_is_name.kp T.b_is_name (dr_cons (de_ix (o_ix (hu_of hr)) (dv 1) (de_int)) (dr_nil))))) (dw_or1 (dt_not (dt_val (de_callB (c_isi .str) (by rfl) T.z_isinstance (by decide +kernel) (da_cons (de_ix (o_ix (hu_of hr)) (dv 1) (de_int)) (da_cons (de_bty (by rfl) T.z_str (by decide +kernel)) da_nil)))))))))) (dss_one (ds_ret (de_bl))) (dss_nil)) (dss_one (ds_if (dt_cmp (o_nin (hu_of hr)) (de_ix (o_ix (hu_of hr)) (dv 1) (de_int)) (de_const (by rfl) T.m_NEED_KINDS) (by rfl)) (dss_one (ds_ret (de_bl))) (dss_nil))))) (dss_one (ds_ret (de_cmp (o_eq hr.units) (de_lenSet rfl (by rfl) T.z_len (by rfl) T.z_set (DF.de (df_comp (own := [("one", 1)]) rfl sc_are_needs.nd (di_any (dv 0)) (blkOk_by (own := [("one", 1)]) (N := N_are_needs) (sc := defScope s_are_needs) (by decide +kernel)) (fun _ _ _ _ _ _ => dg_name (i := 1) sc_are_needs.nd) (fun _ _ _ _ _ _ => dts_nil) (fun _ _ _ _ _ _ => de_ix (o_ix (hu_of hr)) (dv 1) (de_int))))) (de_callB (c_len) (by rfl) T.z_len (by decide +kernel) (da_cons (dv 0) (da_nil))) (nomark _)))))
abbrev K_is_most (P : Program) (w : World) (base : Heap) (T : Txt K w mg) (k : Nat) (sp : FSpec) : Prop := FnOk P w K mg base CX0 k T.f_is_most T.d_is_most ["thing", "needs"] (spD K 2 sp)
def t_is_most (sp_is_sum : FSpec) (sp_is_most : FSpec) : TDS := sSeq (sIf (qNot (qTest (qCall sp_is_sum 3 (rCons (qVar 0) (rCons (qVar 1) (rCons (qC (.int 0)) (rNil))))))) (sRet (qC (.bl false))) (sNext)) (sSeq (sIf (qTest (qOp eqD (qOp ixD (qVar 0) (qC (.int 0))) (qC (.str "num")))) (sRet (qOp (i2 fun i j Q => Q (.bl (decide (j ≤ i)))) (qOp ixD (qVar 0) (qC (.int 1))) (qC (.int 0)))) (sNext)) (sSeq (sIf (qTest (qOp eqD (qOp ixD (qVar 0) (qC (.int 0))) (qC (.str "full")))) (sRet (qOp eqD (qOp ixD (qOp ixD (qVar 0) (qC (.int 1))) (qC (.int 0))) (qC (.str "size")))) (sNext)) (sSeq (sIf (qTest (qOp inD (qOp ixD (qVar 0) (qC (.int 0))) (qTup (qCons (qC (.str "plus")) (qCons (qC (.str "less")) (qNil)))))) (sRet (qAndV (qCall sp_is_most 2 (rCons (qOp ixD (qVar 0) (qC (.int 1))) (rCons (qVar 1) (rNil)))) (qCall sp_is_most 2 (rCons (qOp ixD (qVar 0) (qC (.int 2))) (rCons (qVar 1) (rNil)))))) (sNext)) (sRet (qOp inD (qOp ixD (qVar 0) (qC (.int 0))) (qTup (qCons (qC (.str "need")) (qCons (qC (.str "size")) (qNil)))))))))
set_option maxHeartbeats 4000000 in
theorem d_is_most (T : Txt K w mg) {k : Nat} {k_is_sum : Nat} {sp_is_sum : FSpec} (G_is_sum : FnOk P w K mg base CX0 k_is_sum T.f_is_sum T.d_is_sum ["thing", "needs", "many"] (spD K 3 sp_is_sum)) (h_is_sum : k_is_sum ≤ k) {k_is_most : Nat} {sp_is_most : FSpec} (G_is_most : FnOk P w K mg base CX0 k_is_most T.f_is_most T.d_is_most ["thing", "needs"] (spD K 2 sp_is_most)) (h_is_most : k_is_most ≤ k) {cdv : Value} {A : Around} {outer : List Env} {s : Shared} {H : Hp} {E : XK} {B : Bd} (hr : Room k (A.deeper (envOfC "is_most" (defScope s_is_most) s.heap.objs.size T.f_is_most cdv))) :
    DSs (cxOf CX0 P w K mg base N_is_most "is_most" (defScope s_is_most) T.f_is_most cdv A outer s H E).nox B (defBody s_is_most) (t_is_most sp_is_sum sp_is_most) :=
  dss_cons (ds_if (dt_not (dt_val (de_call G_is_sum (hr.mono (by omega)) (by rfl) T.g_is_sum T.F_is_sum.kp T.b_is_sum (dr_cons (dv 0) (dr_cons (dv 1) (dr_cons (de_int) (dr_nil))))))) (dss_one (ds_ret (de_bl))) (dss_nil)) (dss_cons (ds_if (dt_cmp (o_eq hr.units) (de_ix (o_ix (hu_of hr)) (dv 0) (de_int)) (de_str) (nomark _)) (dss_one (ds_ret (de_cmp (o_ge) (de_ix (o_ix (hu_of hr)) (dv 0) (de_int)) (de_int) (nomark _)))) (dss_nil)) (dss_cons (ds_if (dt_cmp (o_eq hr.units) (de_ix (o_ix (hu_of hr)) (dv 0) (de_int)) (de_str) (nomark _)) (dss_one (ds_ret (de_cmp (o_eq hr.units) (de_ix (o_ix (hu_of hr)) (de_ix (o_ix (hu_of hr)) (dv 0) (de_int)) (de_int)) (de_str) (nomark _)))) (dss_nil)) (dss_cons (ds_if (dt_cmp (o_in (hu_of hr)) (de_ix (o_ix (hu_of hr)) (dv 0) (de_int)) (de_tup (da_cons (de_str) (da_cons (de_str) (da_nil)))) (by rfl)) (dss_one (ds_ret (de_and (de_call G_is_most (hr.mono (by omega)) (by rfl) T.g_is_most T.F_is_most.kp T.b_is_most (dr_cons (de_ix (o_ix (hu_of hr)) (dv 0) (de_int)) (dr_cons (dv 1) (dr_nil)))) (de_one (de_call G_is_most (hr.mono (by omega)) (by rfl) T.g_is_most T.F_is_most.kp T.b_is_most (dr_cons (de_ix (o_ix (hu_of hr)) (dv 0) (de_int)) (dr_cons (dv 1) (dr_nil)))))))) (dss_nil)) (dss_one (ds_ret (de_cmp (o_in (hu_of hr)) (de_ix (o_ix (hu_of hr)) (dv 0) (de_int)) (de_tup (da_cons (de_str) (da_cons (de_str) (da_nil)))) (by rfl)))))))
def t_are_sums_1 (sp_is_sum : FSpec) : TD := qCall sp_is_sum 3 (rCons (qVar 4) (rCons (qVar 2) (rCons (qVar 3) (rNil))))
abbrev K_are_sums (P : Program) (w : World) (base : Heap) (T : Txt K w mg) (k : Nat) (sp : FSpec) : Prop := FnOk P w K mg base CX0 k T.f_are_sums T.d_are_sums ["thing", "many", "needs", "own"] (spD K 4 sp)
def t_are_sums (sp_is_sum : FSpec) : TDS := sRet (qAndV (qCl (isiD .tup) (qCons (qVar 0) (qCons (qC (.atm (.ty "tuple"))) qNil))) (qAndV (qOp eqD (qCl (n1 lenD) (qCons (qVar 0) (qNil))) (qVar 1)) (qCl onL_all (qCons (qFz (fComp (qIter (qVar 0)) (gN 4) (qYes) ((t_are_sums_1 sp_is_sum)) [4])) (qNil)))))
set_option maxHeartbeats 4000000 in
theorem d_are_sums (T : Txt K w mg) {k : Nat} {k_is_sum : Nat} {sp_is_sum : FSpec} (G_is_sum : FnOk P w K mg base CX0 k_is_sum T.f_is_sum T.d_is_sum ["thing", "needs", "many"] (spD K 3 sp_is_sum)) (h_is_sum : k_is_sum ≤ k) {cdv : Value} {A : Around} {outer : List Env} {s : Shared} {H : Hp} {E : XK} {B : Bd} (hr : Room k (A.deeper (envOfC "are_sums" (defScope s_are_sums) s.heap.objs.size T.f_are_sums cdv))) :
    DSs (cxOf CX0 P w K mg base N_are_sums "are_sums" (defScope s_are_sums) T.f_are_sums cdv A outer s H E).nox B (defBody s_are_sums) (t_are_sums sp_is_sum) :=
  dss_one (ds_ret (de_and (de_callB (c_isi .tup) (by rfl) T.z_isinstance (by decide +kernel) (da_cons (dv 0) (da_cons (de_bty (by rfl) T.z_tuple (by decide +kernel)) da_nil))) (de_and (de_cmp (o_eq hr.units) (de_callB (c_len) (by rfl) T.z_len (by decide +kernel) (da_cons (dv 0) (da_nil))) (dv 1) (nomark _)) (de_one (de_callB (c_all rfl) (by rfl) T.z_all (by decide +kernel) (da_cons (DF.de (df_comp (own := [("one", 4)]) rfl sc_are_sums.nd (di_any (dv 0)) (blkOk_by (own := [("one", 4)]) (N := N_are_sums) (sc := defScope s_are_sums) (by decide +kernel)) (fun _ _ _ _ _ _ => dg_name (i := 4) sc_are_sums.nd) (fun _ _ _ _ _ _ => dts_nil) (fun _ _ _ _ _ _ => de_call G_is_sum (hr.mono (by omega)) (by rfl) T.g_is_sum T.F_is_sum.kp T.b_is_sum (dr_cons (dv 4) (dr_cons (dv 2) (dr_cons (dv 3) (dr_nil))))))) (da_nil)))))))
abbrev K_is_call (P : Program) (w : World) (base : Heap) (T : Txt K w mg) (k : Nat) (sp : FSpec) : Prop := FnOk P w K mg base CX0 k T.f_is_call T.d_is_call ["thing", "house", "own"] (spD K 3 sp)
def t_is_call (sp_is_whole : FSpec) (sp_are_sums : FSpec) : TDS := sSeq (sAsg (qVar 1) (gTupD 2 (gConsD (gN 3) (gConsD (gN 4) (gNilD))))) (sSeq (sIf (qOr (qTest (qOp neD (qCl (n1 lenD) (qCons (qVar 0) (qNil))) (qC (.int 3)))) (qOr (qNot (qTest (qCall sp_is_whole 1 (rCons (qOp ixD (qVar 0) (qC (.int 1))) (rNil))))) (qNot (qTest (qChain (i2 fun i j Q => Q (.bl (decide (i ≤ j)))) (i2 fun i j Q => Q (.bl (decide (i < j)))) (qC (.int 0)) (qOp ixD (qVar 0) (qC (.int 1))) (qCl (n1 lenD) (qCons (qVar 4) (qNil)))))))) (sRet (qC (.bl false))) (sNext)) (sRet (qCall sp_are_sums 4 (rCons (qOp ixD (qVar 0) (qC (.int 2))) (rCons (qOp ixD (qVar 4) (qOp ixD (qVar 0) (qC (.int 1)))) (rCons (qVar 3) (rCons (qVar 2) (rNil))))))))
set_option maxHeartbeats 4000000 in
theorem d_is_call (T : Txt K w mg) {k : Nat} {k_is_whole : Nat} {sp_is_whole : FSpec} (G_is_whole : FnOk P w K mg base CX0 k_is_whole T.f_is_whole T.d_is_whole ["thing"] (spD K 1 sp_is_whole)) (h_is_whole : k_is_whole ≤ k) {k_are_sums : Nat} {sp_are_sums : FSpec} (G_are_sums : FnOk P w K mg base CX0 k_are_sums T.f_are_sums T.d_are_sums ["thing", "many", "needs", "own"] (spD K 4 sp_are_sums)) (h_are_sums : k_are_sums ≤ k) {cdv : Value} {A : Around} {outer : List Env} {s : Shared} {H : Hp} {E : XK} {B : Bd} (hr : Room k (A.deeper (envOfC "is_call" (defScope s_is_call) s.heap.objs.size T.f_is_call cdv))) :
    DSs (cxOf CX0 P w K mg base N_is_call "is_call" (defScope s_is_call) T.f_is_call cdv A outer s H E).nox B (defBody s_is_call) (t_is_call sp_is_whole sp_are_sums) :=
  dss_cons (ds_asg (dv 1) (dg_tup rfl (dgs_cons (dg_name (i := 3) sc_is_call.nd) (dgs_cons (dg_name (i := 4) sc_is_call.nd) (dgs_nil))))) (dss_cons (ds_if (DW.dt (dw_or (dt_cmp (o_ne hr.units) (de_callB (c_len) (by rfl) T.z_len (by decide +kernel) (da_cons (dv 0) (da_nil))) (de_int) (nomark _)) (dw_or (dt_not (dt_val (de_call G_is_whole (hr.mono (by omega)) (by rfl) T.g_is_whole T.F_is_whole.kp T.b_is_whole (dr_cons (de_ix (o_ix (hu_of hr)) (dv 0) (de_int)) (dr_nil))))) (dw_or1 (dt_not (dt_chain (o_le) (o_lt) (de_int) (de_ix (o_ix (hu_of hr)) (dv 0) (de_int)) (de_callB (c_len) (by rfl) T.z_len (by decide +kernel) (da_cons (dv 4) (da_nil))))))))) (dss_one (ds_ret (de_bl))) (dss_nil)) (dss_one (ds_ret (de_call G_are_sums (hr.mono (by omega)) (by rfl) T.g_are_sums T.F_are_sums.kp T.b_are_sums (dr_cons (de_ix (o_ix (hu_of hr)) (dv 0) (de_int)) (dr_cons (de_ix (o_ix (hu_of hr)) (dv 4) (de_ix (o_ix (hu_of hr)) (dv 0) (de_int))) (dr_cons (dv 3) (dr_cons (dv 2) (dr_nil)))))))))
def t_is_choice_1 (sp_is_body : FSpec) : TD := qCall sp_is_body 4 (rCons (qVar 4) (rCons (qVar 1) (rCons (qVar 2) (rCons (qVar 3) (rNil)))))
abbrev K_is_choice (P : Program) (w : World) (base : Heap) (T : Txt K w mg) (k : Nat) (sp : FSpec) : Prop := FnOk P w K mg base CX0 k T.f_is_choice T.d_is_choice ["thing", "house", "own", "turns"] (spD K 4 sp)
def t_is_choice (sp_is_body : FSpec) : TDS := sSeq (sIf (qOr (qTest (qOp neD (qCl (n1 lenD) (qCons (qVar 0) (qNil))) (qC (.int 2)))) (qOr (qNot (qTest (qCl (isiD .tup) (qCons (qOp ixD (qVar 0) (qC (.int 1))) (qCons (qC (.atm (.ty "tuple"))) qNil))))) (qNot (qTest (qChain (i2 fun i j Q => Q (.bl (decide (i ≤ j)))) (i2 fun i j Q => Q (.bl (decide (i ≤ j)))) (qC (.int 1)) (qCl (n1 lenD) (qCons (qOp ixD (qVar 0) (qC (.int 1))) (qNil))) (qC c_MOST_CHOICES)))))) (sRet (qC (.bl false))) (sNext)) (sRet (qCl onL_all (qCons (qFz (fComp (qIter (qOp ixD (qVar 0) (qC (.int 1)))) (gN 4) (qYes) ((t_is_choice_1 sp_is_body)) [4])) (qNil))))
set_option maxHeartbeats 4000000 in
theorem d_is_choice (T : Txt K w mg) {k : Nat} {k_is_body : Nat} {sp_is_body : FSpec} (G_is_body : FnOk P w K mg base CX0 k_is_body T.f_is_body T.d_is_body ["thing", "house", "own", "turns"] (spD K 4 sp_is_body)) (h_is_body : k_is_body ≤ k) {cdv : Value} {A : Around} {outer : List Env} {s : Shared} {H : Hp} {E : XK} {B : Bd} (hr : Room k (A.deeper (envOfC "is_choice" (defScope s_is_choice) s.heap.objs.size T.f_is_choice cdv))) :
    DSs (cxOf CX0 P w K mg base N_is_choice "is_choice" (defScope s_is_choice) T.f_is_choice cdv A outer s H E).nox B (defBody s_is_choice) (t_is_choice sp_is_body) :=
  dss_cons (ds_if (DW.dt (dw_or (dt_cmp (o_ne hr.units) (de_callB (c_len) (by rfl) T.z_len (by decide +kernel) (da_cons (dv 0) (da_nil))) (de_int) (nomark _)) (dw_or (dt_not (dt_val (de_callB (c_isi .tup) (by rfl) T.z_isinstance (by decide +kernel) (da_cons (de_ix (o_ix (hu_of hr)) (dv 0) (de_int)) (da_cons (de_bty (by rfl) T.z_tuple (by decide +kernel)) da_nil))))) (dw_or1 (dt_not (dt_chain (o_le) (o_le) (de_int) (de_callB (c_len) (by rfl) T.z_len (by decide +kernel) (da_cons (de_ix (o_ix (hu_of hr)) (dv 0) (de_int)) (da_nil))) (de_const (by rfl) T.m_MOST_CHOICES))))))) (dss_one (ds_ret (de_bl))) (dss_nil)) (dss_one (ds_ret (de_callB (c_all rfl) (by rfl) T.z_all (by decide +kernel) (da_cons (DF.de (df_comp (own := [("one", 4)]) rfl sc_is_choice.nd (di_any (de_ix (o_ix (hu_of hr)) (dv 0) (de_int))) (blkOk_by (own := [("one", 4)]) (N := N_is_choice) (sc := defScope s_is_choice) (by decide +kernel)) (fun _ _ _ _ _ _ => dg_name (i := 4) sc_is_choice.nd) (fun _ _ _ _ _ _ => dts_nil) (fun _ _ _ _ _ _ => de_call G_is_body (hr.mono (by omega)) (by rfl) T.g_is_body T.F_is_body.kp T.b_is_body (dr_cons (dv 4) (dr_cons (dv 1) (dr_cons (dv 2) (dr_cons (dv 3) (dr_nil)))))))) (da_nil)))))
abbrev K_is_turned (P : Program) (w : World) (base : Heap) (T : Txt K w mg) (k : Nat) (sp : FSpec) : Prop := FnOk P w K mg base CX0 k T.f_is_turned T.d_is_turned ["thing", "house", "own", "turns"] (spD K 4 sp)
def t_is_turned (sp_are_sums : FSpec) (sp_is_body : FSpec) : TDS := sSeq (sIf (qOr (qTest (qOp neD (qCl (n1 lenD) (qCons (qVar 0) (qNil))) (qC (.int 4)))) (qTest (qOp eqD (qVar 3) (qC c_MOST_TURNS)))) (sRet (qC (.bl false))) (sNext)) (sSeq (sIf (qNot (qTest (qCall sp_are_sums 4 (rCons (qSl slD (qVar 0) (qPart (qC (.int 1))) (qPart (qC (.int 3)))) (rCons (qC (.int 2)) (rCons (qOp ixD (qVar 1) (qC (.int 0))) (rCons (qVar 2) (rNil)))))))) (sRet (qC (.bl false))) (sNext)) (sRet (qCall sp_is_body 4 (rCons (qOp ixD (qVar 0) (qC (.int 3))) (rCons (qVar 1) (rCons (qOp addD (qVar 2) (qC (.int 1))) (rCons (qOp addD (qVar 3) (qC (.int 1))) (rNil))))))))
set_option maxHeartbeats 4000000 in
theorem d_is_turned (T : Txt K w mg) {k : Nat} {k_are_sums : Nat} {sp_are_sums : FSpec} (G_are_sums : FnOk P w K mg base CX0 k_are_sums T.f_are_sums T.d_are_sums ["thing", "many", "needs", "own"] (spD K 4 sp_are_sums)) (h_are_sums : k_are_sums ≤ k) {k_is_body : Nat} {sp_is_body : FSpec} (G_is_body : FnOk P w K mg base CX0 k_is_body T.f_is_body T.d_is_body ["thing", "house", "own", "turns"] (spD K 4 sp_is_body)) (h_is_body : k_is_body ≤ k) {cdv : Value} {A : Around} {outer : List Env} {s : Shared} {H : Hp} {E : XK} {B : Bd} (hr : Room k (A.deeper (envOfC "is_turned" (defScope s_is_turned) s.heap.objs.size T.f_is_turned cdv))) :
    DSs (cxOf CX0 P w K mg base N_is_turned "is_turned" (defScope s_is_turned) T.f_is_turned cdv A outer s H E).nox B (defBody s_is_turned) (t_is_turned sp_are_sums sp_is_body) :=
  dss_cons (ds_if (DW.dt (dw_or (dt_cmp (o_ne hr.units) (de_callB (c_len) (by rfl) T.z_len (by decide +kernel) (da_cons (dv 0) (da_nil))) (de_int) (nomark _)) (dw_or1 (dt_cmp (o_eq hr.units) (dv 3) (de_const (by rfl) T.m_MOST_TURNS) (nomark _))))) (dss_one (ds_ret (de_bl))) (dss_nil)) (dss_cons (ds_if (dt_not (dt_val (de_call G_are_sums (hr.mono (by omega)) (by rfl) T.g_are_sums T.F_are_sums.kp T.b_are_sums (dr_cons (de_slice o_sl (dv 0) (do_some (de_int)) (do_some (de_int))) (dr_cons (de_int) (dr_cons (de_ix (o_ix (hu_of hr)) (dv 1) (de_int)) (dr_cons (dv 2) (dr_nil)))))))) (dss_one (ds_ret (de_bl))) (dss_nil)) (dss_one (ds_ret (de_call G_is_body (hr.mono (by omega)) (by rfl) T.g_is_body T.F_is_body.kp T.b_is_body (dr_cons (de_ix (o_ix (hu_of hr)) (dv 0) (de_int)) (dr_cons (dv 1) (dr_cons (de_op o_add (dv 2) (de_int)) (dr_cons (de_op o_add (dv 3) (de_int)) (dr_nil)))))))))
def t_is_body_1 (sp_are_sums : FSpec) (sp_is_call : FSpec) (sp_is_choice : FSpec) (sp_is_turned : FSpec) (sp_is_body : FSpec) (sp_is_cond : FSpec) : TD := qCall sp_is_body 4 (rCons (qVar 5) (rCons (qVar 1) (rCons (qVar 2) (rCons (qVar 3) (rNil)))))
def t_is_body_2 (sp_are_sums : FSpec) (sp_is_call : FSpec) (sp_is_choice : FSpec) (sp_is_turned : FSpec) (sp_is_body : FSpec) (sp_is_cond : FSpec) : TD := qCall sp_is_body 4 (rCons (qVar 5) (rCons (qVar 1) (rCons (qVar 2) (rCons (qVar 3) (rNil)))))
abbrev K_is_body (P : Program) (w : World) (base : Heap) (T : Txt K w mg) (k : Nat) (sp : FSpec) : Prop := FnOk P w K mg base CX0 k T.f_is_body T.d_is_body ["thing", "house", "own", "turns"] (spD K 4 sp)
def t_is_body (sp_are_sums : FSpec) (sp_is_call : FSpec) (sp_is_choice : FSpec) (sp_is_turned : FSpec) (sp_is_body : FSpec) (sp_is_cond : FSpec) : TDS := sSeq (sIf (qOr (qNot (qTest (qCl (isiD .tup) (qCons (qVar 0) (qCons (qC (.atm (.ty "tuple"))) qNil))))) (qOr (qTest (qOp eqD (qCl (n1 lenD) (qCons (qVar 0) (qNil))) (qC (.int 0)))) (qNot (qTest (qCl (isiD .str) (qCons (qOp ixD (qVar 0) (qC (.int 0))) (qCons (qC (.atm (.ty "str"))) qNil))))))) (sRet (qC (.bl false))) (sNext)) (sSeq (sAsg (qOp ixD (qVar 0) (qC (.int 0))) (gN 4)) (sSeq (sIf (qTest (qOp eqD (qVar 4) (qC (.str "none")))) (sRet (qOp eqD (qCl (n1 lenD) (qCons (qVar 0) (qNil))) (qC (.int 1)))) (sNext)) (sSeq (sIf (qTest (qOp eqD (qVar 4) (qC (.str "gain")))) (sRet (qCall sp_are_sums 4 (rCons (qSl slD (qVar 0) (qPart (qC (.int 1))) (qNoPart)) (rCons (qC (.int 1)) (rCons (qOp ixD (qVar 1) (qC (.int 0))) (rCons (qVar 2) (rNil))))))) (sNext)) (sSeq (sIf (qTest (qOp eqD (qVar 4) (qC (.str "call")))) (sRet (qCall sp_is_call 3 (rCons (qVar 0) (rCons (qVar 1) (rCons (qVar 2) (rNil)))))) (sNext)) (sSeq (sIf (qTest (qOp eqD (qVar 4) (qC (.str "choose")))) (sRet (qCall sp_is_choice 4 (rCons (qVar 0) (rCons (qVar 1) (rCons (qVar 2) (rCons (qVar 3) (rNil))))))) (sNext)) (sSeq (sIf (qTest (qOp inD (qVar 4) (qTup (qCons (qC (.str "each")) (qCons (qC (.str "all")) (qNil)))))) (sRet (qCall sp_is_turned 4 (rCons (qVar 0) (rCons (qVar 1) (rCons (qVar 2) (rCons (qVar 3) (rNil))))))) (sNext)) (sSeq (sIf (qTest (qOp eqD (qVar 4) (qC (.str "both")))) (sRet (qAndV (qOp eqD (qCl (n1 lenD) (qCons (qVar 0) (qNil))) (qC (.int 3))) (qCl onL_all (qCons (qFz (fComp (qIter (qSl slD (qVar 0) (qPart (qC (.int 1))) (qNoPart))) (gN 5) (qYes) ((t_is_body_1 sp_are_sums sp_is_call sp_is_choice sp_is_turned sp_is_body sp_is_cond)) [5])) (qNil))))) (sNext)) (sSeq (sIf (qOr (qTest (qOp neD (qVar 4) (qC (.str "if")))) (qOr (qTest (qOp neD (qCl (n1 lenD) (qCons (qVar 0) (qNil))) (qC (.int 4)))) (qNot (qTest (qCall sp_is_cond 3 (rCons (qOp ixD (qVar 0) (qC (.int 1))) (rCons (qOp ixD (qVar 1) (qC (.int 0))) (rCons (qVar 2) (rNil))))))))) (sRet (qC (.bl false))) (sNext)) (sRet (qCl onL_all (qCons (qFz (fComp (qIter (qSl slD (qVar 0) (qPart (qC (.int 2))) (qNoPart))) (gN 5) (qYes) ((t_is_body_2 sp_are_sums sp_is_call sp_is_choice sp_is_turned sp_is_body sp_is_cond)) [5])) (qNil))))))))))))
set_option maxHeartbeats 4000000 in
theorem d_is_body (T : Txt K w mg) {k : Nat} {k_are_sums : Nat} {sp_are_sums : FSpec} (G_are_sums : FnOk P w K mg base CX0 k_are_sums T.f_are_sums T.d_are_sums ["thing", "many", "needs", "own"] (spD K 4 sp_are_sums)) (h_are_sums : k_are_sums ≤ k) {k_is_call : Nat} {sp_is_call : FSpec} (G_is_call : FnOk P w K mg base CX0 k_is_call T.f_is_call T.d_is_call ["thing", "house", "own"] (spD K 3 sp_is_call)) (h_is_call : k_is_call ≤ k) {k_is_choice : Nat} {sp_is_choice : FSpec} (G_is_choice : FnOk P w K mg base CX0 k_is_choice T.f_is_choice T.d_is_choice ["thing", "house", "own", "turns"] (spD K 4 sp_is_choice)) (h_is_choice : k_is_choice ≤ k) {k_is_turned : Nat} {sp_is_turned : FSpec} (G_is_turned : FnOk P w K mg base CX0 k_is_turned T.f_is_turned T.d_is_turned ["thing", "house", "own", "turns"] (spD K 4 sp_is_turned)) (h_is_turned : k_is_turned ≤ k) {k_is_body : Nat} {sp_is_body : FSpec} (G_is_body : FnOk P w K mg base CX0 k_is_body T.f_is_body T.d_is_body ["thing", "house", "own", "turns"] (spD K 4 sp_is_body)) (h_is_body : k_is_body ≤ k) {k_is_cond : Nat} {sp_is_cond : FSpec} (G_is_cond : FnOk P w K mg base CX0 k_is_cond T.f_is_cond T.d_is_cond ["thing", "needs", "many"] (spD K 3 sp_is_cond)) (h_is_cond : k_is_cond ≤ k) {cdv : Value} {A : Around} {outer : List Env} {s : Shared} {H : Hp} {E : XK} {B : Bd} (hr : Room k (A.deeper (envOfC "is_body" (defScope s_is_body) s.heap.objs.size T.f_is_body cdv))) :
    DSs (cxOf CX0 P w K mg base N_is_body "is_body" (defScope s_is_body) T.f_is_body cdv A outer s H E).nox B (defBody s_is_body) (t_is_body sp_are_sums sp_is_call sp_is_choice sp_is_turned sp_is_body sp_is_cond) :=
  dss_cons (ds_if (DW.dt (dw_or (dt_not (dt_val (de_callB (c_isi .tup) (by rfl) T.z_isinstance (by decide +kernel) (da_cons (dv 0) (da_cons (de_bty (by rfl) T.z_tuple (by decide +kernel)) da_nil))))) (dw_or (dt_cmp (o_eq hr.units) (de_callB (c_len) (by rfl) T.z_len (by decide +kernel) (da_cons (dv 0) (da_nil))) (de_int) (nomark _)) (dw_or1 (dt_not (dt_val (de_callB (c_isi .str) (by rfl) T.z_isinstance (by decide +kernel) (da_cons (de_ix (o_ix (hu_of hr)) (dv 0) (de_int)) (da_cons (de_bty (by rfl) T.z_str (by decide +kernel)) da_nil))))))))) (dss_one (ds_ret (de_bl))) (dss_nil)) (dss_cons (ds_set (i := 4) sc_is_body.nd (de_ix (o_ix (hu_of hr)) (dv 0) (de_int))) (dss_cons (ds_if (dt_cmp (o_eq hr.units) (dv 4) (de_str) (nomark _)) (dss_one (ds_ret (de_cmp (o_eq hr.units) (de_callB (c_len) (by rfl) T.z_len (by decide +kernel) (da_cons (dv 0) (da_nil))) (de_int) (nomark _)))) (dss_nil)) (dss_cons (ds_if (dt_cmp (o_eq hr.units) (dv 4) (de_str) (nomark _)) (dss_one (ds_ret (de_call G_are_sums (hr.mono (by omega)) (by rfl) T.g_are_sums T.F_are_sums.kp T.b_are_sums (dr_cons (de_slice o_sl (dv 0) (do_some (de_int)) (do_none)) (dr_cons (de_int) (dr_cons (de_ix (o_ix (hu_of hr)) (dv 1) (de_int)) (dr_cons (dv 2) (dr_nil)))))))) (dss_nil)) (dss_cons (ds_if (dt_cmp (o_eq hr.units) (dv 4) (de_str) (nomark _)) (dss_one (ds_ret (de_call G_is_call (hr.mono (by omega)) (by rfl) T.g_is_call T.F_is_call.kp T.b_is_call (dr_cons (dv 0) (dr_cons (dv 1) (dr_cons (dv 2) (dr_nil))))))) (dss_nil)) (dss_cons (ds_if (dt_cmp (o_eq hr.units) (dv 4) (de_str) (nomark _)) (dss_one (ds_ret (de_call G_is_choice (hr.mono (by omega)) (by rfl) T.g_is_choice T.F_is_choice.kp T.b_is_choice (dr_cons (dv 0) (dr_cons (dv 1) (dr_cons (dv 2) (dr_cons (dv 3) (dr_nil)))))))) (dss_nil)) (dss_cons (ds_if (dt_cmp (o_in (hu_of hr)) (dv 4) (de_tup (da_cons (de_str) (da_cons (de_str) (da_nil)))) (by rfl)) (dss_one (ds_ret (de_call G_is_turned (hr.mono (by omega)) (by rfl) T.g_is_turned T.F_is_turned.kp T.b_is_turned (dr_cons (dv 0) (dr_cons (dv 1) (dr_cons (dv 2) (dr_cons (dv 3) (dr_nil)))))))) (dss_nil)) (dss_cons (ds_if (dt_cmp (o_eq hr.units) (dv 4) (de_str) (nomark _)) (dss_one (ds_ret (de_and (de_cmp (o_eq hr.units) (de_callB (c_len) (by rfl) T.z_len (by decide +kernel) (da_cons (dv 0) (da_nil))) (de_int) (nomark _)) (de_one (de_callB (c_all rfl) (by rfl) T.z_all (by decide +kernel) (da_cons (DF.de (df_comp (own := [("one", 5)]) rfl sc_is_body.nd (di_any (de_slice o_sl (dv 0) (do_some (de_int)) (do_none))) (blkOk_by (own := [("one", 5)]) (N := N_is_body) (sc := defScope s_is_body) (by decide +kernel)) (fun _ _ _ _ _ _ => dg_name (i := 5) sc_is_body.nd) (fun _ _ _ _ _ _ => dts_nil) (fun _ _ _ _ _ _ => de_call G_is_body (hr.mono (by omega)) (by rfl) T.g_is_body T.F_is_body.kp T.b_is_body (dr_cons (dv 5) (dr_cons (dv 1) (dr_cons (dv 2) (dr_cons (dv 3) (dr_nil)))))))) (da_nil))))))) (dss_nil)) (dss_cons (ds_if (DW.dt (dw_or (dt_cmp (o_ne hr.units) (dv 4) (de_str) (nomark _)) (dw_or (dt_cmp (o_ne hr.units) (de_callB (c_len) (by rfl) T.z_len (by decide +kernel) (da_cons (dv 0) (da_nil))) (de_int) (nomark _)) (dw_or1 (dt_not (dt_val (de_call G_is_cond (hr.mono (by omega)) (by rfl) T.g_is_cond T.F_is_cond.kp T.b_is_cond (dr_cons (de_ix (o_ix (hu_of hr)) (dv 0) (de_int)) (dr_cons (de_ix (o_ix (hu_of hr)) (dv 1) (de_int)) (dr_cons (dv 2) (dr_nil))))))))))) (dss_one (ds_ret (de_bl))) (dss_nil)) (dss_one (ds_ret (de_callB (c_all rfl) (by rfl) T.z_all (by decide +kernel) (da_cons (DF.de (df_comp (own := [("one", 5)]) rfl sc_is_body.nd (di_any (de_slice o_sl (dv 0) (do_some (de_int)) (do_none))) (blkOk_by (own := [("one", 5)]) (N := N_is_body) (sc := defScope s_is_body) (by decide +kernel)) (fun _ _ _ _ _ _ => dg_name (i := 5) sc_is_body.nd) (fun _ _ _ _ _ _ => dts_nil) (fun _ _ _ _ _ _ => de_call G_is_body (hr.mono (by omega)) (by rfl) T.g_is_body T.F_is_body.kp T.b_is_body (dr_cons (dv 5) (dr_cons (dv 1) (dr_cons (dv 2) (dr_cons (dv 3) (dr_nil)))))))) (da_nil)))))))))))))
abbrev K_is_worded (P : Program) (w : World) (base : Heap) (T : Txt K w mg) (k : Nat) (sp : FSpec) : Prop := FnOk P w K mg base CX0 k T.f_is_worded T.d_is_worded ["thing"] (spD K 1 sp)
def t_is_worded : TDS := sRet (qAndV (qOp (i2 fun i j Q => Q (.bl (decide (j < i)))) (qCl (n1 lenD) (qCons (qVar 0) (qNil))) (qC (.int 0))) (qCl (isiD .str) (qCons (qOp ixD (qVar 0) (qC (.int 0))) (qCons (qC (.atm (.ty "str"))) qNil))))
set_option maxHeartbeats 4000000 in
theorem d_is_worded (T : Txt K w mg) {k : Nat}  {cdv : Value} {A : Around} {outer : List Env} {s : Shared} {H : Hp} {E : XK} {B : Bd} (hr : Room k (A.deeper (envOfC "is_worded" (defScope s_is_worded) s.heap.objs.size T.f_is_worded cdv))) :
    DSs (cxOf CX0 P w K mg base N_is_worded "is_worded" (defScope s_is_worded) T.f_is_worded cdv A outer s H E).nox B (defBody s_is_worded) (t_is_worded) :=
  dss_one (ds_ret (de_and (de_cmp (o_gt) (de_callB (c_len) (by rfl) T.z_len (by decide +kernel) (da_cons (dv 0) (da_nil))) (de_int) (nomark _)) (de_one (de_callB (c_isi .str) (by rfl) T.z_isinstance (by decide +kernel) (da_cons (de_ix (o_ix (hu_of hr)) (dv 0) (de_int)) (da_cons (de_bty (by rfl) T.z_str (by decide +kernel)) da_nil))))))
def t_count_parts_1 (sp_is_worded : FSpec) (sp_count_parts : FSpec) : TD := qCall sp_count_parts 1 (rCons (qVar 1) (rNil))
abbrev K_count_parts (P : Program) (w : World) (base : Heap) (T : Txt K w mg) (k : Nat) (sp : FSpec) : Prop := FnOk P w K mg base CX0 k T.f_count_parts T.d_count_parts ["thing"] (spD K 1 sp)
def t_count_parts (sp_is_worded : FSpec) (sp_count_parts : FSpec) : TDS := sSeq (sIf (qNot (qTest (qCl (isiD .tup) (qCons (qVar 0) (qCons (qC (.atm (.ty "tuple"))) qNil))))) (sRet (qC (.int 0))) (sNext)) (sRet (qOp addD (qCl (n1 intD) (qCons (qCall sp_is_worded 1 (rCons (qVar 0) (rNil))) (qNil))) (qCl onL_sum (qCons (qFz (fComp (qIter (qVar 0)) (gN 1) (qYes) ((t_count_parts_1 sp_is_worded sp_count_parts)) [1])) (qNil)))))
set_option maxHeartbeats 4000000 in
theorem d_count_parts (T : Txt K w mg) {k : Nat} {k_is_worded : Nat} {sp_is_worded : FSpec} (G_is_worded : FnOk P w K mg base CX0 k_is_worded T.f_is_worded T.d_is_worded ["thing"] (spD K 1 sp_is_worded)) (h_is_worded : k_is_worded ≤ k) {k_count_parts : Nat} {sp_count_parts : FSpec} (G_count_parts : FnOk P w K mg base CX0 k_count_parts T.f_count_parts T.d_count_parts ["thing"] (spD K 1 sp_count_parts)) (h_count_parts : k_count_parts ≤ k) {cdv : Value} {A : Around} {outer : List Env} {s : Shared} {H : Hp} {E : XK} {B : Bd} (hr : Room k (A.deeper (envOfC "count_parts" (defScope s_count_parts) s.heap.objs.size T.f_count_parts cdv))) :
    DSs (cxOf CX0 P w K mg base N_count_parts "count_parts" (defScope s_count_parts) T.f_count_parts cdv A outer s H E).nox B (defBody s_count_parts) (t_count_parts sp_is_worded sp_count_parts) :=
  dss_cons (ds_if (dt_not (dt_val (de_callB (c_isi .tup) (by rfl) T.z_isinstance (by decide +kernel) (da_cons (dv 0) (da_cons (de_bty (by rfl) T.z_tuple (by decide +kernel)) da_nil))))) (dss_one (ds_ret (de_int))) (dss_nil)) (dss_one (ds_ret (de_op o_add (de_callTy (c_int) (by rfl) T.z_int (by decide +kernel) (da_cons (de_call G_is_worded (hr.mono (by omega)) (by rfl) T.g_is_worded T.F_is_worded.kp T.b_is_worded (dr_cons (dv 0) (dr_nil))) (da_nil))) (de_callB (c_sum rfl) (by rfl) T.z_sum (by decide +kernel) (da_cons (DF.de (df_comp (own := [("one", 1)]) rfl sc_count_parts.nd (di_any (dv 0)) (blkOk_by (own := [("one", 1)]) (N := N_count_parts) (sc := defScope s_count_parts) (by decide +kernel)) (fun _ _ _ _ _ _ => dg_name (i := 1) sc_count_parts.nd) (fun _ _ _ _ _ _ => dts_nil) (fun _ _ _ _ _ _ => de_call G_count_parts (hr.mono (by omega)) (by rfl) T.g_count_parts T.F_count_parts.kp T.b_count_parts (dr_cons (dv 1) (dr_nil))))) (da_nil))))))
def t_deepness_1 (sp_is_worded : FSpec) (sp_deepness : FSpec) : TD := qCall sp_deepness 1 (rCons (qVar 1) (rNil))
abbrev K_deepness (P : Program) (w : World) (base : Heap) (T : Txt K w mg) (k : Nat) (sp : FSpec) : Prop := FnOk P w K mg base CX0 k T.f_deepness T.d_deepness ["thing"] (spD K 1 sp)
def t_deepness (sp_is_worded : FSpec) (sp_deepness : FSpec) : TDS := sSeq (sIf (qNot (qTest (qCl (isiD .tup) (qCons (qVar 0) (qCons (qC (.atm (.ty "tuple"))) qNil))))) (sRet (qC (.int 0))) (sNext)) (sRet (qOp addD (qCl (n1 intD) (qCons (qCall sp_is_worded 1 (rCons (qVar 0) (rNil))) (qNil))) (qCl onL_max (qCons (qOp addD (qFz (fComp (qIter (qVar 0)) (gN 1) (qYes) ((t_deepness_1 sp_is_worded sp_deepness)) [1])) (qLst (qCons (qC (.int 0)) (qNil)))) (qNil)))))
set_option maxHeartbeats 4000000 in
theorem d_deepness (T : Txt K w mg) {k : Nat} {k_is_worded : Nat} {sp_is_worded : FSpec} (G_is_worded : FnOk P w K mg base CX0 k_is_worded T.f_is_worded T.d_is_worded ["thing"] (spD K 1 sp_is_worded)) (h_is_worded : k_is_worded ≤ k) {k_deepness : Nat} {sp_deepness : FSpec} (G_deepness : FnOk P w K mg base CX0 k_deepness T.f_deepness T.d_deepness ["thing"] (spD K 1 sp_deepness)) (h_deepness : k_deepness ≤ k) {cdv : Value} {A : Around} {outer : List Env} {s : Shared} {H : Hp} {E : XK} {B : Bd} (hr : Room k (A.deeper (envOfC "deepness" (defScope s_deepness) s.heap.objs.size T.f_deepness cdv))) :
    DSs (cxOf CX0 P w K mg base N_deepness "deepness" (defScope s_deepness) T.f_deepness cdv A outer s H E).nox B (defBody s_deepness) (t_deepness sp_is_worded sp_deepness) :=
  dss_cons (ds_if (dt_not (dt_val (de_callB (c_isi .tup) (by rfl) T.z_isinstance (by decide +kernel) (da_cons (dv 0) (da_cons (de_bty (by rfl) T.z_tuple (by decide +kernel)) da_nil))))) (dss_one (ds_ret (de_int))) (dss_nil)) (dss_one (ds_ret (de_op o_add (de_callTy (c_int) (by rfl) T.z_int (by decide +kernel) (da_cons (de_call G_is_worded (hr.mono (by omega)) (by rfl) T.g_is_worded T.F_is_worded.kp T.b_is_worded (dr_cons (dv 0) (dr_nil))) (da_nil))) (de_callB (c_max rfl) (by rfl) T.z_max (by decide +kernel) (da_cons (de_op o_add (DF.de (df_comp (own := [("one", 1)]) rfl sc_deepness.nd (di_any (dv 0)) (blkOk_by (own := [("one", 1)]) (N := N_deepness) (sc := defScope s_deepness) (by decide +kernel)) (fun _ _ _ _ _ _ => dg_name (i := 1) sc_deepness.nd) (fun _ _ _ _ _ _ => dts_nil) (fun _ _ _ _ _ _ => de_call G_deepness (hr.mono (by omega)) (by rfl) T.g_deepness T.F_deepness.kp T.b_deepness (dr_cons (dv 1) (dr_nil))))) (de_lst (da_cons (de_int) (da_nil)))) (da_nil))))))
def t_is_head_1 (sp_is_name : FSpec) (sp_kind_of : FSpec) (sp_is_most : FSpec) (sp_count_parts : FSpec) : TD := qAndV (qCall sp_is_most 2 (rCons (qVar 2) (rCons (qVar 1) (rNil)))) (qOp (i2 fun i j Q => Q (.bl (decide (i ≤ j)))) (qCall sp_count_parts 1 (rCons (qVar 2) (rNil))) (qC c_MOST_MOST))
abbrev K_is_head (P : Program) (w : World) (base : Heap) (T : Txt K w mg) (k : Nat) (sp : FSpec) : Prop := FnOk P w K mg base CX0 k T.f_is_head T.d_is_head ["thing", "needs"] (spD K 2 sp)
def t_is_head (sp_is_name : FSpec) (sp_kind_of : FSpec) (sp_is_most : FSpec) (sp_count_parts : FSpec) : TDS := sSeq (sIf (qOr (qNot (qTest (qCl (isiD .tup) (qCons (qVar 0) (qCons (qC (.atm (.ty "tuple"))) qNil))))) (qOr (qTest (qOp neD (qCl (n1 lenD) (qCons (qVar 0) (qNil))) (qC (.int 3)))) (qOr (qNot (qTest (qCall sp_is_name 1 (rCons (qOp ixD (qVar 0) (qC (.int 0))) (rNil))))) (qTest (qOp neD (qCall sp_kind_of 2 (rCons (qVar 1) (rCons (qOp ixD (qVar 0) (qC (.int 0))) (rNil)))) (qC (.str ""))))))) (sRet (qC (.bl false))) (sNext)) (sSeq (sIf (qOr (qNot (qTest (qCl (isiD .tup) (qCons (qOp ixD (qVar 0) (qC (.int 1))) (qCons (qC (.atm (.ty "tuple"))) qNil))))) (qNot (qTest (qChain (i2 fun i j Q => Q (.bl (decide (i ≤ j)))) (i2 fun i j Q => Q (.bl (decide (i ≤ j)))) (qC (.int 1)) (qCl (n1 lenD) (qCons (qOp ixD (qVar 0) (qC (.int 1))) (qNil))) (qC c_MOST_PLACES))))) (sRet (qC (.bl false))) (sNext)) (sRet (qCl onL_all (qCons (qFz (fComp (qIter (qOp ixD (qVar 0) (qC (.int 1)))) (gN 2) (qYes) ((t_is_head_1 sp_is_name sp_kind_of sp_is_most sp_count_parts)) [2])) (qNil)))))
set_option maxHeartbeats 4000000 in
theorem d_is_head (T : Txt K w mg) {k : Nat} {k_is_name : Nat} {sp_is_name : FSpec} (G_is_name : FnOk P w K mg base CX0 k_is_name T.f_is_name T.d_is_name ["thing"] (spD K 1 sp_is_name)) (h_is_name : k_is_name ≤ k) {k_kind_of : Nat} {sp_kind_of : FSpec} (G_kind_of : FnOk P w K mg base CX0 k_kind_of T.f_kind_of T.d_kind_of ["needs", "name"] (spD K 2 sp_kind_of)) (h_kind_of : k_kind_of ≤ k) {k_is_most : Nat} {sp_is_most : FSpec} (G_is_most : FnOk P w K mg base CX0 k_is_most T.f_is_most T.d_is_most ["thing", "needs"] (spD K 2 sp_is_most)) (h_is_most : k_is_most ≤ k) {k_count_parts : Nat} {sp_count_parts : FSpec} (G_count_parts : FnOk P w K mg base CX0 k_count_parts T.f_count_parts T.d_count_parts ["thing"] (spD K 1 sp_count_parts)) (h_count_parts : k_count_parts ≤ k) {cdv : Value} {A : Around} {outer : List Env} {s : Shared} {H : Hp} {E : XK} {B : Bd} (hr : Room k (A.deeper (envOfC "is_head" (defScope s_is_head) s.heap.objs.size T.f_is_head cdv))) :
    DSs (cxOf CX0 P w K mg base N_is_head "is_head" (defScope s_is_head) T.f_is_head cdv A outer s H E).nox B (defBody s_is_head) (t_is_head sp_is_name sp_kind_of sp_is_most sp_count_parts) :=
  dss_cons (ds_if (DW.dt (dw_or (dt_not (dt_val (de_callB (c_isi .tup) (by rfl) T.z_isinstance (by decide +kernel) (da_cons (dv 0) (da_cons (de_bty (by rfl) T.z_tuple (by decide +kernel)) da_nil))))) (dw_or (dt_cmp (o_ne hr.units) (de_callB (c_len) (by rfl) T.z_len (by decide +kernel) (da_cons (dv 0) (da_nil))) (de_int) (nomark _)) (dw_or (dt_not (dt_val (de_call G_is_name (hr.mono (by omega)) (by rfl) T.g_is_name T.F_is_name.kp T.b_is_name (dr_cons (de_ix (o_ix (hu_of hr)) (dv 0) (de_int)) (dr_nil))))) (dw_or1 (dt_cmp (o_ne hr.units) (de_call G_kind_of (hr.mono (by omega)) (by rfl) T.g_kind_of T.F_kind_of.kp T.b_kind_of (dr_cons (dv 1) (dr_cons (de_ix (o_ix (hu_of hr)) (dv 0) (de_int)) (dr_nil)))) (de_str) (nomark _))))))) (dss_one (ds_ret (de_bl))) (dss_nil)) (dss_cons (ds_if (DW.dt (dw_or (dt_not (dt_val (de_callB (c_isi .tup) (by rfl) T.z_isinstance (by decide +kernel) (da_cons (de_ix (o_ix (hu_of hr)) (dv 0) (de_int)) (da_cons (de_bty (by rfl) T.z_tuple (by decide +kernel)) da_nil))))) (dw_or1 (dt_not (dt_chain (o_le) (o_le) (de_int) (de_callB (c_len) (by rfl) T.z_len (by decide +kernel) (da_cons (de_ix (o_ix (hu_of hr)) (dv 0) (de_int)) (da_nil))) (de_const (by rfl) T.m_MOST_PLACES)))))) (dss_one (ds_ret (de_bl))) (dss_nil)) (dss_one (ds_ret (de_callB (c_all rfl) (by rfl) T.z_all (by decide +kernel) (da_cons (DF.de (df_comp (own := [("one", 2)]) rfl sc_is_head.nd (di_any (de_ix (o_ix (hu_of hr)) (dv 0) (de_int))) (blkOk_by (own := [("one", 2)]) (N := N_is_head) (sc := defScope s_is_head) (by decide +kernel)) (fun _ _ _ _ _ _ => dg_name (i := 2) sc_is_head.nd) (fun _ _ _ _ _ _ => dts_nil) (fun _ _ _ _ _ _ => de_and (de_call G_is_most (hr.mono (by omega)) (by rfl) T.g_is_most T.F_is_most.kp T.b_is_most (dr_cons (dv 2) (dr_cons (dv 1) (dr_nil)))) (de_one (de_cmp (o_le) (de_call G_count_parts (hr.mono (by omega)) (by rfl) T.g_count_parts T.F_count_parts.kp T.b_count_parts (dr_cons (dv 2) (dr_nil))) (de_const (by rfl) T.m_MOST_MOST) (nomark _)))))) (da_nil))))))
def t_are_functions_1 (sp_is_head : FSpec) (sp_is_body : FSpec) (sp_count_parts : FSpec) (sp_deepness : FSpec) : TD := qCall sp_is_head 2 (rCons (qVar 6) (rCons (qVar 1) (rNil)))
def t_are_functions_2 (sp_is_head : FSpec) (sp_is_body : FSpec) (sp_count_parts : FSpec) (sp_deepness : FSpec) : TD := qOp ixD (qVar 6) (qC (.int 0))
def t_are_functions_3 (sp_is_head : FSpec) (sp_is_body : FSpec) (sp_count_parts : FSpec) (sp_deepness : FSpec) : TD := qCl (n1 lenD) (qCons (qOp ixD (qVar 6) (qC (.int 1))) (qNil))
def t_are_functions_4 (sp_is_head : FSpec) (sp_is_body : FSpec) (sp_count_parts : FSpec) (sp_deepness : FSpec) : TDS := sIf (qOr (qNot (qTest (qCall sp_is_body 4 (rCons (qVar 5) (rCons (qVar 2) (rCons (qCl (n1 lenD) (qCons (qVar 4) (qNil))) (rCons (qC (.int 0)) (rNil)))))))) (qOr (qTest (qOp (i2 fun i j Q => Q (.bl (decide (j < i)))) (qCall sp_count_parts 1 (rCons (qVar 5) (rNil))) (qC c_MOST_PARTS))) (qTest (qOp (i2 fun i j Q => Q (.bl (decide (j < i)))) (qCall sp_deepness 1 (rCons (qVar 5) (rNil))) (qC c_MOST_DEEP))))) (sRet (qC (.bl false))) (sNext)
abbrev K_are_functions (P : Program) (w : World) (base : Heap) (T : Txt K w mg) (k : Nat) (sp : FSpec) : Prop := FnOk P w K mg base CX0 k T.f_are_functions T.d_are_functions ["thing", "needs"] (spD K 2 sp)
def t_are_functions (sp_is_head : FSpec) (sp_is_body : FSpec) (sp_count_parts : FSpec) (sp_deepness : FSpec) : TDS := sSeq (sIf (qOr (qNot (qTest (qCl (isiD .tup) (qCons (qVar 0) (qCons (qC (.atm (.ty "tuple"))) qNil))))) (qNot (qTest (qChain (i2 fun i j Q => Q (.bl (decide (i ≤ j)))) (i2 fun i j Q => Q (.bl (decide (i ≤ j)))) (qC (.int 1)) (qCl (n1 lenD) (qCons (qVar 0) (qNil))) (qC c_MOST_FUNCTIONS))))) (sRet (qC (.bl false))) (sNext)) (sSeq (sIf (qOr (qNot (qTest (qCl onL_all (qCons (qFz (fComp (qIter (qVar 0)) (gN 6) (qYes) ((t_are_functions_1 sp_is_head sp_is_body sp_count_parts sp_deepness)) [6])) (qNil))))) (qTest (qOp neD (qLenSet (qFz (fComp (qIter (qVar 0)) (gN 6) (qYes) ((t_are_functions_2 sp_is_head sp_is_body sp_count_parts sp_deepness)) [6]))) (qCl (n1 lenD) (qCons (qVar 0) (qNil)))))) (sRet (qC (.bl false))) (sNext)) (sSeq (sAsg (qTup (qCons (qVar 1) (qCons (qFz (fComp (qIter (qVar 0)) (gN 6) (qYes) ((t_are_functions_3 sp_is_head sp_is_body sp_count_parts sp_deepness)) [6])) (qNil)))) (gN 2)) (sSeq (sFor (qIter (qVar 0)) (gTupD 3 (gConsD (gN 3) (gConsD (gN 4) (gConsD (gN 5) (gNilD))))) ((t_are_functions_4 sp_is_head sp_is_body sp_count_parts sp_deepness))) (sRet (qC (.bl true))))))
set_option maxHeartbeats 4000000 in
theorem d_are_functions (T : Txt K w mg) {k : Nat} {k_is_head : Nat} {sp_is_head : FSpec} (G_is_head : FnOk P w K mg base CX0 k_is_head T.f_is_head T.d_is_head ["thing", "needs"] (spD K 2 sp_is_head)) (h_is_head : k_is_head ≤ k) {k_is_body : Nat} {sp_is_body : FSpec} (G_is_body : FnOk P w K mg base CX0 k_is_body T.f_is_body T.d_is_body ["thing", "house", "own", "turns"] (spD K 4 sp_is_body)) (h_is_body : k_is_body ≤ k) {k_count_parts : Nat} {sp_count_parts : FSpec} (G_count_parts : FnOk P w K mg base CX0 k_count_parts T.f_count_parts T.d_count_parts ["thing"] (spD K 1 sp_count_parts)) (h_count_parts : k_count_parts ≤ k) {k_deepness : Nat} {sp_deepness : FSpec} (G_deepness : FnOk P w K mg base CX0 k_deepness T.f_deepness T.d_deepness ["thing"] (spD K 1 sp_deepness)) (h_deepness : k_deepness ≤ k) {cdv : Value} {A : Around} {outer : List Env} {s : Shared} {H : Hp} {E : XK} {B : Bd} (hr : Room k (A.deeper (envOfC "are_functions" (defScope s_are_functions) s.heap.objs.size T.f_are_functions cdv))) :
    DSs (cxOf CX0 P w K mg base N_are_functions "are_functions" (defScope s_are_functions) T.f_are_functions cdv A outer s H E).nox B (defBody s_are_functions) (t_are_functions sp_is_head sp_is_body sp_count_parts sp_deepness) :=
  dss_cons (ds_if (DW.dt (dw_or (dt_not (dt_val (de_callB (c_isi .tup) (by rfl) T.z_isinstance (by decide +kernel) (da_cons (dv 0) (da_cons (de_bty (by rfl) T.z_tuple (by decide +kernel)) da_nil))))) (dw_or1 (dt_not (dt_chain (o_le) (o_le) (de_int) (de_callB (c_len) (by rfl) T.z_len (by decide +kernel) (da_cons (dv 0) (da_nil))) (de_const (by rfl) T.m_MOST_FUNCTIONS)))))) (dss_one (ds_ret (de_bl))) (dss_nil)) (dss_cons (ds_if (DW.dt (dw_or (dt_not (dt_val (de_callB (c_all rfl) (by rfl) T.z_all (by decide +kernel) (da_cons (DF.de (df_comp (own := [("one", 6)]) rfl sc_are_functions.nd (di_any (dv 0)) (blkOk_by (own := [("one", 6)]) (N := N_are_functions) (sc := defScope s_are_functions) (by decide +kernel)) (fun _ _ _ _ _ _ => dg_name (i := 6) sc_are_functions.nd) (fun _ _ _ _ _ _ => dts_nil) (fun _ _ _ _ _ _ => de_call G_is_head (hr.mono (by omega)) (by rfl) T.g_is_head T.F_is_head.kp T.b_is_head (dr_cons (dv 6) (dr_cons (dv 1) (dr_nil)))))) (da_nil))))) (dw_or1 (dt_cmp (o_ne hr.units) (de_lenSet rfl (by rfl) T.z_len (by rfl) T.z_set (DF.de (df_comp (own := [("one", 6)]) rfl sc_are_functions.nd (di_any (dv 0)) (blkOk_by (own := [("one", 6)]) (N := N_are_functions) (sc := defScope s_are_functions) (by decide +kernel)) (fun _ _ _ _ _ _ => dg_name (i := 6) sc_are_functions.nd) (fun _ _ _ _ _ _ => dts_nil) (fun _ _ _ _ _ _ => de_ix (o_ix (hu_of hr)) (dv 6) (de_int))))) (de_callB (c_len) (by rfl) T.z_len (by decide +kernel) (da_cons (dv 0) (da_nil))) (nomark _))))) (dss_one (ds_ret (de_bl))) (dss_nil)) (dss_cons (ds_set (i := 2) sc_are_functions.nd (de_tup (da_cons (dv 1) (da_cons (DF.de (df_comp (own := [("one", 6)]) rfl sc_are_functions.nd (di_any (dv 0)) (blkOk_by (own := [("one", 6)]) (N := N_are_functions) (sc := defScope s_are_functions) (by decide +kernel)) (fun _ _ _ _ _ _ => dg_name (i := 6) sc_are_functions.nd) (fun _ _ _ _ _ _ => dts_nil) (fun _ _ _ _ _ _ => de_callB (c_len) (by rfl) T.z_len (by decide +kernel) (da_cons (de_ix (o_ix (hu_of hr)) (dv 6) (de_int)) (da_nil))))) (da_nil))))) (dss_cons (ds_for PassesOwn.never rfl (di_any (dv 0)) (dg_tup rfl (dgs_cons (dg_name (i := 3) sc_are_functions.nd) (dgs_cons (dg_name (i := 4) sc_are_functions.nd) (dgs_cons (dg_name (i := 5) sc_are_functions.nd) (dgs_nil))))) (dss_one (ds_if (DW.dt (dw_or (dt_not (dt_val (de_call G_is_body (hr.mono (by omega)) (by rfl) T.g_is_body T.F_is_body.kp T.b_is_body (dr_cons (dv 5) (dr_cons (dv 2) (dr_cons (de_callB (c_len) (by rfl) T.z_len (by decide +kernel) (da_cons (dv 4) (da_nil))) (dr_cons (de_int) (dr_nil)))))))) (dw_or (dt_cmp (o_gt) (de_call G_count_parts (hr.mono (by omega)) (by rfl) T.g_count_parts T.F_count_parts.kp T.b_count_parts (dr_cons (dv 5) (dr_nil))) (de_const (by rfl) T.m_MOST_PARTS) (nomark _)) (dw_or1 (dt_cmp (o_gt) (de_call G_deepness (hr.mono (by omega)) (by rfl) T.g_deepness T.F_deepness.kp T.b_deepness (dr_cons (dv 5) (dr_nil))) (de_const (by rfl) T.m_MOST_DEEP) (nomark _)))))) (dss_one (ds_ret (de_bl))) (dss_nil)))) (dss_one (ds_ret (de_bl))))))
abbrev K_program_of (P : Program) (w : World) (base : Heap) (T : Txt K w mg) (k : Nat) (sp : FSpec) : Prop := FnOk P w K mg base CX0 k T.f_program_of T.d_program_of ["needs", "functions"] (spD K 2 sp)
def t_program_of (sp_are_needs : FSpec) (sp_are_functions : FSpec) : TDS := sSeq (sIf (qOr (qNot (qTest (qCall sp_are_needs 1 (rCons (qVar 0) (rNil))))) (qNot (qTest (qCall sp_are_functions 2 (rCons (qVar 1) (rCons (qVar 0) (rNil))))))) (sNever) (sNext)) (sRet (qTup (qCons (qVar 0) (qCons (qVar 1) (qNil)))))
set_option maxHeartbeats 4000000 in
theorem d_program_of (T : Txt K w mg) {k : Nat} {k_are_needs : Nat} {sp_are_needs : FSpec} (G_are_needs : FnOk P w K mg base CX0 k_are_needs T.f_are_needs T.d_are_needs ["thing"] (spD K 1 sp_are_needs)) (h_are_needs : k_are_needs ≤ k) {k_are_functions : Nat} {sp_are_functions : FSpec} (G_are_functions : FnOk P w K mg base CX0 k_are_functions T.f_are_functions T.d_are_functions ["thing", "needs"] (spD K 2 sp_are_functions)) (h_are_functions : k_are_functions ≤ k) {cdv : Value} {A : Around} {outer : List Env} {s : Shared} {H : Hp} {E : XK} {B : Bd} (hr : Room k (A.deeper (envOfC "program_of" (defScope s_program_of) s.heap.objs.size T.f_program_of cdv))) :
    DSs (cxOf CX0 P w K mg base N_program_of "program_of" (defScope s_program_of) T.f_program_of cdv A outer s H E).nox B (defBody s_program_of) (t_program_of sp_are_needs sp_are_functions) :=
  dss_cons (ds_if (DW.dt (dw_or (dt_not (dt_val (de_call G_are_needs (hr.mono (by omega)) (by rfl) T.g_are_needs T.F_are_needs.kp T.b_are_needs (dr_cons (dv 0) (dr_nil))))) (dw_or1 (dt_not (dt_val (de_call G_are_functions (hr.mono (by omega)) (by rfl) T.g_are_functions T.F_are_functions.kp T.b_are_functions (dr_cons (dv 1) (dr_cons (dv 0) (dr_nil))))))))) (dss_one (ds_never)) (dss_nil)) (dss_one (ds_ret (de_tup (da_cons (dv 0) (da_cons (dv 1) (da_nil))))))
def t_is_tree_1 (sp_is_whole : FSpec) : TD := qAndV (qCall sp_is_whole 1 (rCons (qVar 2) (rNil))) (qChain (i2 fun i j Q => Q (.bl (decide (i ≤ j)))) (i2 fun i j Q => Q (.bl (decide (i ≤ j)))) (qC (.int 0)) (qVar 2) (qVar 1))
abbrev K_is_tree (P : Program) (w : World) (base : Heap) (T : Txt K w mg) (k : Nat) (sp : FSpec) : Prop := FnOk P w K mg base CX0 k T.f_is_tree T.d_is_tree ["thing"] (spD K 1 sp)
def t_is_tree (sp_is_whole : FSpec) : TDS := sSeq (sIf (qOr (qNot (qTest (qCl (isiD .tup) (qCons (qVar 0) (qCons (qC (.atm (.ty "tuple"))) qNil))))) (qTest (qOp (i2 fun i j Q => Q (.bl (decide (j ≤ i)))) (qCl (n1 lenD) (qCons (qVar 0) (qNil))) (qC c_MOST_SIZE)))) (sRet (qC (.bl false))) (sNext)) (sRet (qCl onL_all (qCons (qFz (fComp (qEnum (qCons (qVar 0) (qNil))) (gTupD 2 (gConsD (gN 1) (gConsD (gN 2) (gNilD)))) (qYes) ((t_is_tree_1 sp_is_whole)) [1, 2])) (qNil))))
set_option maxHeartbeats 4000000 in
theorem d_is_tree (T : Txt K w mg) {k : Nat} {k_is_whole : Nat} {sp_is_whole : FSpec} (G_is_whole : FnOk P w K mg base CX0 k_is_whole T.f_is_whole T.d_is_whole ["thing"] (spD K 1 sp_is_whole)) (h_is_whole : k_is_whole ≤ k) {cdv : Value} {A : Around} {outer : List Env} {s : Shared} {H : Hp} {E : XK} {B : Bd} (hr : Room k (A.deeper (envOfC "is_tree" (defScope s_is_tree) s.heap.objs.size T.f_is_tree cdv))) :
    DSs (cxOf CX0 P w K mg base N_is_tree "is_tree" (defScope s_is_tree) T.f_is_tree cdv A outer s H E).nox B (defBody s_is_tree) (t_is_tree sp_is_whole) :=
  dss_cons (ds_if (DW.dt (dw_or (dt_not (dt_val (de_callB (c_isi .tup) (by rfl) T.z_isinstance (by decide +kernel) (da_cons (dv 0) (da_cons (de_bty (by rfl) T.z_tuple (by decide +kernel)) da_nil))))) (dw_or1 (dt_cmp (o_ge) (de_callB (c_len) (by rfl) T.z_len (by decide +kernel) (da_cons (dv 0) (da_nil))) (de_const (by rfl) T.m_MOST_SIZE) (nomark _))))) (dss_one (ds_ret (de_bl))) (dss_nil)) (dss_one (ds_ret (de_callB (c_all rfl) (by rfl) T.z_all (by decide +kernel) (da_cons (DF.de (df_comp (own := [("k", 1), ("parent", 2)]) rfl sc_is_tree.nd (di_enum (by rfl) T.z_enumerate (da_cons (dv 0) (da_nil))) (blkOk_by (own := [("k", 1), ("parent", 2)]) (N := N_is_tree) (sc := defScope s_is_tree) (by decide +kernel)) (fun _ _ _ _ _ _ => dg_tup rfl (dgs_cons (dg_name (i := 1) sc_is_tree.nd) (dgs_cons (dg_name (i := 2) sc_is_tree.nd) (dgs_nil)))) (fun _ _ _ _ _ _ => dts_nil) (fun _ _ _ _ _ _ => de_and (de_call G_is_whole (hr.mono (by omega)) (by rfl) T.g_is_whole T.F_is_whole.kp T.b_is_whole (dr_cons (dv 2) (dr_nil))) (de_one (de_chain (o_le) (o_le) (de_int) (dv 2) (dv 1)))))) (da_nil)))))
def t_is_of_1 (sp_is_whole : FSpec) (sp_is_tree : FSpec) : TD := qCall sp_is_whole 1 (rCons (qVar 3) (rNil))
def t_is_of_2 (sp_is_whole : FSpec) (sp_is_tree : FSpec) : TD := qOp inD (qVar 2) (qC c_LETTERS)
abbrev K_is_of (P : Program) (w : World) (base : Heap) (T : Txt K w mg) (k : Nat) (sp : FSpec) : Prop := FnOk P w K mg base CX0 k T.f_is_of T.d_is_of ["kind", "thing"] (spD K 2 sp)
def t_is_of (sp_is_whole : FSpec) (sp_is_tree : FSpec) : TDS := sSeq (sIf (qTest (qOp eqD (qVar 0) (qC (.str "number")))) (sRet (qCall sp_is_whole 1 (rCons (qVar 1) (rNil)))) (sNext)) (sSeq (sIf (qTest (qOp eqD (qVar 0) (qC (.str "row")))) (sRet (qAndV (qCl (isiD .lst) (qCons (qVar 1) (qCons (qC (.atm (.ty "list"))) qNil))) (qAndV (qOp (i2 fun i j Q => Q (.bl (decide (i ≤ j)))) (qCl (n1 lenD) (qCons (qVar 1) (qNil))) (qC c_MOST_SIZE)) (qCl onL_all (qCons (qFz (fComp (qIter (qVar 1)) (gN 3) (qYes) ((t_is_of_1 sp_is_whole sp_is_tree)) [3])) (qNil)))))) (sNext)) (sSeq (sIf (qTest (qOp eqD (qVar 0) (qC (.str "tree")))) (sRet (qCall sp_is_tree 1 (rCons (qVar 1) (rNil)))) (sNext)) (sRet (qAndV (qCl (isiD .str) (qCons (qVar 1) (qCons (qC (.atm (.ty "str"))) qNil))) (qAndV (qOp (i2 fun i j Q => Q (.bl (decide (i ≤ j)))) (qCl (n1 lenD) (qCons (qVar 1) (qNil))) (qC c_MOST_SIZE)) (qCl onL_all (qCons (qFz (fComp (qIter (qVar 1)) (gN 2) (qYes) ((t_is_of_2 sp_is_whole sp_is_tree)) [2])) (qNil))))))))
set_option maxHeartbeats 4000000 in
theorem d_is_of (T : Txt K w mg) {k : Nat} {k_is_whole : Nat} {sp_is_whole : FSpec} (G_is_whole : FnOk P w K mg base CX0 k_is_whole T.f_is_whole T.d_is_whole ["thing"] (spD K 1 sp_is_whole)) (h_is_whole : k_is_whole ≤ k) {k_is_tree : Nat} {sp_is_tree : FSpec} (G_is_tree : FnOk P w K mg base CX0 k_is_tree T.f_is_tree T.d_is_tree ["thing"] (spD K 1 sp_is_tree)) (h_is_tree : k_is_tree ≤ k) {cdv : Value} {A : Around} {outer : List Env} {s : Shared} {H : Hp} {E : XK} {B : Bd} (hr : Room k (A.deeper (envOfC "is_of" (defScope s_is_of) s.heap.objs.size T.f_is_of cdv))) :
    DSs (cxOf CX0 P w K mg base N_is_of "is_of" (defScope s_is_of) T.f_is_of cdv A outer s H E).nox B (defBody s_is_of) (t_is_of sp_is_whole sp_is_tree) :=
  dss_cons (ds_if (dt_cmp (o_eq hr.units) (dv 0) (de_str) (nomark _)) (dss_one (ds_ret (de_call G_is_whole (hr.mono (by omega)) (by rfl) T.g_is_whole T.F_is_whole.kp T.b_is_whole (dr_cons (dv 1) (dr_nil))))) (dss_nil)) (dss_cons (ds_if (dt_cmp (o_eq hr.units) (dv 0) (de_str) (nomark _)) (dss_one (ds_ret (de_and (de_callB (c_isi .lst) (by rfl) T.z_isinstance (by decide +kernel) (da_cons (dv 1) (da_cons (de_bty (by rfl) T.z_list (by decide +kernel)) da_nil))) (de_and (de_cmp (o_le) (de_callB (c_len) (by rfl) T.z_len (by decide +kernel) (da_cons (dv 1) (da_nil))) (de_const (by rfl) T.m_MOST_SIZE) (nomark _)) (de_one (de_callB (c_all rfl) (by rfl) T.z_all (by decide +kernel) (da_cons (DF.de (df_comp (own := [("one", 3)]) rfl sc_is_of.nd (di_any (dv 1)) (blkOk_by (own := [("one", 3)]) (N := N_is_of) (sc := defScope s_is_of) (by decide +kernel)) (fun _ _ _ _ _ _ => dg_name (i := 3) sc_is_of.nd) (fun _ _ _ _ _ _ => dts_nil) (fun _ _ _ _ _ _ => de_call G_is_whole (hr.mono (by omega)) (by rfl) T.g_is_whole T.F_is_whole.kp T.b_is_whole (dr_cons (dv 3) (dr_nil))))) (da_nil)))))))) (dss_nil)) (dss_cons (ds_if (dt_cmp (o_eq hr.units) (dv 0) (de_str) (nomark _)) (dss_one (ds_ret (de_call G_is_tree (hr.mono (by omega)) (by rfl) T.g_is_tree T.F_is_tree.kp T.b_is_tree (dr_cons (dv 1) (dr_nil))))) (dss_nil)) (dss_one (ds_ret (de_and (de_callB (c_isi .str) (by rfl) T.z_isinstance (by decide +kernel) (da_cons (dv 1) (da_cons (de_bty (by rfl) T.z_str (by decide +kernel)) da_nil))) (de_and (de_cmp (o_le) (de_callB (c_len) (by rfl) T.z_len (by decide +kernel) (da_cons (dv 1) (da_nil))) (de_const (by rfl) T.m_MOST_SIZE) (nomark _)) (de_one (de_callB (c_all rfl) (by rfl) T.z_all (by decide +kernel) (da_cons (DF.de (df_comp (own := [("sign", 2)]) rfl sc_is_of.nd (di_any (dv 1)) (blkOk_by (own := [("sign", 2)]) (N := N_is_of) (sc := defScope s_is_of) (by decide +kernel)) (fun _ _ _ _ _ _ => dg_name (i := 2) sc_is_of.nd) (fun _ _ _ _ _ _ => dts_nil) (fun _ _ _ _ _ _ => de_cmp (o_in (hu_of hr)) (dv 2) (de_const (by rfl) T.m_LETTERS) (by rfl)))) (da_nil))))))))))
abbrev K_copied (P : Program) (w : World) (base : Heap) (T : Txt K w mg) (k : Nat) (sp : FSpec) : Prop := FnOk P w K mg base CX0 k T.f_copied T.d_copied ["thing"] (spD K 1 sp)
def t_copied : TDS := sSeq (sIf (qTest (qCl (isiD .lst) (qCons (qVar 0) (qCons (qC (.atm (.ty "list"))) qNil)))) (sRet (qCl (n1 listD) (qCons (qVar 0) (qNil)))) (sNext)) (sRet (qVar 0))
set_option maxHeartbeats 4000000 in
theorem d_copied (T : Txt K w mg) {k : Nat}  {cdv : Value} {A : Around} {outer : List Env} {s : Shared} {H : Hp} {E : XK} {B : Bd} (hr : Room k (A.deeper (envOfC "copied" (defScope s_copied) s.heap.objs.size T.f_copied cdv))) :
    DSs (cxOf CX0 P w K mg base N_copied "copied" (defScope s_copied) T.f_copied cdv A outer s H E).nox B (defBody s_copied) (t_copied) :=
  dss_cons (ds_if (dt_val (de_callB (c_isi .lst) (by rfl) T.z_isinstance (by decide +kernel) (da_cons (dv 0) (da_cons (de_bty (by rfl) T.z_list (by decide +kernel)) da_nil)))) (dss_one (ds_ret (de_callTy (c_list) (by rfl) T.z_list (by decide +kernel) (da_cons (dv 0) (da_nil))))) (dss_nil)) (dss_one (ds_ret (dv 0)))
def t_given_of_1 (sp_is_of : FSpec) (sp_copied : FSpec) : TDS := sIf (qOr (qTest (qOp ninD (qVar 3) (qVar 1))) (qNot (qTest (qCall sp_is_of 2 (rCons (qVar 4) (rCons (qOp ixD (qVar 1) (qVar 3)) (rNil))))))) (sNever) (sNext)
def t_given_of_2 (sp_is_of : FSpec) (sp_copied : FSpec) : TD := qTup (qCons (qVar 3) (qCons (qCall sp_copied 1 (rCons (qOp ixD (qVar 1) (qVar 3)) (rNil))) (qNil)))
abbrev K_given_of (P : Program) (w : World) (base : Heap) (T : Txt K w mg) (k : Nat) (sp : FSpec) : Prop := FnOk P w K mg base CX0 k T.f_given_of T.d_given_of ["program", "things"] (spD K 2 sp)
def t_given_of (sp_is_of : FSpec) (sp_copied : FSpec) : TDS := sSeq (sAsg (qOp ixD (qVar 0) (qC (.int 0))) (gN 2)) (sSeq (sIf (qOr (qNot (qTest (qCl (isiD .dct) (qCons (qVar 1) (qCons (qC (.atm (.ty "dict"))) qNil))))) (qTest (qOp neD (qCl (n1 lenD) (qCons (qVar 1) (qNil))) (qCl (n1 lenD) (qCons (qVar 2) (qNil)))))) (sNever) (sNext)) (sSeq (sFor (qIter (qVar 2)) (gTupD 2 (gConsD (gN 3) (gConsD (gN 4) (gNilD)))) ((t_given_of_1 sp_is_of sp_copied))) (sRet (qCl (n1 dictPD) (qCons (qFz (fComp (qIter (qVar 2)) (gTupD 2 (gConsD (gN 3) (gConsD (gN 4) (gNilD)))) (qYes) ((t_given_of_2 sp_is_of sp_copied)) [3, 4])) (qNil))))))
set_option maxHeartbeats 4000000 in
theorem d_given_of (T : Txt K w mg) {k : Nat} {k_is_of : Nat} {sp_is_of : FSpec} (G_is_of : FnOk P w K mg base CX0 k_is_of T.f_is_of T.d_is_of ["kind", "thing"] (spD K 2 sp_is_of)) (h_is_of : k_is_of ≤ k) {k_copied : Nat} {sp_copied : FSpec} (G_copied : FnOk P w K mg base CX0 k_copied T.f_copied T.d_copied ["thing"] (spD K 1 sp_copied)) (h_copied : k_copied ≤ k) {cdv : Value} {A : Around} {outer : List Env} {s : Shared} {H : Hp} {E : XK} {B : Bd} (hr : Room k (A.deeper (envOfC "given_of" (defScope s_given_of) s.heap.objs.size T.f_given_of cdv))) :
    DSs (cxOf CX0 P w K mg base N_given_of "given_of" (defScope s_given_of) T.f_given_of cdv A outer s H E).nox B (defBody s_given_of) (t_given_of sp_is_of sp_copied) :=
  dss_cons (ds_set (i := 2) sc_given_of.nd (de_ix (o_ix (hu_of hr)) (dv 0) (de_int))) (dss_cons (ds_if (DW.dt (dw_or (dt_not (dt_val (de_callB (c_isi .dct) (by rfl) T.z_isinstance (by decide +kernel) (da_cons (dv 1) (da_cons (de_bty (by rfl) T.z_dict (by decide +kernel)) da_nil))))) (dw_or1 (dt_cmp (o_ne hr.units) (de_callB (c_len) (by rfl) T.z_len (by decide +kernel) (da_cons (dv 1) (da_nil))) (de_callB (c_len) (by rfl) T.z_len (by decide +kernel) (da_cons (dv 2) (da_nil))) (nomark _))))) (dss_one (ds_never)) (dss_nil)) (dss_cons (ds_for PassesOwn.never rfl (di_any (dv 2)) (dg_tup rfl (dgs_cons (dg_name (i := 3) sc_given_of.nd) (dgs_cons (dg_name (i := 4) sc_given_of.nd) (dgs_nil)))) (dss_one (ds_if (DW.dt (dw_or (dt_cmp (o_nin (hu_of hr)) (dv 3) (dv 1) (by rfl)) (dw_or1 (dt_not (dt_val (de_call G_is_of (hr.mono (by omega)) (by rfl) T.g_is_of T.F_is_of.kp T.b_is_of (dr_cons (dv 4) (dr_cons (de_ix (o_ix (hu_of hr)) (dv 1) (dv 3)) (dr_nil))))))))) (dss_one (ds_never)) (dss_nil)))) (dss_one (ds_ret (de_callTy (c_dictP rfl) (by rfl) T.z_dict (by decide +kernel) (da_cons (DF.de (df_comp (own := [("name", 3), ("kind", 4)]) rfl sc_given_of.nd (di_any (dv 2)) (blkOk_by (own := [("name", 3), ("kind", 4)]) (N := N_given_of) (sc := defScope s_given_of) (by decide +kernel)) (fun _ _ _ _ _ _ => dg_tup rfl (dgs_cons (dg_name (i := 3) sc_given_of.nd) (dgs_cons (dg_name (i := 4) sc_given_of.nd) (dgs_nil)))) (fun _ _ _ _ _ _ => dts_nil) (fun _ _ _ _ _ _ => de_tup (da_cons (dv 3) (da_cons (de_call G_copied (hr.mono (by omega)) (by rfl) T.g_copied T.F_copied.kp T.b_copied (dr_cons (de_ix (o_ix (hu_of hr)) (dv 1) (dv 3)) (dr_nil))) (da_nil)))))) (da_nil)))))))
abbrev K_l_at (P : Program) (w : World) (base : Heap) (T : Txt K w mg) (k : Nat) (sp : FSpec) : Prop := FnOk P w K mg base CX0 k T.f_l_at T.d_l_at ["_law_script", "_law_k"] (spD K 2 sp)
def t_l_at : TDS := sSeq (sIf (qTest (qOp (i2 fun i j Q => Q (.bl (decide (i < j)))) (qVar 1) (qCl (n1 lenD) (qCons (qVar 0) (qNil))))) (sRet (qOp ixD (qVar 0) (qVar 1))) (sNext)) (sSeq (sAsg (qC (.int 17)) (gN 2)) (sSeq (sIf (qTest (qOp (i2 fun i j Q => Q (.bl (decide (j < i)))) (qCl (n1 lenD) (qCons (qVar 0) (qNil))) (qC (.int 0)))) (sAsg (qOp (i2 fun i j Q => 0 < j ∧ Q (.int (i % j))) (qOp ixD (qVar 0) (qOp (i2 fun i j Q => 0 < j ∧ Q (.int (i % j))) (qVar 1) (qCl (n1 lenD) (qCons (qVar 0) (qNil))))) (qC (.int 2147483629))) (gN 2)) (sNext)) (sSeq (sAsg (qOp (i2 fun i j Q => 0 < j ∧ Q (.int (i % j))) (qOp addD (qOp addD (qOp mulD (qVar 2) (qC (.int 48271))) (qOp mulD (qVar 1) (qC (.int 104729)))) (qC (.int 29))) (qC (.int 2147483647))) (gN 3)) (sRet (qOp (i2 fun i j Q => 0 < j ∧ Q (.int (i % j))) (qOp mulD (qVar 3) (qOp addD (qOp addD (qOp (i2 fun i j Q => 0 < j ∧ Q (.int (i % j))) (qVar 3) (qC (.int 65521))) (qVar 1)) (qC (.int 3)))) (qC (.int 2147483629)))))))
set_option maxHeartbeats 4000000 in
theorem d_l_at (T : Txt K w mg) {k : Nat}  {cdv : Value} {A : Around} {outer : List Env} {s : Shared} {H : Hp} {E : XK} {B : Bd} (hr : Room k (A.deeper (envOfC "_law_at" (defScope s_l_at) s.heap.objs.size T.f_l_at cdv))) :
    DSs (cxOf CX0 P w K mg base N_l_at "_law_at" (defScope s_l_at) T.f_l_at cdv A outer s H E).nox B (defBody s_l_at) (t_l_at) :=
  dss_cons (ds_if (dt_cmp (o_lt) (dv 1) (de_callB (c_len) (by rfl) T.z_len (by decide +kernel) (da_cons (dv 0) (da_nil))) (nomark _)) (dss_one (ds_ret (de_ix (o_ix (hu_of hr)) (dv 0) (dv 1)))) (dss_nil)) (dss_cons (ds_set (i := 2) sc_l_at.nd (de_int)) (dss_cons (ds_if (dt_cmp (o_gt) (de_callB (c_len) (by rfl) T.z_len (by decide +kernel) (da_cons (dv 0) (da_nil))) (de_int) (nomark _)) (dss_one (ds_set (i := 2) sc_l_at.nd (de_op o_mod (de_ix (o_ix (hu_of hr)) (dv 0) (de_op o_mod (dv 1) (de_callB (c_len) (by rfl) T.z_len (by decide +kernel) (da_cons (dv 0) (da_nil))))) (de_int)))) (dss_nil)) (dss_cons (ds_set (i := 3) sc_l_at.nd (de_op o_mod (de_op o_add (de_op o_add (de_op o_mul (dv 2) (de_int)) (de_op o_mul (dv 1) (de_int))) (de_int)) (de_int))) (dss_one (ds_ret (de_op o_mod (de_op o_mul (dv 3) (de_op o_add (de_op o_add (de_op o_mod (dv 3) (de_int)) (dv 1)) (de_int))) (de_int)))))))
abbrev K_l_pen (P : Program) (w : World) (base : Heap) (T : Txt K w mg) (k : Nat) (sp : FSpecO) : Prop := FnOk P w K mg base CX0 k T.f_l_pen T.d_l_pen ["_law_script", "_law_k"] (spO K 2 sp)
def t_l_pen (sp_l_at : FSpec) : TDS := sSeq (sAsg (qCall sp_l_at 2 (rCons (qVar 0) (rCons (qVar 1) (rNil)))) (gN 2)) (sSeq (sIf (qTest (qOp (i2 fun i j Q => Q (.bl (decide (j ≤ i)))) (qVar 2) (qOp (i2 fun i j Q => CPow i j ∧ Q (.int (i ^ j.toNat))) (qC (.int 10)) (qC (.int 18))))) (sRetO (fLst (qCons (qOp (i2 fun i j Q => Q (.int (i - j))) (qVar 2) (qOp (i2 fun i j Q => CPow i j ∧ Q (.int (i ^ j.toNat))) (qC (.int 10)) (qC (.int 18)))) (qCons (qC (.int 0)) (qNil))))) (sNext)) (sRetO (fLst (qCons (qOp (i2 fun i j Q => 0 < j ∧ Q (.int (i % j))) (qVar 2) (qC (.int 2147483629))) (qCons (qC (.int 1)) (qNil))))))
set_option maxHeartbeats 4000000 in
theorem d_l_pen (T : Txt K w mg) {k : Nat} {k_l_at : Nat} {sp_l_at : FSpec} (G_l_at : FnOk P w K mg base CX0 k_l_at T.f_l_at T.d_l_at ["_law_script", "_law_k"] (spD K 2 sp_l_at)) (h_l_at : k_l_at ≤ k) {cdv : Value} {A : Around} {outer : List Env} {s : Shared} {H : Hp} {E : XK} {B : Bd} (hr : Room k (A.deeper (envOfC "_law_pen" (defScope s_l_pen) s.heap.objs.size T.f_l_pen cdv))) :
    DSs (cxOf CX0 P w K mg base N_l_pen "_law_pen" (defScope s_l_pen) T.f_l_pen cdv A outer s H E).nox B (defBody s_l_pen) (t_l_pen sp_l_at) :=
  dss_cons (ds_set (i := 2) sc_l_pen.nd (de_call G_l_at (hr.mono (by omega)) (by rfl) T.g_l_at T.F_l_at.kp T.b_l_at (dr_cons (dv 0) (dr_cons (dv 1) (dr_nil))))) (dss_cons (ds_if (dt_cmp (o_ge) (dv 2) (de_op o_pow (de_int) (de_int)) (nomark _)) (dss_one (ds_retO (df_lst (da_cons (de_op o_sub (dv 2) (de_op o_pow (de_int) (de_int))) (da_cons (de_int) (da_nil)))))) (dss_nil)) (dss_one (ds_retO (df_lst (da_cons (de_op o_mod (dv 2) (de_int)) (da_cons (de_int) (da_nil)))))))
abbrev K_l_take (P : Program) (w : World) (base : Heap) (T : Txt K w mg) (k : Nat) (sp : FSpec) : Prop := FnOk P w K mg base CX0 k T.f_l_take T.d_l_take ["_law_pen_here", "_law_size"] (spD K 2 sp)
def t_l_take : TDS := sOp 0 (sSeq (sIf (qTest (qOp eqD (qIxO 0 (qC (.int 1))) (qC (.int 0)))) (sSeq (sAsg (qOp (i2 fun i j Q => 0 < j ∧ Q (.int (i % j))) (qIxO 0 (qC (.int 0))) (qVar 1)) (gN 2)) (sSeq (sSetL 0 (qOp (i2 fun i j Q => CDv i j ∧ Q (.int (i / j))) (qIxO 0 (qC (.int 0))) (qVar 1)) (qC (.int 0))) (sRet (qVar 2)))) (sNext)) (sSeq (sSetL 0 (qOp (i2 fun i j Q => 0 < j ∧ Q (.int (i % j))) (qOp addD (qOp addD (qOp mulD (qIxO 0 (qC (.int 0))) (qC (.int 48271))) (qC (.int 12345))) (qIxO 0 (qC (.int 1)))) (qC (.int 2147483647))) (qC (.int 0))) (sSeq (sSetL 0 (qOp addD (qIxO 0 (qC (.int 1))) (qC (.int 1))) (qC (.int 1))) (sRet (qOp (i2 fun i j Q => 0 < j ∧ Q (.int (i % j))) (qOp (i2 fun i j Q => 0 < j ∧ Q (.int (i % j))) (qOp mulD (qIxO 0 (qC (.int 0))) (qOp addD (qOp (i2 fun i j Q => 0 < j ∧ Q (.int (i % j))) (qIxO 0 (qC (.int 0))) (qC (.int 65521))) (qC (.int 7)))) (qC (.int 2147483629))) (qVar 1))))))
set_option maxHeartbeats 4000000 in
theorem d_l_take (T : Txt K w mg) {k : Nat}  {cdv : Value} {A : Around} {outer : List Env} {s : Shared} {H : Hp} {E : XK} {B : Bd} (hr : Room k (A.deeper (envOfC "_law_take" (defScope s_l_take) s.heap.objs.size T.f_l_take cdv))) :
    DSs (cxOf CX0 P w K mg base N_l_take "_law_take" (defScope s_l_take) T.f_l_take cdv A outer s H E).nox B (defBody s_l_take) (t_l_take) :=
  dss_op 0 (dss_cons (ds_if (dt_cmp (o_eq hr.units) (de_ixO (i := 0) (pe_ix ix_list (pv 0) (DE.pe (de_int)) (fun _ _ => rfl))) (de_int) (nomark _)) (dss_cons (ds_set (i := 2) sc_l_take.nd (de_op o_mod (de_ixO (i := 0) (pe_ix ix_list (pv 0) (DE.pe (de_int)) (fun _ _ => rfl))) (dv 1))) (dss_cons (ds_setL (i := 0) (de_op o_fdiv (de_ixO (i := 0) (pe_ix ix_list (pv 0) (DE.pe (de_int)) (fun _ _ => rfl))) (dv 1)) (pg_sub (pv 0) (DE.pe (de_int)) set_list)) (dss_one (ds_ret (dv 2))))) (dss_nil)) (dss_cons (ds_setL (i := 0) (de_op o_mod (de_op o_add (de_op o_add (de_op o_mul (de_ixO (i := 0) (pe_ix ix_list (pv 0) (DE.pe (de_int)) (fun _ _ => rfl))) (de_int)) (de_int)) (de_ixO (i := 0) (pe_ix ix_list (pv 0) (DE.pe (de_int)) (fun _ _ => rfl)))) (de_int)) (pg_sub (pv 0) (DE.pe (de_int)) set_list)) (dss_cons (ds_setL (i := 0) (de_op o_add (de_ixO (i := 0) (pe_ix ix_list (pv 0) (DE.pe (de_int)) (fun _ _ => rfl))) (de_int)) (pg_sub (pv 0) (DE.pe (de_int)) set_list)) (dss_one (ds_ret (de_op o_mod (de_op o_mod (de_op o_mul (de_ixO (i := 0) (pe_ix ix_list (pv 0) (DE.pe (de_int)) (fun _ _ => rfl))) (de_op o_add (de_op o_mod (de_ixO (i := 0) (pe_ix ix_list (pv 0) (DE.pe (de_int)) (fun _ _ => rfl))) (de_int)) (de_int))) (de_int)) (dv 1)))))))
def t_l_names_1 (sp_l_take : FSpec) : TD := qOp addD (qOp ixD (qVar 3) (qOp (i2 fun i j Q => 0 < j ∧ Q (.int (i % j))) (qOp addD (qVar 4) (qVar 6)) (qC (.int 12)))) (qC (.str "q"))
def t_l_names_2 (sp_l_take : FSpec) : TD := qOp ixD (qVar 2) (qCall sp_l_take 2 (rSlot 0 (rCons (qC (.int 26)) (rNil))))
def t_l_names_3 (sp_l_take : FSpec) : TD := qOp addD (qOp ixD (qVar 2) (qOp (i2 fun i j Q => 0 < j ∧ Q (.int (i % j))) (qOp addD (qVar 4) (qOp mulD (qC (.int 5)) (qVar 6))) (qC (.int 26)))) (qVar 5)
abbrev K_l_names (P : Program) (w : World) (base : Heap) (T : Txt K w mg) (k : Nat) (sp : FSpec) : Prop := FnOk P w K mg base CX0 k T.f_l_names T.d_l_names ["_law_pen_here", "_law_many"] (spD K 2 sp)
def t_l_names (sp_l_take : FSpec) : TDS := sSeq (sAsg (qC (.str "abcdefghijklmnopqrstuvwxyz")) (gN 2)) (sSeq (sAsg (qLst (qCons (qC (.str "num")) (qCons (qC (.str "own")) (qCons (qC (.str "at")) (qCons (qC (.str "call")) (qCons (qC (.str "each")) (qCons (qC (.str "all")) (qCons (qC (.str "if")) (qCons (qC (.str "none")) (qCons (qC (.str "many")) (qCons (qC (.str "row")) (qCons (qC (.str "text")) (qCons (qC (.str "tree")) (qNil)))))))))))))) (gN 3)) (sSeq (sAsg (qCall sp_l_take 2 (rSlot 0 (rCons (qC (.int 26)) (rNil)))) (gN 4)) (sSeq (sIf (qTest (qOp eqD (qCall sp_l_take 2 (rSlot 0 (rCons (qC (.int 3)) (rNil)))) (qC (.int 0)))) (sRet (qFz (fComp (qRg1 (qCons (qVar 1) (qNil))) (gN 6) (qYes) ((t_l_names_1 sp_l_take)) [6]))) (sNext)) (sSeq (sAsg (qOp addD (qC (.str "q")) (qJoin (qC (.str "")) (qFz (fComp (qRg1 (qCons (qCall sp_l_take 2 (rSlot 0 (rCons (qC (.int 7)) (rNil)))) (qNil))) (gN 6) (qYes) ((t_l_names_2 sp_l_take)) [6])))) (gN 5)) (sRet (qFz (fComp (qRg1 (qCons (qVar 1) (qNil))) (gN 6) (qYes) ((t_l_names_3 sp_l_take)) [6])))))))
set_option maxHeartbeats 4000000 in
theorem d_l_names (T : Txt K w mg) {k : Nat} {k_l_take : Nat} {sp_l_take : FSpec} (G_l_take : FnOk P w K mg base CX0 k_l_take T.f_l_take T.d_l_take ["_law_pen_here", "_law_size"] (spD K 2 sp_l_take)) (h_l_take : k_l_take ≤ k) {cdv : Value} {A : Around} {outer : List Env} {s : Shared} {H : Hp} {E : XK} {B : Bd} (hr : Room k (A.deeper (envOfC "_law_names" (defScope s_l_names) s.heap.objs.size T.f_l_names cdv))) :
    DSs (cxOf CX0 P w K mg base N_l_names "_law_names" (defScope s_l_names) T.f_l_names cdv A outer s H E).nox B (defBody s_l_names) (t_l_names sp_l_take) :=
  dss_cons (ds_set (i := 2) sc_l_names.nd (de_str)) (dss_cons (ds_set (i := 3) sc_l_names.nd (de_lst (da_cons (de_str) (da_cons (de_str) (da_cons (de_str) (da_cons (de_str) (da_cons (de_str) (da_cons (de_str) (da_cons (de_str) (da_cons (de_str) (da_cons (de_str) (da_cons (de_str) (da_cons (de_str) (da_cons (de_str) (da_nil))))))))))))))) (dss_cons (ds_set (i := 4) sc_l_names.nd (de_call G_l_take (hr.mono (by omega)) (by rfl) T.g_l_take T.F_l_take.kp T.b_l_take (dr_slot (i := 0) (pv 0) (dr_cons (de_int) (dr_nil))))) (dss_cons (ds_if (dt_cmp (o_eq hr.units) (de_call G_l_take (hr.mono (by omega)) (by rfl) T.g_l_take T.F_l_take.kp T.b_l_take (dr_slot (i := 0) (pv 0) (dr_cons (de_int) (dr_nil)))) (de_int) (nomark _)) (dss_one (ds_ret (DF.de (df_comp (own := [("_law_k", 6)]) rfl sc_l_names.nd (di_range1 (by rfl) T.z_range (da_cons (dv 1) (da_nil))) (blkOk_by (own := [("_law_k", 6)]) (N := N_l_names) (sc := defScope s_l_names) (by decide +kernel)) (fun _ _ _ _ _ _ => dg_name (i := 6) sc_l_names.nd) (fun _ _ _ _ _ _ => dts_nil) (fun _ _ _ _ _ _ => de_op o_add (de_ix (o_ix (hu_of hr)) (dv 3) (de_op o_mod (de_op o_add (dv 4) (dv 6)) (de_int))) (de_str)))))) (dss_nil)) (dss_cons (ds_set (i := 5) sc_l_names.nd (de_op o_add (de_str) (de_join (de_str) (DF.de (df_comp (own := [("_law_k", 6)]) rfl sc_l_names.nd (di_range1 (by rfl) T.z_range (da_cons (de_call G_l_take (hr.mono (by omega)) (by rfl) T.g_l_take T.F_l_take.kp T.b_l_take (dr_slot (i := 0) (pv 0) (dr_cons (de_int) (dr_nil)))) (da_nil))) (blkOk_by (own := [("_law_k", 6)]) (N := N_l_names) (sc := defScope s_l_names) (by decide +kernel)) (fun _ _ _ _ _ _ => dg_name (i := 6) sc_l_names.nd) (fun _ _ _ _ _ _ => dts_nil) (fun _ _ _ _ _ _ => de_ix (o_ix (hu_of hr)) (dv 2) (de_call G_l_take (hr.mono (by omega)) (by rfl) T.g_l_take T.F_l_take.kp T.b_l_take (dr_slot (i := 0) (pv 0) (dr_cons (de_int) (dr_nil)))))))))) (dss_one (ds_ret (DF.de (df_comp (own := [("_law_k", 6)]) rfl sc_l_names.nd (di_range1 (by rfl) T.z_range (da_cons (dv 1) (da_nil))) (blkOk_by (own := [("_law_k", 6)]) (N := N_l_names) (sc := defScope s_l_names) (by decide +kernel)) (fun _ _ _ _ _ _ => dg_name (i := 6) sc_l_names.nd) (fun _ _ _ _ _ _ => dts_nil) (fun _ _ _ _ _ _ => de_op o_add (de_ix (o_ix (hu_of hr)) (dv 2) (de_op o_mod (de_op o_add (dv 4) (de_op o_mul (de_int) (dv 6))) (de_int))) (dv 5))))))))))
def t_l_things_1 (sp_l_take : FSpec) : TD := qOp (i2 fun i j Q => Q (.int (i - j))) (qCall sp_l_take 2 (rSlot 0 (rCons (qC (.int 10)) (rNil)))) (qC (.int 3))
def t_l_things_2 (sp_l_take : FSpec) : TD := qOp ixD (qVar 2) (qCall sp_l_take 2 (rSlot 0 (rCons (qC (.int 26)) (rNil))))
def t_l_things_3 (sp_l_take : FSpec) : TD := qCall sp_l_take 2 (rSlot 0 (rCons (qOp addD (qVar 7) (qC (.int 1))) (rNil)))
abbrev K_l_things (P : Program) (w : World) (base : Heap) (T : Txt K w mg) (k : Nat) (sp : FSpec) : Prop := FnOk P w K mg base CX0 k T.f_l_things T.d_l_things ["_law_pen_here", "_law_names_here"] (spD K 2 sp)
def t_l_things (sp_l_take : FSpec) : TDS := sSeq (sAsg (qC (.str "abcdefghijklmnopqrstuvwxyz")) (gN 2)) (sSeq (sAsg (qOp ixD (qLst (qCons (qCall sp_l_take 2 (rSlot 0 (rCons (qC (.int 5)) (rNil)))) (qCons (qOp addD (qOp (i2 fun i j Q => CPow i j ∧ Q (.int (i ^ j.toNat))) (qC (.int 10)) (qC (.int 29))) (qCall sp_l_take 2 (rSlot 0 (rCons (qC (.int 9)) (rNil))))) (qNil)))) (qOp (i2 fun i j Q => CDv i j ∧ Q (.int (i / j))) (qCall sp_l_take 2 (rSlot 0 (rCons (qC (.int 6)) (rNil)))) (qC (.int 5)))) (gN 3)) (sSeq (sFzAt 4 (sOwn 4 (fComp (qRg1 (qCons (qCall sp_l_take 2 (rSlot 0 (rCons (qC (.int 6)) (rNil)))) (qNil))) (gN 7) (qYes) ((t_l_things_1 sp_l_take)) [7]))) (sSeq (sAsg (qJoin (qC (.str "")) (qFz (fComp (qRg1 (qCons (qCall sp_l_take 2 (rSlot 0 (rCons (qC (.int 6)) (rNil)))) (qNil))) (gN 7) (qYes) ((t_l_things_2 sp_l_take)) [7]))) (gN 5)) (sSeq (sAsg (qCl (n1 tupleD) (qCons (qFz (fComp (qRg1 (qCons (qCall sp_l_take 2 (rSlot 0 (rCons (qC (.int 6)) (rNil)))) (qNil))) (gN 7) (qYes) ((t_l_things_3 sp_l_take)) [7])) (qNil))) (gN 6)) (sRet (qFz (fDisp (((qOp ixD (qVar 1) (qC (.int 0))), (qVar 3)) :: ((qOp ixD (qVar 1) (qC (.int 1))), (qVar 4)) :: ((qOp ixD (qVar 1) (qC (.int 2))), (qVar 5)) :: ((qOp ixD (qVar 1) (qC (.int 3))), (qVar 6)) :: []))))))))
set_option maxHeartbeats 4000000 in
theorem d_l_things (T : Txt K w mg) {k : Nat} {k_l_take : Nat} {sp_l_take : FSpec} (G_l_take : FnOk P w K mg base CX0 k_l_take T.f_l_take T.d_l_take ["_law_pen_here", "_law_size"] (spD K 2 sp_l_take)) (h_l_take : k_l_take ≤ k) {cdv : Value} {A : Around} {outer : List Env} {s : Shared} {H : Hp} {E : XK} {B : Bd} (hr : Room k (A.deeper (envOfC "_law_things" (defScope s_l_things) s.heap.objs.size T.f_l_things cdv))) :
    DSs (cxOf CX0 P w K mg base N_l_things "_law_things" (defScope s_l_things) T.f_l_things cdv A outer s H E).nox B (defBody s_l_things) (t_l_things sp_l_take) :=
  dss_cons (ds_set (i := 2) sc_l_things.nd (de_str)) (dss_cons (ds_set (i := 3) sc_l_things.nd (de_ix (o_ix (hu_of hr)) (de_lst (da_cons (de_call G_l_take (hr.mono (by omega)) (by rfl) T.g_l_take T.F_l_take.kp T.b_l_take (dr_slot (i := 0) (pv 0) (dr_cons (de_int) (dr_nil)))) (da_cons (de_op o_add (de_op o_pow (de_int) (de_int)) (de_call G_l_take (hr.mono (by omega)) (by rfl) T.g_l_take T.F_l_take.kp T.b_l_take (dr_slot (i := 0) (pv 0) (dr_cons (de_int) (dr_nil))))) (da_nil)))) (de_op o_fdiv (de_call G_l_take (hr.mono (by omega)) (by rfl) T.g_l_take T.F_l_take.kp T.b_l_take (dr_slot (i := 0) (pv 0) (dr_cons (de_int) (dr_nil)))) (de_int)))) (dss_cons (ds_keep 4 (ds_ownLc (i := 4) (own := [("_law_k", 7)]) rfl sc_l_things.nd (di_range1 (by rfl) T.z_range (da_cons (de_call G_l_take (hr.mono (by omega)) (by rfl) T.g_l_take T.F_l_take.kp T.b_l_take (dr_slot (i := 0) (pv 0) (dr_cons (de_int) (dr_nil)))) (da_nil))) (blkOk_by (own := [("_law_k", 7)]) (N := N_l_things) (sc := defScope s_l_things) (by decide +kernel)) (fun _ _ _ _ _ _ => dg_name (i := 7) sc_l_things.nd) (fun _ _ _ _ _ _ => dts_nil) (fun _ _ _ _ _ _ => de_op o_sub (de_call G_l_take (hr.mono (by omega)) (by rfl) T.g_l_take T.F_l_take.kp T.b_l_take (dr_slot (i := 0) (pv 0) (dr_cons (de_int) (dr_nil)))) (de_int)) (sw_true rfl rfl rfl (by decide +kernel)))) (dss_cons (ds_set (i := 5) sc_l_things.nd (de_join (de_str) (DF.de (df_comp (own := [("_law_k", 7)]) rfl sc_l_things.nd (di_range1 (by rfl) T.z_range (da_cons (de_call G_l_take (hr.mono (by omega)) (by rfl) T.g_l_take T.F_l_take.kp T.b_l_take (dr_slot (i := 0) (pv 0) (dr_cons (de_int) (dr_nil)))) (da_nil))) (blkOk_by (own := [("_law_k", 7)]) (N := N_l_things) (sc := defScope s_l_things) (by decide +kernel)) (fun _ _ _ _ _ _ => dg_name (i := 7) sc_l_things.nd) (fun _ _ _ _ _ _ => dts_nil) (fun _ _ _ _ _ _ => de_ix (o_ix (hu_of hr)) (dv 2) (de_call G_l_take (hr.mono (by omega)) (by rfl) T.g_l_take T.F_l_take.kp T.b_l_take (dr_slot (i := 0) (pv 0) (dr_cons (de_int) (dr_nil))))))))) (dss_cons (ds_set (i := 6) sc_l_things.nd (de_callTy (c_tuple) (by rfl) T.z_tuple (by decide +kernel) (da_cons (DF.de (df_comp (own := [("_law_k", 7)]) rfl sc_l_things.nd (di_range1 (by rfl) T.z_range (da_cons (de_call G_l_take (hr.mono (by omega)) (by rfl) T.g_l_take T.F_l_take.kp T.b_l_take (dr_slot (i := 0) (pv 0) (dr_cons (de_int) (dr_nil)))) (da_nil))) (blkOk_by (own := [("_law_k", 7)]) (N := N_l_things) (sc := defScope s_l_things) (by decide +kernel)) (fun _ _ _ _ _ _ => dg_name (i := 7) sc_l_things.nd) (fun _ _ _ _ _ _ => dts_nil) (fun _ _ _ _ _ _ => de_call G_l_take (hr.mono (by omega)) (by rfl) T.g_l_take T.F_l_take.kp T.b_l_take (dr_slot (i := 0) (pv 0) (dr_cons (de_op o_add (dv 7) (de_int)) (dr_nil)))))) (da_nil)))) (dss_one (ds_ret (DF.de (df_disp (dps_cons (fun _ => de_ix (o_ix (hu_of hr)) (dv 1) (de_int)) (fun _ => dv 3) (dps_cons (fun _ => de_ix (o_ix (hu_of hr)) (dv 1) (de_int)) (fun _ => dv 4) (dps_cons (fun _ => de_ix (o_ix (hu_of hr)) (dv 1) (de_int)) (fun _ => dv 5) (dps_cons (fun _ => de_ix (o_ix (hu_of hr)) (dv 1) (de_int)) (fun _ => dv 6) (dps_nil)))))))))))))
abbrev K_l_less (P : Program) (w : World) (base : Heap) (T : Txt K w mg) (k : Nat) (sp : FSpec) : Prop := FnOk P w K mg base CX0 k T.f_l_less T.d_l_less ["_law_k", "_law_n"] (spD K 2 sp)
def t_l_less : TDS := sRet (qTup (qCons (qC (.str "less")) (qCons (qTup (qCons (qC (.str "own")) (qCons (qVar 0) (qNil)))) (qCons (qTup (qCons (qC (.str "num")) (qCons (qVar 1) (qNil)))) (qNil)))))
set_option maxHeartbeats 4000000 in
theorem d_l_less (T : Txt K w mg) {k : Nat}  {cdv : Value} {A : Around} {outer : List Env} {s : Shared} {H : Hp} {E : XK} {B : Bd} (hr : Room k (A.deeper (envOfC "_law_less" (defScope s_l_less) s.heap.objs.size T.f_l_less cdv))) :
    DSs (cxOf CX0 P w K mg base N_l_less "_law_less" (defScope s_l_less) T.f_l_less cdv A outer s H E).nox B (defBody s_l_less) (t_l_less) :=
  dss_one (ds_ret (de_tup (da_cons (de_str) (da_cons (de_tup (da_cons (de_str) (da_cons (dv 0) (da_nil)))) (da_cons (de_tup (da_cons (de_str) (da_cons (dv 1) (da_nil)))) (da_nil))))))
def t_l_counted_1 (sp_l_take : FSpec) (sp_l_less : FSpec) : TDS := sSeq (sAsg (qTup (qCons (qC (.str "call")) (qCons (qC (.int 0)) (qCons (qTup (qCons (qCall sp_l_less 2 (rCons (qC (.int 0)) (rCons (qOp addD (qC (.int 1)) (qCall sp_l_take 2 (rSlot 0 (rCons (qC (.int 3)) (rNil))))) (rNil)))) (qNil))) (qNil))))) (gN 9)) (sApp 3 (qTup (qCons (qC (.str "both")) (qCons (qVar 9) (qCons (qTup (qCons (qC (.str "gain")) (qCons (qTup (qCons (qC (.str "num")) (qCons (qOp (i2 fun i j Q => Q (.int (i - j))) (qCall sp_l_take 2 (rSlot 0 (rCons (qC (.int 4)) (rNil)))) (qC (.int 1))) (qNil)))) (qNil)))) (qNil))))))
abbrev K_l_counted (P : Program) (w : World) (base : Heap) (T : Txt K w mg) (k : Nat) (sp : FSpec) : Prop := FnOk P w K mg base CX0 k T.f_l_counted T.d_l_counted ["_law_pen_here", "_law_names_here", "_law_things_here"] (spD K 3 sp)
def t_l_counted (sp_l_take : FSpec) (sp_l_less : FSpec) : TDS := sSeq (sAsg (qOp ixD (qLst (qCons (qTup (qCons (qTup (qCons (qC (.str "num")) (qCons (qC (.int 5)) (qNil)))) (qCons (qC (.int 5)) (qNil)))) (qCons (qTup (qCons (qTup (qCons (qC (.str "size")) (qCons (qOp ixD (qVar 1) (qC (.int 1))) (qNil)))) (qCons (qCl (n1 lenD) (qCons (qOp ixD (qVar 2) (qOp ixD (qVar 1) (qC (.int 1)))) (qNil))) (qNil)))) (qNil)))) (qCall sp_l_take 2 (rSlot 0 (rCons (qC (.int 2)) (rNil))))) (gTupD 2 (gConsD (gN 7) (gConsD (gN 8) (gNilD))))) (sSeq (sOwn 3 (fLst (qNil))) (sSeq (sFor (qRg1 (qCons (qOp addD (qC (.int 1)) (qCall sp_l_take 2 (rSlot 0 (rCons (qC (.int 3)) (rNil))))) (qNil))) (gN 4) ((t_l_counted_1 sp_l_take sp_l_less))) (sSeq (sAsg (qOp ixD (qLst (qCons (qTup (qCons (qC (.str "gain")) (qCons (qTup (qCons (qC (.str "own")) (qCons (qC (.int 0)) (qNil)))) (qNil)))) (qCons (qTup (qCons (qC (.str "gain")) (qCons (qTup (qCons (qC (.str "num")) (qCons (qC (.int 1)) (qNil)))) (qNil)))) (qCons (qTup (qCons (qC (.str "none")) (qNil))) (qNil))))) (qCall sp_l_take 2 (rSlot 0 (rCons (qC (.int 3)) (rNil))))) (gN 5)) (sFz 3 (sSeq (sAsg (qTup (qCons (qC (.str "if")) (qCons (qTup (qCons (qC (.str "below")) (qCons (qTup (qCons (qC (.str "own")) (qCons (qC (.int 0)) (qNil)))) (qCons (qTup (qCons (qC (.str "num")) (qCons (qOp addD (qC (.int 1)) (qCall sp_l_take 2 (rSlot 0 (rCons (qC (.int 3)) (rNil))))) (qNil)))) (qNil))))) (qCons (qVar 5) (qCons (qTup (qCons (qC (.str "choose")) (qCons (qCl (n1 tupleD) (qCons (qVar 3) (qNil))) (qNil)))) (qNil)))))) (gN 6)) (sRet (qLst (qCons (qTup (qCons (qTup (qCons (qVar 7) (qNil))) (qCons (qVar 6) (qCons (qTup (qCons (qVar 8) (qNil))) (qNil))))) (qNil)))))))))
set_option maxHeartbeats 4000000 in
theorem d_l_counted (T : Txt K w mg) {k : Nat} {k_l_take : Nat} {sp_l_take : FSpec} (G_l_take : FnOk P w K mg base CX0 k_l_take T.f_l_take T.d_l_take ["_law_pen_here", "_law_size"] (spD K 2 sp_l_take)) (h_l_take : k_l_take ≤ k) {k_l_less : Nat} {sp_l_less : FSpec} (G_l_less : FnOk P w K mg base CX0 k_l_less T.f_l_less T.d_l_less ["_law_k", "_law_n"] (spD K 2 sp_l_less)) (h_l_less : k_l_less ≤ k) {cdv : Value} {A : Around} {outer : List Env} {s : Shared} {H : Hp} {E : XK} {B : Bd} (hr : Room k (A.deeper (envOfC "_law_counted" (defScope s_l_counted) s.heap.objs.size T.f_l_counted cdv))) :
    DSs (cxOf CX0 P w K mg base N_l_counted "_law_counted" (defScope s_l_counted) T.f_l_counted cdv A outer s H E).nox B (defBody s_l_counted) (t_l_counted sp_l_take sp_l_less) :=
  dss_cons (ds_asg (de_ix (o_ix (hu_of hr)) (de_lst (da_cons (de_tup (da_cons (de_tup (da_cons (de_str) (da_cons (de_int) (da_nil)))) (da_cons (de_int) (da_nil)))) (da_cons (de_tup (da_cons (de_tup (da_cons (de_str) (da_cons (de_ix (o_ix (hu_of hr)) (dv 1) (de_int)) (da_nil)))) (da_cons (de_callB (c_len) (by rfl) T.z_len (by decide +kernel) (da_cons (de_ix (o_ix (hu_of hr)) (dv 2) (de_ix (o_ix (hu_of hr)) (dv 1) (de_int))) (da_nil))) (da_nil)))) (da_nil)))) (de_call G_l_take (hr.mono (by omega)) (by rfl) T.g_l_take T.F_l_take.kp T.b_l_take (dr_slot (i := 0) (pv 0) (dr_cons (de_int) (dr_nil))))) (dg_tup rfl (dgs_cons (dg_name (i := 7) sc_l_counted.nd) (dgs_cons (dg_name (i := 8) sc_l_counted.nd) (dgs_nil))))) (dss_cons (ds_own (i := 3) sc_l_counted.nd (df_lst (da_nil))) (dss_cons (ds_for PassesOwn.never rfl (di_range1 (by rfl) T.z_range (da_cons (de_op o_add (de_int) (de_call G_l_take (hr.mono (by omega)) (by rfl) T.g_l_take T.F_l_take.kp T.b_l_take (dr_slot (i := 0) (pv 0) (dr_cons (de_int) (dr_nil))))) (da_nil))) (dg_name (i := 4) sc_l_counted.nd) (dss_cons (ds_set (i := 9) sc_l_counted.nd (de_tup (da_cons (de_str) (da_cons (de_int) (da_cons (de_tup (da_cons (de_call G_l_less (hr.mono (by omega)) (by rfl) T.g_l_less T.F_l_less.kp T.b_l_less (dr_cons (de_int) (dr_cons (de_op o_add (de_int) (de_call G_l_take (hr.mono (by omega)) (by rfl) T.g_l_take T.F_l_take.kp T.b_l_take (dr_slot (i := 0) (pv 0) (dr_cons (de_int) (dr_nil))))) (dr_nil)))) (da_nil))) (da_nil)))))) (dss_one (ds_append (i := 3) (pe_bm PySem.F.plainAttrs_list PySem.F.slot_list_append PySem.F.type_list_append mt_append (pv 3) (pa_cons (DE.pe (de_tup (da_cons (de_str) (da_cons (dv 9) (da_cons (de_tup (da_cons (de_str) (da_cons (de_tup (da_cons (de_str) (da_cons (de_op o_sub (de_call G_l_take (hr.mono (by omega)) (by rfl) T.g_l_take T.F_l_take.kp T.b_l_take (dr_slot (i := 0) (pv 0) (dr_cons (de_int) (dr_nil)))) (de_int)) (da_nil)))) (da_nil)))) (da_nil)))))) pa_nil)))))) (dss_cons (ds_set (i := 5) sc_l_counted.nd (de_ix (o_ix (hu_of hr)) (de_lst (da_cons (de_tup (da_cons (de_str) (da_cons (de_tup (da_cons (de_str) (da_cons (de_int) (da_nil)))) (da_nil)))) (da_cons (de_tup (da_cons (de_str) (da_cons (de_tup (da_cons (de_str) (da_cons (de_int) (da_nil)))) (da_nil)))) (da_cons (de_tup (da_cons (de_str) (da_nil))) (da_nil))))) (de_call G_l_take (hr.mono (by omega)) (by rfl) T.g_l_take T.F_l_take.kp T.b_l_take (dr_slot (i := 0) (pv 0) (dr_cons (de_int) (dr_nil)))))) (dss_fz 3 (dss_cons (ds_set (i := 6) sc_l_counted.nd (de_tup (da_cons (de_str) (da_cons (de_tup (da_cons (de_str) (da_cons (de_tup (da_cons (de_str) (da_cons (de_int) (da_nil)))) (da_cons (de_tup (da_cons (de_str) (da_cons (de_op o_add (de_int) (de_call G_l_take (hr.mono (by omega)) (by rfl) T.g_l_take T.F_l_take.kp T.b_l_take (dr_slot (i := 0) (pv 0) (dr_cons (de_int) (dr_nil))))) (da_nil)))) (da_nil))))) (da_cons (dv 5) (da_cons (de_tup (da_cons (de_str) (da_cons (de_callTy (c_tuple) (by rfl) T.z_tuple (by decide +kernel) (da_cons (dv 3) (da_nil))) (da_nil)))) (da_nil))))))) (dss_one (ds_ret (de_lst (da_cons (de_tup (da_cons (de_tup (da_cons (dv 7) (da_nil))) (da_cons (dv 6) (da_cons (de_tup (da_cons (dv 8) (da_nil))) (da_nil))))) (da_nil))))))))))
abbrev K_l_stretches (P : Program) (w : World) (base : Heap) (T : Txt K w mg) (k : Nat) (sp : FSpec) : Prop := FnOk P w K mg base CX0 k T.f_l_stretches T.d_l_stretches ["_law_pen_here", "_law_names_here", "_law_things_here"] (spD K 3 sp)
def t_l_stretches (sp_l_take : FSpec) (sp_l_less : FSpec) : TDS := sSeq (sAsg (qCl (n1 lenD) (qCons (qOp ixD (qVar 2) (qOp ixD (qVar 1) (qC (.int 1)))) (qNil))) (gN 3)) (sSeq (sAsg (qTup (qCons (qTup (qCons (qC (.str "own")) (qCons (qC (.int 0)) (qNil)))) (qCons (qTup (qCons (qC (.str "own")) (qCons (qC (.int 1)) (qNil)))) (qCons (qTup (qCons (qC (.str "own")) (qCons (qC (.int 2)) (qNil)))) (qNil))))) (gTupD 3 (gConsD (gN 7) (gConsD (gN 8) (gConsD (gN 9) (gNilD)))))) (sSeq (sAsg (qTup (qCons (qC (.str "both")) (qCons (qTup (qCons (qC (.str "call")) (qCons (qC (.int 0)) (qCons (qTup (qCons (qVar 7) (qCons (qVar 9) (qNil)))) (qNil))))) (qCons (qTup (qCons (qC (.str "call")) (qCons (qC (.int 0)) (qCons (qTup (qCons (qTup (qCons (qC (.str "plus")) (qCons (qVar 9) (qCons (qTup (qCons (qC (.str "num")) (qCons (qC (.int 1)) (qNil)))) (qNil))))) (qCons (qVar 8) (qNil)))) (qNil))))) (qNil))))) (gN 4)) (sSeq (sIf (qTest (qOp eqD (qCall sp_l_take 2 (rSlot 0 (rCons (qC (.int 2)) (rNil)))) (qC (.int 0)))) (sAsg (qTup (qCons (qC (.str "both")) (qCons (qVar 4) (qCons (qTup (qCons (qC (.str "gain")) (qCons (qTup (qCons (qC (.str "at")) (qCons (qOp ixD (qVar 1) (qC (.int 1))) (qCons (qVar 9) (qNil))))) (qNil)))) (qNil))))) (gN 4)) (sNext)) (sSeq (sAsg (qTup (qCons (qOp ixD (qLst (qCons (qC (.str "each")) (qCons (qC (.str "each")) (qCons (qC (.str "all")) (qNil))))) (qCall sp_l_take 2 (rSlot 0 (rCons (qC (.int 3)) (rNil))))) (qCons (qVar 7) (qCons (qCall sp_l_less 2 (rCons (qC (.int 1)) (rCons (qC (.int 1)) (rNil)))) (qCons (qVar 4) (qNil)))))) (gN 5)) (sSeq (sAsg (qTup (qCons (qC (.str "if")) (qCons (qTup (qCons (qC (.str "below")) (qCons (qVar 7) (qCons (qVar 8) (qNil))))) (qCons (qVar 5) (qCons (qTup (qCons (qC (.str "gain")) (qCons (qTup (qCons (qC (.str "num")) (qCons (qCall sp_l_take 2 (rSlot 0 (rCons (qC (.int 3)) (rNil)))) (qNil)))) (qNil)))) (qNil)))))) (gN 6)) (sRet (qLst (qCons (qTup (qCons (qTup (qCons (qTup (qCons (qC (.str "size")) (qCons (qOp ixD (qVar 1) (qC (.int 1))) (qNil)))) (qCons (qTup (qCons (qC (.str "size")) (qCons (qOp ixD (qVar 1) (qC (.int 1))) (qNil)))) (qNil)))) (qCons (qVar 6) (qCons (qTup (qCons (qVar 3) (qCons (qVar 3) (qNil)))) (qNil))))) (qNil)))))))))
set_option maxHeartbeats 4000000 in
theorem d_l_stretches (T : Txt K w mg) {k : Nat} {k_l_take : Nat} {sp_l_take : FSpec} (G_l_take : FnOk P w K mg base CX0 k_l_take T.f_l_take T.d_l_take ["_law_pen_here", "_law_size"] (spD K 2 sp_l_take)) (h_l_take : k_l_take ≤ k) {k_l_less : Nat} {sp_l_less : FSpec} (G_l_less : FnOk P w K mg base CX0 k_l_less T.f_l_less T.d_l_less ["_law_k", "_law_n"] (spD K 2 sp_l_less)) (h_l_less : k_l_less ≤ k) {cdv : Value} {A : Around} {outer : List Env} {s : Shared} {H : Hp} {E : XK} {B : Bd} (hr : Room k (A.deeper (envOfC "_law_stretches" (defScope s_l_stretches) s.heap.objs.size T.f_l_stretches cdv))) :
    DSs (cxOf CX0 P w K mg base N_l_stretches "_law_stretches" (defScope s_l_stretches) T.f_l_stretches cdv A outer s H E).nox B (defBody s_l_stretches) (t_l_stretches sp_l_take sp_l_less) :=
  dss_cons (ds_set (i := 3) sc_l_stretches.nd (de_callB (c_len) (by rfl) T.z_len (by decide +kernel) (da_cons (de_ix (o_ix (hu_of hr)) (dv 2) (de_ix (o_ix (hu_of hr)) (dv 1) (de_int))) (da_nil)))) (dss_cons (ds_asg (de_tup (da_cons (de_tup (da_cons (de_str) (da_cons (de_int) (da_nil)))) (da_cons (de_tup (da_cons (de_str) (da_cons (de_int) (da_nil)))) (da_cons (de_tup (da_cons (de_str) (da_cons (de_int) (da_nil)))) (da_nil))))) (dg_tup rfl (dgs_cons (dg_name (i := 7) sc_l_stretches.nd) (dgs_cons (dg_name (i := 8) sc_l_stretches.nd) (dgs_cons (dg_name (i := 9) sc_l_stretches.nd) (dgs_nil)))))) (dss_cons (ds_set (i := 4) sc_l_stretches.nd (de_tup (da_cons (de_str) (da_cons (de_tup (da_cons (de_str) (da_cons (de_int) (da_cons (de_tup (da_cons (dv 7) (da_cons (dv 9) (da_nil)))) (da_nil))))) (da_cons (de_tup (da_cons (de_str) (da_cons (de_int) (da_cons (de_tup (da_cons (de_tup (da_cons (de_str) (da_cons (dv 9) (da_cons (de_tup (da_cons (de_str) (da_cons (de_int) (da_nil)))) (da_nil))))) (da_cons (dv 8) (da_nil)))) (da_nil))))) (da_nil)))))) (dss_cons (ds_if (dt_cmp (o_eq hr.units) (de_call G_l_take (hr.mono (by omega)) (by rfl) T.g_l_take T.F_l_take.kp T.b_l_take (dr_slot (i := 0) (pv 0) (dr_cons (de_int) (dr_nil)))) (de_int) (nomark _)) (dss_one (ds_set (i := 4) sc_l_stretches.nd (de_tup (da_cons (de_str) (da_cons (dv 4) (da_cons (de_tup (da_cons (de_str) (da_cons (de_tup (da_cons (de_str) (da_cons (de_ix (o_ix (hu_of hr)) (dv 1) (de_int)) (da_cons (dv 9) (da_nil))))) (da_nil)))) (da_nil))))))) (dss_nil)) (dss_cons (ds_set (i := 5) sc_l_stretches.nd (de_tup (da_cons (de_ix (o_ix (hu_of hr)) (de_lst (da_cons (de_str) (da_cons (de_str) (da_cons (de_str) (da_nil))))) (de_call G_l_take (hr.mono (by omega)) (by rfl) T.g_l_take T.F_l_take.kp T.b_l_take (dr_slot (i := 0) (pv 0) (dr_cons (de_int) (dr_nil))))) (da_cons (dv 7) (da_cons (de_call G_l_less (hr.mono (by omega)) (by rfl) T.g_l_less T.F_l_less.kp T.b_l_less (dr_cons (de_int) (dr_cons (de_int) (dr_nil)))) (da_cons (dv 4) (da_nil))))))) (dss_cons (ds_set (i := 6) sc_l_stretches.nd (de_tup (da_cons (de_str) (da_cons (de_tup (da_cons (de_str) (da_cons (dv 7) (da_cons (dv 8) (da_nil))))) (da_cons (dv 5) (da_cons (de_tup (da_cons (de_str) (da_cons (de_tup (da_cons (de_str) (da_cons (de_call G_l_take (hr.mono (by omega)) (by rfl) T.g_l_take T.F_l_take.kp T.b_l_take (dr_slot (i := 0) (pv 0) (dr_cons (de_int) (dr_nil)))) (da_nil)))) (da_nil)))) (da_nil))))))) (dss_one (ds_ret (de_lst (da_cons (de_tup (da_cons (de_tup (da_cons (de_tup (da_cons (de_str) (da_cons (de_ix (o_ix (hu_of hr)) (dv 1) (de_int)) (da_nil)))) (da_cons (de_tup (da_cons (de_str) (da_cons (de_ix (o_ix (hu_of hr)) (dv 1) (de_int)) (da_nil)))) (da_nil)))) (da_cons (dv 6) (da_cons (de_tup (da_cons (dv 3) (da_cons (dv 3) (da_nil)))) (da_nil))))) (da_nil))))))))))
abbrev K_l_sets (P : Program) (w : World) (base : Heap) (T : Txt K w mg) (k : Nat) (sp : FSpec) : Prop := FnOk P w K mg base CX0 k T.f_l_sets T.d_l_sets ["_law_pen_here", "_law_names_here", "_law_things_here"] (spD K 3 sp)
def t_l_sets (sp_l_take : FSpec) : TDS := sSeq (sAsg (qTup (qCons (qTup (qCons (qC (.str "num")) (qCons (qC (.int 7)) (qNil)))) (qCons (qC (.int 7)) (qCons (qTup (qCons (qC (.str "num")) (qCons (qC (.int 2)) (qNil)))) (qNil))))) (gTupD 3 (gConsD (gN 6) (gConsD (gN 7) (gConsD (gN 8) (gNilD)))))) (sSeq (sIf (qTest (qOp eqD (qCall sp_l_take 2 (rSlot 0 (rCons (qC (.int 2)) (rNil)))) (qC (.int 0)))) (sSeq (sAsg (qCl (n1 lenD) (qCons (qOp ixD (qVar 2) (qOp ixD (qVar 1) (qC (.int 1)))) (qNil))) (gN 9)) (sPar3 6 7 8 (qCons (qTup (qCons (qC (.str "full")) (qCons (qTup (qCons (qC (.str "size")) (qCons (qOp ixD (qVar 1) (qC (.int 1))) (qNil)))) (qNil)))) (qCons (qOp (i2 fun i j Q => Q (.int (i - j))) (qOp (i2 fun i j Q => CPow i j ∧ Q (.int (i * 2 ^ j.toNat))) (qC (.int 1)) (qVar 9)) (qC (.int 1))) (qCons (qTup (qCons (qC (.str "less")) (qCons (qTup (qCons (qC (.str "size")) (qCons (qOp ixD (qVar 1) (qC (.int 1))) (qNil)))) (qCons (qTup (qCons (qC (.str "num")) (qCons (qC (.int 1)) (qNil)))) (qNil))))) (qNil)))))) (sNext)) (sSeq (sAsg (qTup (qCons (qC (.str "both")) (qCons (qTup (qCons (qC (.str "call")) (qCons (qC (.int 0)) (qCons (qTup (qCons (qTup (qCons (qC (.str "without")) (qCons (qTup (qCons (qC (.str "own")) (qCons (qC (.int 0)) (qNil)))) (qCons (qTup (qCons (qC (.str "own")) (qCons (qC (.int 1)) (qNil)))) (qNil))))) (qNil))) (qNil))))) (qCons (qTup (qCons (qC (.str "gain")) (qCons (qTup (qCons (qC (.str "own")) (qCons (qC (.int 1)) (qNil)))) (qNil)))) (qNil))))) (gN 3)) (sSeq (sAsg (qTup (qCons (qC (.str "each")) (qCons (qTup (qCons (qC (.str "num")) (qCons (qC (.int 0)) (qNil)))) (qCons (qVar 8) (qCons (qTup (qCons (qC (.str "if")) (qCons (qTup (qCons (qC (.str "has")) (qCons (qTup (qCons (qC (.str "own")) (qCons (qC (.int 0)) (qNil)))) (qCons (qTup (qCons (qC (.str "own")) (qCons (qC (.int 1)) (qNil)))) (qNil))))) (qCons (qVar 3) (qCons (qTup (qCons (qC (.str "none")) (qNil))) (qNil)))))) (qNil)))))) (gN 4)) (sSeq (sAsg (qTup (qCons (qC (.str "if")) (qCons (qTup (qCons (qC (.str "same")) (qCons (qTup (qCons (qC (.str "own")) (qCons (qC (.int 0)) (qNil)))) (qCons (qTup (qCons (qC (.str "num")) (qCons (qC (.int 0)) (qNil)))) (qNil))))) (qCons (qTup (qCons (qC (.str "gain")) (qCons (qTup (qCons (qC (.str "num")) (qCons (qC (.int 1)) (qNil)))) (qNil)))) (qCons (qVar 4) (qNil)))))) (gN 5)) (sRet (qLst (qCons (qTup (qCons (qTup (qCons (qVar 6) (qNil))) (qCons (qVar 5) (qCons (qTup (qCons (qVar 7) (qNil))) (qNil))))) (qNil))))))))
set_option maxHeartbeats 4000000 in
theorem d_l_sets (T : Txt K w mg) {k : Nat} {k_l_take : Nat} {sp_l_take : FSpec} (G_l_take : FnOk P w K mg base CX0 k_l_take T.f_l_take T.d_l_take ["_law_pen_here", "_law_size"] (spD K 2 sp_l_take)) (h_l_take : k_l_take ≤ k) {cdv : Value} {A : Around} {outer : List Env} {s : Shared} {H : Hp} {E : XK} {B : Bd} (hr : Room k (A.deeper (envOfC "_law_sets" (defScope s_l_sets) s.heap.objs.size T.f_l_sets cdv))) :
    DSs (cxOf CX0 P w K mg base N_l_sets "_law_sets" (defScope s_l_sets) T.f_l_sets cdv A outer s H E).nox B (defBody s_l_sets) (t_l_sets sp_l_take) :=
  dss_cons (ds_asg (de_tup (da_cons (de_tup (da_cons (de_str) (da_cons (de_int) (da_nil)))) (da_cons (de_int) (da_cons (de_tup (da_cons (de_str) (da_cons (de_int) (da_nil)))) (da_nil))))) (dg_tup rfl (dgs_cons (dg_name (i := 6) sc_l_sets.nd) (dgs_cons (dg_name (i := 7) sc_l_sets.nd) (dgs_cons (dg_name (i := 8) sc_l_sets.nd) (dgs_nil)))))) (dss_cons (ds_if (dt_cmp (o_eq hr.units) (de_call G_l_take (hr.mono (by omega)) (by rfl) T.g_l_take T.F_l_take.kp T.b_l_take (dr_slot (i := 0) (pv 0) (dr_cons (de_int) (dr_nil)))) (de_int) (nomark _)) (dss_cons (ds_set (i := 9) sc_l_sets.nd (de_callB (c_len) (by rfl) T.z_len (by decide +kernel) (da_cons (de_ix (o_ix (hu_of hr)) (dv 2) (de_ix (o_ix (hu_of hr)) (dv 1) (de_int))) (da_nil)))) (dss_one (ds_par3 (i := 6) (j := 7) (l := 8) rfl sc_l_sets.nd (da_cons (de_tup (da_cons (de_str) (da_cons (de_tup (da_cons (de_str) (da_cons (de_ix (o_ix (hu_of hr)) (dv 1) (de_int)) (da_nil)))) (da_nil)))) (da_cons (de_op o_sub (de_op o_shl (de_int) (dv 9)) (de_int)) (da_cons (de_tup (da_cons (de_str) (da_cons (de_tup (da_cons (de_str) (da_cons (de_ix (o_ix (hu_of hr)) (dv 1) (de_int)) (da_nil)))) (da_cons (de_tup (da_cons (de_str) (da_cons (de_int) (da_nil)))) (da_nil))))) (da_nil))))))) (dss_nil)) (dss_cons (ds_set (i := 3) sc_l_sets.nd (de_tup (da_cons (de_str) (da_cons (de_tup (da_cons (de_str) (da_cons (de_int) (da_cons (de_tup (da_cons (de_tup (da_cons (de_str) (da_cons (de_tup (da_cons (de_str) (da_cons (de_int) (da_nil)))) (da_cons (de_tup (da_cons (de_str) (da_cons (de_int) (da_nil)))) (da_nil))))) (da_nil))) (da_nil))))) (da_cons (de_tup (da_cons (de_str) (da_cons (de_tup (da_cons (de_str) (da_cons (de_int) (da_nil)))) (da_nil)))) (da_nil)))))) (dss_cons (ds_set (i := 4) sc_l_sets.nd (de_tup (da_cons (de_str) (da_cons (de_tup (da_cons (de_str) (da_cons (de_int) (da_nil)))) (da_cons (dv 8) (da_cons (de_tup (da_cons (de_str) (da_cons (de_tup (da_cons (de_str) (da_cons (de_tup (da_cons (de_str) (da_cons (de_int) (da_nil)))) (da_cons (de_tup (da_cons (de_str) (da_cons (de_int) (da_nil)))) (da_nil))))) (da_cons (dv 3) (da_cons (de_tup (da_cons (de_str) (da_nil))) (da_nil)))))) (da_nil))))))) (dss_cons (ds_set (i := 5) sc_l_sets.nd (de_tup (da_cons (de_str) (da_cons (de_tup (da_cons (de_str) (da_cons (de_tup (da_cons (de_str) (da_cons (de_int) (da_nil)))) (da_cons (de_tup (da_cons (de_str) (da_cons (de_int) (da_nil)))) (da_nil))))) (da_cons (de_tup (da_cons (de_str) (da_cons (de_tup (da_cons (de_str) (da_cons (de_int) (da_nil)))) (da_nil)))) (da_cons (dv 4) (da_nil))))))) (dss_one (ds_ret (de_lst (da_cons (de_tup (da_cons (de_tup (da_cons (dv 6) (da_nil))) (da_cons (dv 5) (da_cons (de_tup (da_cons (dv 7) (da_nil))) (da_nil))))) (da_nil)))))))))
abbrev K_l_knots (P : Program) (w : World) (base : Heap) (T : Txt K w mg) (k : Nat) (sp : FSpec) : Prop := FnOk P w K mg base CX0 k T.f_l_knots T.d_l_knots ["_law_pen_here", "_law_names_here", "_law_things_here"] (spD K 3 sp)
def t_l_knots (sp_l_take : FSpec) : TDS := sSeq (sAsg (qOp ixD (qVar 1) (qC (.int 3))) (gN 3)) (sSeq (sAsg (qTup (qCons (qC (.str "less")) (qCons (qTup (qCons (qC (.str "kids")) (qCons (qVar 3) (qCons (qTup (qCons (qC (.str "own")) (qCons (qC (.int 0)) (qNil)))) (qNil))))) (qCons (qTup (qCons (qC (.str "num")) (qCons (qC (.int 1)) (qNil)))) (qNil))))) (gN 4)) (sSeq (sAsg (qOp ixD (qLst (qCons (qC (.str "all")) (qCons (qC (.str "each")) (qNil)))) (qCall sp_l_take 2 (rSlot 0 (rCons (qC (.int 2)) (rNil))))) (gN 5)) (sSeq (sAsg (qTup (qCons (qVar 5) (qCons (qTup (qCons (qC (.str "num")) (qCons (qC (.int 0)) (qNil)))) (qCons (qVar 4) (qCons (qTup (qCons (qC (.str "call")) (qCons (qC (.int 0)) (qCons (qTup (qCons (qTup (qCons (qC (.str "kid")) (qCons (qVar 3) (qCons (qTup (qCons (qC (.str "own")) (qCons (qC (.int 0)) (qNil)))) (qCons (qTup (qCons (qC (.str "own")) (qCons (qC (.int 1)) (qNil)))) (qNil)))))) (qNil))) (qNil))))) (qNil)))))) (gN 6)) (sSeq (sAsg (qOp ixD (qLst (qCons (qTup (qCons (qC (.str "both")) (qCons (qTup (qCons (qC (.str "gain")) (qCons (qTup (qCons (qC (.str "own")) (qCons (qC (.int 0)) (qNil)))) (qNil)))) (qCons (qVar 6) (qNil))))) (qCons (qTup (qCons (qC (.str "choose")) (qCons (qTup (qCons (qVar 6) (qCons (qTup (qCons (qC (.str "gain")) (qCons (qTup (qCons (qC (.str "num")) (qCons (qC (.int 2)) (qNil)))) (qNil)))) (qNil)))) (qNil)))) (qNil)))) (qCall sp_l_take 2 (rSlot 0 (rCons (qC (.int 2)) (rNil))))) (gN 7)) (sRet (qLst (qCons (qTup (qCons (qTup (qCons (qTup (qCons (qC (.str "less")) (qCons (qTup (qCons (qC (.str "size")) (qCons (qVar 3) (qNil)))) (qCons (qTup (qCons (qC (.str "num")) (qCons (qC (.int 1)) (qNil)))) (qNil))))) (qNil))) (qCons (qVar 7) (qCons (qTup (qCons (qCl (n1 lenD) (qCons (qOp ixD (qVar 2) (qVar 3)) (qNil))) (qNil))) (qNil))))) (qNil))))))))
set_option maxHeartbeats 4000000 in
theorem d_l_knots (T : Txt K w mg) {k : Nat} {k_l_take : Nat} {sp_l_take : FSpec} (G_l_take : FnOk P w K mg base CX0 k_l_take T.f_l_take T.d_l_take ["_law_pen_here", "_law_size"] (spD K 2 sp_l_take)) (h_l_take : k_l_take ≤ k) {cdv : Value} {A : Around} {outer : List Env} {s : Shared} {H : Hp} {E : XK} {B : Bd} (hr : Room k (A.deeper (envOfC "_law_knots" (defScope s_l_knots) s.heap.objs.size T.f_l_knots cdv))) :
    DSs (cxOf CX0 P w K mg base N_l_knots "_law_knots" (defScope s_l_knots) T.f_l_knots cdv A outer s H E).nox B (defBody s_l_knots) (t_l_knots sp_l_take) :=
  dss_cons (ds_set (i := 3) sc_l_knots.nd (de_ix (o_ix (hu_of hr)) (dv 1) (de_int))) (dss_cons (ds_set (i := 4) sc_l_knots.nd (de_tup (da_cons (de_str) (da_cons (de_tup (da_cons (de_str) (da_cons (dv 3) (da_cons (de_tup (da_cons (de_str) (da_cons (de_int) (da_nil)))) (da_nil))))) (da_cons (de_tup (da_cons (de_str) (da_cons (de_int) (da_nil)))) (da_nil)))))) (dss_cons (ds_set (i := 5) sc_l_knots.nd (de_ix (o_ix (hu_of hr)) (de_lst (da_cons (de_str) (da_cons (de_str) (da_nil)))) (de_call G_l_take (hr.mono (by omega)) (by rfl) T.g_l_take T.F_l_take.kp T.b_l_take (dr_slot (i := 0) (pv 0) (dr_cons (de_int) (dr_nil)))))) (dss_cons (ds_set (i := 6) sc_l_knots.nd (de_tup (da_cons (dv 5) (da_cons (de_tup (da_cons (de_str) (da_cons (de_int) (da_nil)))) (da_cons (dv 4) (da_cons (de_tup (da_cons (de_str) (da_cons (de_int) (da_cons (de_tup (da_cons (de_tup (da_cons (de_str) (da_cons (dv 3) (da_cons (de_tup (da_cons (de_str) (da_cons (de_int) (da_nil)))) (da_cons (de_tup (da_cons (de_str) (da_cons (de_int) (da_nil)))) (da_nil)))))) (da_nil))) (da_nil))))) (da_nil))))))) (dss_cons (ds_set (i := 7) sc_l_knots.nd (de_ix (o_ix (hu_of hr)) (de_lst (da_cons (de_tup (da_cons (de_str) (da_cons (de_tup (da_cons (de_str) (da_cons (de_tup (da_cons (de_str) (da_cons (de_int) (da_nil)))) (da_nil)))) (da_cons (dv 6) (da_nil))))) (da_cons (de_tup (da_cons (de_str) (da_cons (de_tup (da_cons (dv 6) (da_cons (de_tup (da_cons (de_str) (da_cons (de_tup (da_cons (de_str) (da_cons (de_int) (da_nil)))) (da_nil)))) (da_nil)))) (da_nil)))) (da_nil)))) (de_call G_l_take (hr.mono (by omega)) (by rfl) T.g_l_take T.F_l_take.kp T.b_l_take (dr_slot (i := 0) (pv 0) (dr_cons (de_int) (dr_nil)))))) (dss_one (ds_ret (de_lst (da_cons (de_tup (da_cons (de_tup (da_cons (de_tup (da_cons (de_str) (da_cons (de_tup (da_cons (de_str) (da_cons (dv 3) (da_nil)))) (da_cons (de_tup (da_cons (de_str) (da_cons (de_int) (da_nil)))) (da_nil))))) (da_nil))) (da_cons (dv 7) (da_cons (de_tup (da_cons (de_callB (c_len) (by rfl) T.z_len (by decide +kernel) (da_cons (de_ix (o_ix (hu_of hr)) (dv 2) (dv 3)) (da_nil))) (da_nil))) (da_nil))))) (da_nil)))))))))
abbrev K_l_two (P : Program) (w : World) (base : Heap) (T : Txt K w mg) (k : Nat) (sp : FSpec) : Prop := FnOk P w K mg base CX0 k T.f_l_two T.d_l_two ["_law_pen_here", "_law_names_here", "_law_things_here"] (spD K 3 sp)
def t_l_two (sp_l_take : FSpec) (sp_l_less : FSpec) : TDS := sSeq (sAsg (qOp addD (qC (.int 4)) (qCall sp_l_take 2 (rSlot 0 (rCons (qC (.int 2)) (rNil))))) (gN 3)) (sSeq (sAsg (qTup (qCons (qC (.str "choose")) (qCons (qTup (qCons (qTup (qCons (qC (.str "call")) (qCons (qC (.int 1)) (qCons (qTup (qCons (qTup (qCons (qC (.str "own")) (qCons (qC (.int 0)) (qNil)))) (qNil))) (qNil))))) (qCons (qTup (qCons (qC (.str "gain")) (qCons (qTup (qCons (qC (.str "num")) (qCons (qCall sp_l_take 2 (rSlot 0 (rCons (qC (.int 5)) (rNil)))) (qNil)))) (qNil)))) (qNil)))) (qNil)))) (gN 4)) (sSeq (sAsg (qTup (qCons (qC (.str "call")) (qCons (qC (.int 0)) (qCons (qTup (qCons (qCall sp_l_less 2 (rCons (qC (.int 0)) (rCons (qOp ixD (qLst (qCons (qC (.int 1)) (qCons (qC (.int 1)) (qCons (qC (.int 2)) (qCons (qC (.int 0)) (qNil)))))) (qCall sp_l_take 2 (rSlot 0 (rCons (qC (.int 4)) (rNil))))) (rNil)))) (qNil))) (qNil))))) (gN 5)) (sSeq (sAsg (qTup (qCons (qC (.str "if")) (qCons (qTup (qCons (qC (.str "below")) (qCons (qTup (qCons (qC (.str "own")) (qCons (qC (.int 0)) (qNil)))) (qCons (qTup (qCons (qC (.str "num")) (qCons (qC (.int 1)) (qNil)))) (qNil))))) (qCons (qTup (qCons (qC (.str "gain")) (qCons (qTup (qCons (qC (.str "num")) (qCons (qC (.int 3)) (qNil)))) (qNil)))) (qCons (qTup (qCons (qC (.str "both")) (qCons (qVar 5) (qCons (qTup (qCons (qC (.str "gain")) (qCons (qTup (qCons (qC (.str "own")) (qCons (qC (.int 0)) (qNil)))) (qNil)))) (qNil))))) (qNil)))))) (gN 6)) (sRet (qLst (qCons (qTup (qCons (qTup (qCons (qTup (qCons (qC (.str "num")) (qCons (qC (.int 5)) (qNil)))) (qNil))) (qCons (qVar 4) (qCons (qTup (qCons (qC (.int 5)) (qNil))) (qNil))))) (qCons (qTup (qCons (qTup (qCons (qTup (qCons (qC (.str "num")) (qCons (qVar 3) (qNil)))) (qNil))) (qCons (qVar 6) (qCons (qTup (qCons (qVar 3) (qNil))) (qNil))))) (qNil))))))))
set_option maxHeartbeats 4000000 in
theorem d_l_two (T : Txt K w mg) {k : Nat} {k_l_take : Nat} {sp_l_take : FSpec} (G_l_take : FnOk P w K mg base CX0 k_l_take T.f_l_take T.d_l_take ["_law_pen_here", "_law_size"] (spD K 2 sp_l_take)) (h_l_take : k_l_take ≤ k) {k_l_less : Nat} {sp_l_less : FSpec} (G_l_less : FnOk P w K mg base CX0 k_l_less T.f_l_less T.d_l_less ["_law_k", "_law_n"] (spD K 2 sp_l_less)) (h_l_less : k_l_less ≤ k) {cdv : Value} {A : Around} {outer : List Env} {s : Shared} {H : Hp} {E : XK} {B : Bd} (hr : Room k (A.deeper (envOfC "_law_two" (defScope s_l_two) s.heap.objs.size T.f_l_two cdv))) :
    DSs (cxOf CX0 P w K mg base N_l_two "_law_two" (defScope s_l_two) T.f_l_two cdv A outer s H E).nox B (defBody s_l_two) (t_l_two sp_l_take sp_l_less) :=
  dss_cons (ds_set (i := 3) sc_l_two.nd (de_op o_add (de_int) (de_call G_l_take (hr.mono (by omega)) (by rfl) T.g_l_take T.F_l_take.kp T.b_l_take (dr_slot (i := 0) (pv 0) (dr_cons (de_int) (dr_nil)))))) (dss_cons (ds_set (i := 4) sc_l_two.nd (de_tup (da_cons (de_str) (da_cons (de_tup (da_cons (de_tup (da_cons (de_str) (da_cons (de_int) (da_cons (de_tup (da_cons (de_tup (da_cons (de_str) (da_cons (de_int) (da_nil)))) (da_nil))) (da_nil))))) (da_cons (de_tup (da_cons (de_str) (da_cons (de_tup (da_cons (de_str) (da_cons (de_call G_l_take (hr.mono (by omega)) (by rfl) T.g_l_take T.F_l_take.kp T.b_l_take (dr_slot (i := 0) (pv 0) (dr_cons (de_int) (dr_nil)))) (da_nil)))) (da_nil)))) (da_nil)))) (da_nil))))) (dss_cons (ds_set (i := 5) sc_l_two.nd (de_tup (da_cons (de_str) (da_cons (de_int) (da_cons (de_tup (da_cons (de_call G_l_less (hr.mono (by omega)) (by rfl) T.g_l_less T.F_l_less.kp T.b_l_less (dr_cons (de_int) (dr_cons (de_ix (o_ix (hu_of hr)) (de_lst (da_cons (de_int) (da_cons (de_int) (da_cons (de_int) (da_cons (de_int) (da_nil)))))) (de_call G_l_take (hr.mono (by omega)) (by rfl) T.g_l_take T.F_l_take.kp T.b_l_take (dr_slot (i := 0) (pv 0) (dr_cons (de_int) (dr_nil))))) (dr_nil)))) (da_nil))) (da_nil)))))) (dss_cons (ds_set (i := 6) sc_l_two.nd (de_tup (da_cons (de_str) (da_cons (de_tup (da_cons (de_str) (da_cons (de_tup (da_cons (de_str) (da_cons (de_int) (da_nil)))) (da_cons (de_tup (da_cons (de_str) (da_cons (de_int) (da_nil)))) (da_nil))))) (da_cons (de_tup (da_cons (de_str) (da_cons (de_tup (da_cons (de_str) (da_cons (de_int) (da_nil)))) (da_nil)))) (da_cons (de_tup (da_cons (de_str) (da_cons (dv 5) (da_cons (de_tup (da_cons (de_str) (da_cons (de_tup (da_cons (de_str) (da_cons (de_int) (da_nil)))) (da_nil)))) (da_nil))))) (da_nil))))))) (dss_one (ds_ret (de_lst (da_cons (de_tup (da_cons (de_tup (da_cons (de_tup (da_cons (de_str) (da_cons (de_int) (da_nil)))) (da_nil))) (da_cons (dv 4) (da_cons (de_tup (da_cons (de_int) (da_nil))) (da_nil))))) (da_cons (de_tup (da_cons (de_tup (da_cons (de_tup (da_cons (de_str) (da_cons (dv 3) (da_nil)))) (da_nil))) (da_cons (dv 6) (da_cons (de_tup (da_cons (dv 3) (da_nil))) (da_nil))))) (da_nil)))))))))
abbrev K_l_grid (P : Program) (w : World) (base : Heap) (T : Txt K w mg) (k : Nat) (sp : FSpec) : Prop := FnOk P w K mg base CX0 k T.f_l_grid T.d_l_grid ["_law_pen_here", "_law_names_here", "_law_things_here"] (spD K 3 sp)
def t_l_grid (sp_l_less : FSpec) (sp_l_take : FSpec) : TDS := sSeq (sAsg (qTup (qCons (qCl (n1 lenD) (qCons (qOp ixD (qVar 2) (qOp ixD (qVar 1) (qC (.int 1)))) (qNil))) (qCons (qCl (n1 lenD) (qCons (qOp ixD (qVar 2) (qOp ixD (qVar 1) (qC (.int 2)))) (qNil))) (qNil)))) (gN 3)) (sSeq (sAsg (qTup (qCons (qC (.str "both")) (qCons (qTup (qCons (qC (.str "call")) (qCons (qC (.int 0)) (qCons (qTup (qCons (qCall sp_l_less 2 (rCons (qC (.int 0)) (rCons (qC (.int 1)) (rNil)))) (qCons (qTup (qCons (qC (.str "own")) (qCons (qC (.int 1)) (qNil)))) (qNil)))) (qNil))))) (qCons (qTup (qCons (qC (.str "gain")) (qCons (qTup (qCons (qC (.str "num")) (qCons (qC (.int 1)) (qNil)))) (qNil)))) (qNil))))) (gN 4)) (sSeq (sAsg (qTup (qCons (qC (.str "both")) (qCons (qTup (qCons (qC (.str "call")) (qCons (qC (.int 0)) (qCons (qTup (qCons (qTup (qCons (qC (.str "own")) (qCons (qC (.int 0)) (qNil)))) (qCons (qCall sp_l_less 2 (rCons (qC (.int 1)) (rCons (qC (.int 1)) (rNil)))) (qNil)))) (qNil))))) (qCons (qTup (qCons (qC (.str "gain")) (qCons (qTup (qCons (qC (.str "num")) (qCons (qC (.int 1)) (qNil)))) (qNil)))) (qNil))))) (gN 5)) (sSeq (sAsg (qTup (qCons (qC (.str "call")) (qCons (qC (.int 0)) (qCons (qTup (qCons (qCall sp_l_less 2 (rCons (qC (.int 0)) (rCons (qC (.int 1)) (rNil)))) (qCons (qCall sp_l_less 2 (rCons (qC (.int 1)) (rCons (qC (.int 1)) (rNil)))) (qNil)))) (qNil))))) (gN 6)) (sSeq (sAsg (qTup (qCons (qC (.str "choose")) (qCons (qSl slD (qTup (qCons (qVar 4) (qCons (qVar 5) (qCons (qVar 6) (qNil))))) (qNoPart) (qPart (qOp addD (qC (.int 2)) (qCall sp_l_take 2 (rSlot 0 (rCons (qC (.int 2)) (rNil))))))) (qNil)))) (gN 7)) (sSeq (sAsg (qTup (qCons (qC (.str "and")) (qCons (qTup (qCons (qC (.str "below")) (qCons (qTup (qCons (qC (.str "num")) (qCons (qC (.int 0)) (qNil)))) (qCons (qTup (qCons (qC (.str "own")) (qCons (qC (.int 0)) (qNil)))) (qNil))))) (qCons (qTup (qCons (qC (.str "below")) (qCons (qTup (qCons (qC (.str "num")) (qCons (qC (.int 0)) (qNil)))) (qCons (qTup (qCons (qC (.str "own")) (qCons (qC (.int 1)) (qNil)))) (qNil))))) (qNil))))) (gN 8)) (sSeq (sAsg (qTup (qCons (qC (.str "if")) (qCons (qVar 8) (qCons (qVar 7) (qCons (qTup (qCons (qC (.str "gain")) (qCons (qTup (qCons (qC (.str "plus")) (qCons (qTup (qCons (qC (.str "own")) (qCons (qC (.int 0)) (qNil)))) (qCons (qTup (qCons (qC (.str "own")) (qCons (qC (.int 1)) (qNil)))) (qNil))))) (qNil)))) (qNil)))))) (gN 9)) (sRet (qLst (qCons (qTup (qCons (qTup (qCons (qTup (qCons (qC (.str "size")) (qCons (qOp ixD (qVar 1) (qC (.int 1))) (qNil)))) (qCons (qTup (qCons (qC (.str "size")) (qCons (qOp ixD (qVar 1) (qC (.int 2))) (qNil)))) (qNil)))) (qCons (qVar 9) (qCons (qVar 3) (qNil))))) (qNil))))))))))
set_option maxHeartbeats 4000000 in
theorem d_l_grid (T : Txt K w mg) {k : Nat} {k_l_less : Nat} {sp_l_less : FSpec} (G_l_less : FnOk P w K mg base CX0 k_l_less T.f_l_less T.d_l_less ["_law_k", "_law_n"] (spD K 2 sp_l_less)) (h_l_less : k_l_less ≤ k) {k_l_take : Nat} {sp_l_take : FSpec} (G_l_take : FnOk P w K mg base CX0 k_l_take T.f_l_take T.d_l_take ["_law_pen_here", "_law_size"] (spD K 2 sp_l_take)) (h_l_take : k_l_take ≤ k) {cdv : Value} {A : Around} {outer : List Env} {s : Shared} {H : Hp} {E : XK} {B : Bd} (hr : Room k (A.deeper (envOfC "_law_grid" (defScope s_l_grid) s.heap.objs.size T.f_l_grid cdv))) :
    DSs (cxOf CX0 P w K mg base N_l_grid "_law_grid" (defScope s_l_grid) T.f_l_grid cdv A outer s H E).nox B (defBody s_l_grid) (t_l_grid sp_l_less sp_l_take) :=
  dss_cons (ds_set (i := 3) sc_l_grid.nd (de_tup (da_cons (de_callB (c_len) (by rfl) T.z_len (by decide +kernel) (da_cons (de_ix (o_ix (hu_of hr)) (dv 2) (de_ix (o_ix (hu_of hr)) (dv 1) (de_int))) (da_nil))) (da_cons (de_callB (c_len) (by rfl) T.z_len (by decide +kernel) (da_cons (de_ix (o_ix (hu_of hr)) (dv 2) (de_ix (o_ix (hu_of hr)) (dv 1) (de_int))) (da_nil))) (da_nil))))) (dss_cons (ds_set (i := 4) sc_l_grid.nd (de_tup (da_cons (de_str) (da_cons (de_tup (da_cons (de_str) (da_cons (de_int) (da_cons (de_tup (da_cons (de_call G_l_less (hr.mono (by omega)) (by rfl) T.g_l_less T.F_l_less.kp T.b_l_less (dr_cons (de_int) (dr_cons (de_int) (dr_nil)))) (da_cons (de_tup (da_cons (de_str) (da_cons (de_int) (da_nil)))) (da_nil)))) (da_nil))))) (da_cons (de_tup (da_cons (de_str) (da_cons (de_tup (da_cons (de_str) (da_cons (de_int) (da_nil)))) (da_nil)))) (da_nil)))))) (dss_cons (ds_set (i := 5) sc_l_grid.nd (de_tup (da_cons (de_str) (da_cons (de_tup (da_cons (de_str) (da_cons (de_int) (da_cons (de_tup (da_cons (de_tup (da_cons (de_str) (da_cons (de_int) (da_nil)))) (da_cons (de_call G_l_less (hr.mono (by omega)) (by rfl) T.g_l_less T.F_l_less.kp T.b_l_less (dr_cons (de_int) (dr_cons (de_int) (dr_nil)))) (da_nil)))) (da_nil))))) (da_cons (de_tup (da_cons (de_str) (da_cons (de_tup (da_cons (de_str) (da_cons (de_int) (da_nil)))) (da_nil)))) (da_nil)))))) (dss_cons (ds_set (i := 6) sc_l_grid.nd (de_tup (da_cons (de_str) (da_cons (de_int) (da_cons (de_tup (da_cons (de_call G_l_less (hr.mono (by omega)) (by rfl) T.g_l_less T.F_l_less.kp T.b_l_less (dr_cons (de_int) (dr_cons (de_int) (dr_nil)))) (da_cons (de_call G_l_less (hr.mono (by omega)) (by rfl) T.g_l_less T.F_l_less.kp T.b_l_less (dr_cons (de_int) (dr_cons (de_int) (dr_nil)))) (da_nil)))) (da_nil)))))) (dss_cons (ds_set (i := 7) sc_l_grid.nd (de_tup (da_cons (de_str) (da_cons (de_slice o_sl (de_tup (da_cons (dv 4) (da_cons (dv 5) (da_cons (dv 6) (da_nil))))) (do_none) (do_some (de_op o_add (de_int) (de_call G_l_take (hr.mono (by omega)) (by rfl) T.g_l_take T.F_l_take.kp T.b_l_take (dr_slot (i := 0) (pv 0) (dr_cons (de_int) (dr_nil))))))) (da_nil))))) (dss_cons (ds_set (i := 8) sc_l_grid.nd (de_tup (da_cons (de_str) (da_cons (de_tup (da_cons (de_str) (da_cons (de_tup (da_cons (de_str) (da_cons (de_int) (da_nil)))) (da_cons (de_tup (da_cons (de_str) (da_cons (de_int) (da_nil)))) (da_nil))))) (da_cons (de_tup (da_cons (de_str) (da_cons (de_tup (da_cons (de_str) (da_cons (de_int) (da_nil)))) (da_cons (de_tup (da_cons (de_str) (da_cons (de_int) (da_nil)))) (da_nil))))) (da_nil)))))) (dss_cons (ds_set (i := 9) sc_l_grid.nd (de_tup (da_cons (de_str) (da_cons (dv 8) (da_cons (dv 7) (da_cons (de_tup (da_cons (de_str) (da_cons (de_tup (da_cons (de_str) (da_cons (de_tup (da_cons (de_str) (da_cons (de_int) (da_nil)))) (da_cons (de_tup (da_cons (de_str) (da_cons (de_int) (da_nil)))) (da_nil))))) (da_nil)))) (da_nil))))))) (dss_one (ds_ret (de_lst (da_cons (de_tup (da_cons (de_tup (da_cons (de_tup (da_cons (de_str) (da_cons (de_ix (o_ix (hu_of hr)) (dv 1) (de_int)) (da_nil)))) (da_cons (de_tup (da_cons (de_str) (da_cons (de_ix (o_ix (hu_of hr)) (dv 1) (de_int)) (da_nil)))) (da_nil)))) (da_cons (dv 9) (da_cons (dv 3) (da_nil))))) (da_nil)))))))))))
abbrev K_l_upwards (P : Program) (w : World) (base : Heap) (T : Txt K w mg) (k : Nat) (sp : FSpec) : Prop := FnOk P w K mg base CX0 k T.f_l_upwards T.d_l_upwards ["_law_pen_here", "_law_names_here", "_law_things_here"] (spD K 3 sp)
def t_l_upwards (sp_l_take : FSpec) : TDS := sSeq (sAsg (qOp ixD (qLst (qCons (qTup (qCons (qTup (qCons (qC (.str "num")) (qCons (qC (.int 5)) (qNil)))) (qCons (qC (.int 5)) (qNil)))) (qCons (qTup (qCons (qTup (qCons (qC (.str "size")) (qCons (qOp ixD (qVar 1) (qC (.int 1))) (qNil)))) (qCons (qCl (n1 lenD) (qCons (qOp ixD (qVar 2) (qOp ixD (qVar 1) (qC (.int 1)))) (qNil))) (qNil)))) (qNil)))) (qCall sp_l_take 2 (rSlot 0 (rCons (qC (.int 2)) (rNil))))) (gTupD 2 (gConsD (gN 5) (gConsD (gN 6) (gNilD))))) (sSeq (sAsg (qTup (qCons (qC (.str "call")) (qCons (qC (.int 0)) (qCons (qTup (qCons (qTup (qCons (qC (.str "plus")) (qCons (qTup (qCons (qC (.str "own")) (qCons (qC (.int 0)) (qNil)))) (qCons (qTup (qCons (qC (.str "num")) (qCons (qC (.int 1)) (qNil)))) (qNil))))) (qNil))) (qNil))))) (gN 3)) (sSeq (sAsg (qTup (qCons (qC (.str "if")) (qCons (qTup (qCons (qC (.str "below")) (qCons (qTup (qCons (qC (.str "own")) (qCons (qC (.int 0)) (qNil)))) (qCons (qVar 5) (qNil))))) (qCons (qTup (qCons (qC (.str "both")) (qCons (qVar 3) (qCons (qTup (qCons (qC (.str "gain")) (qCons (qTup (qCons (qC (.str "own")) (qCons (qC (.int 0)) (qNil)))) (qNil)))) (qNil))))) (qCons (qTup (qCons (qC (.str "gain")) (qCons (qTup (qCons (qC (.str "num")) (qCons (qC (.int 0)) (qNil)))) (qNil)))) (qNil)))))) (gN 4)) (sRet (qLst (qCons (qTup (qCons (qTup (qCons (qVar 5) (qNil))) (qCons (qVar 4) (qCons (qTup (qCons (qVar 6) (qNil))) (qNil))))) (qNil))))))
set_option maxHeartbeats 4000000 in
theorem d_l_upwards (T : Txt K w mg) {k : Nat} {k_l_take : Nat} {sp_l_take : FSpec} (G_l_take : FnOk P w K mg base CX0 k_l_take T.f_l_take T.d_l_take ["_law_pen_here", "_law_size"] (spD K 2 sp_l_take)) (h_l_take : k_l_take ≤ k) {cdv : Value} {A : Around} {outer : List Env} {s : Shared} {H : Hp} {E : XK} {B : Bd} (hr : Room k (A.deeper (envOfC "_law_upwards" (defScope s_l_upwards) s.heap.objs.size T.f_l_upwards cdv))) :
    DSs (cxOf CX0 P w K mg base N_l_upwards "_law_upwards" (defScope s_l_upwards) T.f_l_upwards cdv A outer s H E).nox B (defBody s_l_upwards) (t_l_upwards sp_l_take) :=
  dss_cons (ds_asg (de_ix (o_ix (hu_of hr)) (de_lst (da_cons (de_tup (da_cons (de_tup (da_cons (de_str) (da_cons (de_int) (da_nil)))) (da_cons (de_int) (da_nil)))) (da_cons (de_tup (da_cons (de_tup (da_cons (de_str) (da_cons (de_ix (o_ix (hu_of hr)) (dv 1) (de_int)) (da_nil)))) (da_cons (de_callB (c_len) (by rfl) T.z_len (by decide +kernel) (da_cons (de_ix (o_ix (hu_of hr)) (dv 2) (de_ix (o_ix (hu_of hr)) (dv 1) (de_int))) (da_nil))) (da_nil)))) (da_nil)))) (de_call G_l_take (hr.mono (by omega)) (by rfl) T.g_l_take T.F_l_take.kp T.b_l_take (dr_slot (i := 0) (pv 0) (dr_cons (de_int) (dr_nil))))) (dg_tup rfl (dgs_cons (dg_name (i := 5) sc_l_upwards.nd) (dgs_cons (dg_name (i := 6) sc_l_upwards.nd) (dgs_nil))))) (dss_cons (ds_set (i := 3) sc_l_upwards.nd (de_tup (da_cons (de_str) (da_cons (de_int) (da_cons (de_tup (da_cons (de_tup (da_cons (de_str) (da_cons (de_tup (da_cons (de_str) (da_cons (de_int) (da_nil)))) (da_cons (de_tup (da_cons (de_str) (da_cons (de_int) (da_nil)))) (da_nil))))) (da_nil))) (da_nil)))))) (dss_cons (ds_set (i := 4) sc_l_upwards.nd (de_tup (da_cons (de_str) (da_cons (de_tup (da_cons (de_str) (da_cons (de_tup (da_cons (de_str) (da_cons (de_int) (da_nil)))) (da_cons (dv 5) (da_nil))))) (da_cons (de_tup (da_cons (de_str) (da_cons (dv 3) (da_cons (de_tup (da_cons (de_str) (da_cons (de_tup (da_cons (de_str) (da_cons (de_int) (da_nil)))) (da_nil)))) (da_nil))))) (da_cons (de_tup (da_cons (de_str) (da_cons (de_tup (da_cons (de_str) (da_cons (de_int) (da_nil)))) (da_nil)))) (da_nil))))))) (dss_one (ds_ret (de_lst (da_cons (de_tup (da_cons (de_tup (da_cons (dv 5) (da_nil))) (da_cons (dv 4) (da_cons (de_tup (da_cons (dv 6) (da_nil))) (da_nil))))) (da_nil)))))))
def t_l_places_1 (sp_l_take : FSpec) (sp_l_less : FSpec) : TDS := sAsg (qTup (qCons (qC (.str "if")) (qCons (qTup (qCons (qC (.str "below")) (qCons (qTup (qCons (qC (.str "num")) (qCons (qC (.int 0)) (qNil)))) (qCons (qTup (qCons (qC (.str "own")) (qCons (qVar 8) (qNil)))) (qNil))))) (qCons (qVar 9) (qCons (qVar 7) (qNil)))))) (gN 7)
abbrev K_l_places (P : Program) (w : World) (base : Heap) (T : Txt K w mg) (k : Nat) (sp : FSpec) : Prop := FnOk P w K mg base CX0 k T.f_l_places T.d_l_places ["_law_pen_here", "_law_names_here", "_law_things_here"] (spD K 3 sp)
def t_l_places (sp_l_take : FSpec) (sp_l_less : FSpec) : TDS := sSeq (sAsg (qTup (qCons (qC (.str "num")) (qCons (qOp addD (qC (.int 1)) (qCall sp_l_take 2 (rSlot 0 (rCons (qC (.int 2)) (rNil))))) (qNil)))) (gN 3)) (sSeq (sAsg (qTup (qCons (qC (.str "call")) (qCons (qC (.int 0)) (qCons (qTup (qCons (qTup (qCons (qC (.str "own")) (qCons (qC (.int 0)) (qNil)))) (qCons (qTup (qCons (qC (.str "own")) (qCons (qC (.int 1)) (qNil)))) (qCons (qCall sp_l_less 2 (rCons (qC (.int 2)) (rCons (qC (.int 1)) (rNil)))) (qNil))))) (qNil))))) (gN 4)) (sSeq (sAsg (qTup (qCons (qC (.str "call")) (qCons (qC (.int 0)) (qCons (qTup (qCons (qTup (qCons (qC (.str "own")) (qCons (qC (.int 0)) (qNil)))) (qCons (qCall sp_l_less 2 (rCons (qC (.int 1)) (rCons (qC (.int 1)) (rNil)))) (qCons (qVar 3) (qNil))))) (qNil))))) (gN 5)) (sSeq (sAsg (qTup (qCons (qC (.str "call")) (qCons (qC (.int 0)) (qCons (qTup (qCons (qCall sp_l_less 2 (rCons (qC (.int 0)) (rCons (qC (.int 1)) (rNil)))) (qCons (qVar 3) (qCons (qVar 3) (qNil))))) (qNil))))) (gN 6)) (sSeq (sAsg (qTup (qCons (qC (.str "gain")) (qCons (qTup (qCons (qC (.str "num")) (qCons (qC (.int 1)) (qNil)))) (qNil)))) (gN 7)) (sSeq (sFor (qEnum (qCons (qLst (qCons (qVar 6) (qCons (qVar 5) (qCons (qVar 4) (qNil))))) (qNil))) (gTupD 2 (gConsD (gN 8) (gConsD (gN 9) (gNilD)))) ((t_l_places_1 sp_l_take sp_l_less))) (sRet (qLst (qCons (qTup (qCons (qOp mulT (qTup (qCons (qVar 3) (qNil))) (qC (.int 3))) (qCons (qVar 7) (qCons (qOp mulT (qTup (qCons (qOp ixD (qVar 3) (qC (.int 1))) (qNil))) (qC (.int 3))) (qNil))))) (qNil)))))))))
set_option maxHeartbeats 4000000 in
theorem d_l_places (T : Txt K w mg) {k : Nat} {k_l_take : Nat} {sp_l_take : FSpec} (G_l_take : FnOk P w K mg base CX0 k_l_take T.f_l_take T.d_l_take ["_law_pen_here", "_law_size"] (spD K 2 sp_l_take)) (h_l_take : k_l_take ≤ k) {k_l_less : Nat} {sp_l_less : FSpec} (G_l_less : FnOk P w K mg base CX0 k_l_less T.f_l_less T.d_l_less ["_law_k", "_law_n"] (spD K 2 sp_l_less)) (h_l_less : k_l_less ≤ k) {cdv : Value} {A : Around} {outer : List Env} {s : Shared} {H : Hp} {E : XK} {B : Bd} (hr : Room k (A.deeper (envOfC "_law_places" (defScope s_l_places) s.heap.objs.size T.f_l_places cdv))) :
    DSs (cxOf CX0 P w K mg base N_l_places "_law_places" (defScope s_l_places) T.f_l_places cdv A outer s H E).nox B (defBody s_l_places) (t_l_places sp_l_take sp_l_less) :=
  dss_cons (ds_set (i := 3) sc_l_places.nd (de_tup (da_cons (de_str) (da_cons (de_op o_add (de_int) (de_call G_l_take (hr.mono (by omega)) (by rfl) T.g_l_take T.F_l_take.kp T.b_l_take (dr_slot (i := 0) (pv 0) (dr_cons (de_int) (dr_nil))))) (da_nil))))) (dss_cons (ds_set (i := 4) sc_l_places.nd (de_tup (da_cons (de_str) (da_cons (de_int) (da_cons (de_tup (da_cons (de_tup (da_cons (de_str) (da_cons (de_int) (da_nil)))) (da_cons (de_tup (da_cons (de_str) (da_cons (de_int) (da_nil)))) (da_cons (de_call G_l_less (hr.mono (by omega)) (by rfl) T.g_l_less T.F_l_less.kp T.b_l_less (dr_cons (de_int) (dr_cons (de_int) (dr_nil)))) (da_nil))))) (da_nil)))))) (dss_cons (ds_set (i := 5) sc_l_places.nd (de_tup (da_cons (de_str) (da_cons (de_int) (da_cons (de_tup (da_cons (de_tup (da_cons (de_str) (da_cons (de_int) (da_nil)))) (da_cons (de_call G_l_less (hr.mono (by omega)) (by rfl) T.g_l_less T.F_l_less.kp T.b_l_less (dr_cons (de_int) (dr_cons (de_int) (dr_nil)))) (da_cons (dv 3) (da_nil))))) (da_nil)))))) (dss_cons (ds_set (i := 6) sc_l_places.nd (de_tup (da_cons (de_str) (da_cons (de_int) (da_cons (de_tup (da_cons (de_call G_l_less (hr.mono (by omega)) (by rfl) T.g_l_less T.F_l_less.kp T.b_l_less (dr_cons (de_int) (dr_cons (de_int) (dr_nil)))) (da_cons (dv 3) (da_cons (dv 3) (da_nil))))) (da_nil)))))) (dss_cons (ds_set (i := 7) sc_l_places.nd (de_tup (da_cons (de_str) (da_cons (de_tup (da_cons (de_str) (da_cons (de_int) (da_nil)))) (da_nil))))) (dss_cons (ds_for PassesOwn.never rfl (di_enum (by rfl) T.z_enumerate (da_cons (de_lst (da_cons (dv 6) (da_cons (dv 5) (da_cons (dv 4) (da_nil))))) (da_nil))) (dg_tup rfl (dgs_cons (dg_name (i := 8) sc_l_places.nd) (dgs_cons (dg_name (i := 9) sc_l_places.nd) (dgs_nil)))) (dss_one (ds_set (i := 7) sc_l_places.nd (de_tup (da_cons (de_str) (da_cons (de_tup (da_cons (de_str) (da_cons (de_tup (da_cons (de_str) (da_cons (de_int) (da_nil)))) (da_cons (de_tup (da_cons (de_str) (da_cons (dv 8) (da_nil)))) (da_nil))))) (da_cons (dv 9) (da_cons (dv 7) (da_nil))))))))) (dss_one (ds_ret (de_lst (da_cons (de_tup (da_cons (de_op o_mulT (de_tup (da_cons (dv 3) (da_nil))) (de_int)) (da_cons (dv 7) (da_cons (de_op o_mulT (de_tup (da_cons (de_ix (o_ix (hu_of hr)) (dv 3) (de_int)) (da_nil))) (de_int)) (da_nil))))) (da_nil))))))))))
abbrev K_l_arg (P : Program) (w : World) (base : Heap) (T : Txt K w mg) (k : Nat) (sp : FSpec) : Prop := FnOk P w K mg base CX0 k T.f_l_arg T.d_l_arg ["_law_pen_here", "_law_names_here", "_law_first", "_law_own"] (spD K 4 sp)
def t_l_arg (sp_l_take : FSpec) : TDS := sSeq (sAsg (qTup (qCons (qC (.str "own")) (qCons (qCall sp_l_take 2 (rSlot 0 (rCons (qVar 2) (rNil)))) (qNil)))) (gN 4)) (sSeq (sAsg (qTup (qCons (qC (.str "own")) (qCons (qCall sp_l_take 2 (rSlot 0 (rCons (qVar 3) (rNil)))) (qNil)))) (gN 5)) (sSeq (sAsg (qTup (qCons (qC (.str "num")) (qCons (qCall sp_l_take 2 (rSlot 0 (rCons (qC (.int 3)) (rNil)))) (qNil)))) (gN 6)) (sSeq (sAsg (qLst (qCons (qVar 4) (qCons (qVar 5) (qCons (qVar 6) (qCons (qTup (qCons (qC (.str "less")) (qCons (qVar 4) (qCons (qTup (qCons (qC (.str "num")) (qCons (qC (.int 1)) (qNil)))) (qNil))))) (qCons (qTup (qCons (qC (.str "less")) (qCons (qVar 5) (qCons (qVar 6) (qNil))))) (qCons (qTup (qCons (qC (.str "plus")) (qCons (qVar 4) (qCons (qVar 6) (qNil))))) (qNil)))))))) (gN 7)) (sSeq (sAsg (qOp addD (qVar 7) (qLst (qCons (qTup (qCons (qC (.str "half")) (qCons (qVar 5) (qNil)))) (qCons (qTup (qCons (qC (.str "lesser")) (qCons (qVar 5) (qCons (qVar 6) (qNil))))) (qCons (qTup (qCons (qC (.str "without")) (qCons (qVar 4) (qCons (qVar 5) (qNil))))) (qCons (qTup (qCons (qC (.str "rest")) (qCons (qVar 5) (qCons (qTup (qCons (qC (.str "num")) (qCons (qC (.int 2)) (qNil)))) (qNil))))) (qNil))))))) (gN 7)) (sSeq (sAsg (qOp addD (qVar 7) (qLst (qCons (qTup (qCons (qC (.str "less")) (qCons (qTup (qCons (qC (.str "size")) (qCons (qOp ixD (qVar 1) (qC (.int 1))) (qNil)))) (qCons (qVar 4) (qNil))))) (qCons (qTup (qCons (qC (.str "times")) (qCons (qTup (qCons (qC (.str "num")) (qCons (qC (.int 2)) (qNil)))) (qCons (qVar 4) (qNil))))) (qCons (qTup (qCons (qC (.str "less")) (qCons (qVar 4) (qCons (qTup (qCons (qC (.str "num")) (qCons (qC (.int 1)) (qNil)))) (qNil))))) (qNil)))))) (gN 7)) (sRet (qOp ixD (qOp addD (qVar 7) (qLst (qCons (qTup (qCons (qC (.str "less")) (qCons (qVar 4) (qCons (qTup (qCons (qC (.str "num")) (qCons (qC (.int 2)) (qNil)))) (qNil))))) (qCons (qTup (qCons (qC (.str "at")) (qCons (qOp ixD (qVar 1) (qC (.int 1))) (qCons (qVar 5) (qNil))))) (qCons (qVar 4) (qNil)))))) (qCall sp_l_take 2 (rSlot 0 (rCons (qC (.int 16)) (rNil)))))))))))
set_option maxHeartbeats 4000000 in
theorem d_l_arg (T : Txt K w mg) {k : Nat} {k_l_take : Nat} {sp_l_take : FSpec} (G_l_take : FnOk P w K mg base CX0 k_l_take T.f_l_take T.d_l_take ["_law_pen_here", "_law_size"] (spD K 2 sp_l_take)) (h_l_take : k_l_take ≤ k) {cdv : Value} {A : Around} {outer : List Env} {s : Shared} {H : Hp} {E : XK} {B : Bd} (hr : Room k (A.deeper (envOfC "_law_arg" (defScope s_l_arg) s.heap.objs.size T.f_l_arg cdv))) :
    DSs (cxOf CX0 P w K mg base N_l_arg "_law_arg" (defScope s_l_arg) T.f_l_arg cdv A outer s H E).nox B (defBody s_l_arg) (t_l_arg sp_l_take) :=
  dss_cons (ds_set (i := 4) sc_l_arg.nd (de_tup (da_cons (de_str) (da_cons (de_call G_l_take (hr.mono (by omega)) (by rfl) T.g_l_take T.F_l_take.kp T.b_l_take (dr_slot (i := 0) (pv 0) (dr_cons (dv 2) (dr_nil)))) (da_nil))))) (dss_cons (ds_set (i := 5) sc_l_arg.nd (de_tup (da_cons (de_str) (da_cons (de_call G_l_take (hr.mono (by omega)) (by rfl) T.g_l_take T.F_l_take.kp T.b_l_take (dr_slot (i := 0) (pv 0) (dr_cons (dv 3) (dr_nil)))) (da_nil))))) (dss_cons (ds_set (i := 6) sc_l_arg.nd (de_tup (da_cons (de_str) (da_cons (de_call G_l_take (hr.mono (by omega)) (by rfl) T.g_l_take T.F_l_take.kp T.b_l_take (dr_slot (i := 0) (pv 0) (dr_cons (de_int) (dr_nil)))) (da_nil))))) (dss_cons (ds_set (i := 7) sc_l_arg.nd (de_lst (da_cons (dv 4) (da_cons (dv 5) (da_cons (dv 6) (da_cons (de_tup (da_cons (de_str) (da_cons (dv 4) (da_cons (de_tup (da_cons (de_str) (da_cons (de_int) (da_nil)))) (da_nil))))) (da_cons (de_tup (da_cons (de_str) (da_cons (dv 5) (da_cons (dv 6) (da_nil))))) (da_cons (de_tup (da_cons (de_str) (da_cons (dv 4) (da_cons (dv 6) (da_nil))))) (da_nil))))))))) (dss_cons (ds_set (i := 7) sc_l_arg.nd (de_op o_add (dv 7) (de_lst (da_cons (de_tup (da_cons (de_str) (da_cons (dv 5) (da_nil)))) (da_cons (de_tup (da_cons (de_str) (da_cons (dv 5) (da_cons (dv 6) (da_nil))))) (da_cons (de_tup (da_cons (de_str) (da_cons (dv 4) (da_cons (dv 5) (da_nil))))) (da_cons (de_tup (da_cons (de_str) (da_cons (dv 5) (da_cons (de_tup (da_cons (de_str) (da_cons (de_int) (da_nil)))) (da_nil))))) (da_nil)))))))) (dss_cons (ds_set (i := 7) sc_l_arg.nd (de_op o_add (dv 7) (de_lst (da_cons (de_tup (da_cons (de_str) (da_cons (de_tup (da_cons (de_str) (da_cons (de_ix (o_ix (hu_of hr)) (dv 1) (de_int)) (da_nil)))) (da_cons (dv 4) (da_nil))))) (da_cons (de_tup (da_cons (de_str) (da_cons (de_tup (da_cons (de_str) (da_cons (de_int) (da_nil)))) (da_cons (dv 4) (da_nil))))) (da_cons (de_tup (da_cons (de_str) (da_cons (dv 4) (da_cons (de_tup (da_cons (de_str) (da_cons (de_int) (da_nil)))) (da_nil))))) (da_nil))))))) (dss_one (ds_ret (de_ix (o_ix (hu_of hr)) (de_op o_add (dv 7) (de_lst (da_cons (de_tup (da_cons (de_str) (da_cons (dv 4) (da_cons (de_tup (da_cons (de_str) (da_cons (de_int) (da_nil)))) (da_nil))))) (da_cons (de_tup (da_cons (de_str) (da_cons (de_ix (o_ix (hu_of hr)) (dv 1) (de_int)) (da_cons (dv 5) (da_nil))))) (da_cons (dv 4) (da_nil)))))) (de_call G_l_take (hr.mono (by omega)) (by rfl) T.g_l_take T.F_l_take.kp T.b_l_take (dr_slot (i := 0) (pv 0) (dr_cons (de_int) (dr_nil))))))))))))
def t_l_call_1 (sp_l_take : FSpec) (sp_l_arg : FSpec) : TD := qCall sp_l_arg 4 (rSlot 0 (rCons (qVar 1) (rCons (qVar 3) (rCons (qVar 4) (rNil)))))
abbrev K_l_call (P : Program) (w : World) (base : Heap) (T : Txt K w mg) (k : Nat) (sp : FSpec) : Prop := FnOk P w K mg base CX0 k T.f_l_call T.d_l_call ["_law_pen_here", "_law_names_here", "_law_counts", "_law_first", "_law_own"] (spD K 5 sp)
def t_l_call (sp_l_take : FSpec) (sp_l_arg : FSpec) : TDS := sSeq (sAsg (qCall sp_l_take 2 (rSlot 0 (rCons (qCl (n1 lenD) (qCons (qVar 2) (qNil))) (rNil)))) (gN 5)) (sRet (qTup (qCons (qC (.str "call")) (qCons (qVar 5) (qCons (qCl (n1 tupleD) (qCons (qFz (fComp (qRg1 (qCons (qOp ixD (qVar 2) (qVar 5)) (qNil))) (gN 6) (qYes) ((t_l_call_1 sp_l_take sp_l_arg)) [6])) (qNil))) (qNil))))))
set_option maxHeartbeats 4000000 in
theorem d_l_call (T : Txt K w mg) {k : Nat} {k_l_take : Nat} {sp_l_take : FSpec} (G_l_take : FnOk P w K mg base CX0 k_l_take T.f_l_take T.d_l_take ["_law_pen_here", "_law_size"] (spD K 2 sp_l_take)) (h_l_take : k_l_take ≤ k) {k_l_arg : Nat} {sp_l_arg : FSpec} (G_l_arg : FnOk P w K mg base CX0 k_l_arg T.f_l_arg T.d_l_arg ["_law_pen_here", "_law_names_here", "_law_first", "_law_own"] (spD K 4 sp_l_arg)) (h_l_arg : k_l_arg ≤ k) {cdv : Value} {A : Around} {outer : List Env} {s : Shared} {H : Hp} {E : XK} {B : Bd} (hr : Room k (A.deeper (envOfC "_law_call" (defScope s_l_call) s.heap.objs.size T.f_l_call cdv))) :
    DSs (cxOf CX0 P w K mg base N_l_call "_law_call" (defScope s_l_call) T.f_l_call cdv A outer s H E).nox B (defBody s_l_call) (t_l_call sp_l_take sp_l_arg) :=
  dss_cons (ds_set (i := 5) sc_l_call.nd (de_call G_l_take (hr.mono (by omega)) (by rfl) T.g_l_take T.F_l_take.kp T.b_l_take (dr_slot (i := 0) (pv 0) (dr_cons (de_callB (c_len) (by rfl) T.z_len (by decide +kernel) (da_cons (dv 2) (da_nil))) (dr_nil))))) (dss_one (ds_ret (de_tup (da_cons (de_str) (da_cons (dv 5) (da_cons (de_callTy (c_tuple) (by rfl) T.z_tuple (by decide +kernel) (da_cons (DF.de (df_comp (own := [("_law_k", 6)]) rfl sc_l_call.nd (di_range1 (by rfl) T.z_range (da_cons (de_ix (o_ix (hu_of hr)) (dv 2) (dv 5)) (da_nil))) (blkOk_by (own := [("_law_k", 6)]) (N := N_l_call) (sc := defScope s_l_call) (by decide +kernel)) (fun _ _ _ _ _ _ => dg_name (i := 6) sc_l_call.nd) (fun _ _ _ _ _ _ => dts_nil) (fun _ _ _ _ _ _ => de_call G_l_arg (hr.mono (by omega)) (by rfl) T.g_l_arg T.F_l_arg.kp T.b_l_arg (dr_slot (i := 0) (pv 0) (dr_cons (dv 1) (dr_cons (dv 3) (dr_cons (dv 4) (dr_nil)))))))) (da_nil))) (da_nil)))))))
abbrev K_l_turned (P : Program) (w : World) (base : Heap) (T : Txt K w mg) (k : Nat) (sp : FSpec) : Prop := FnOk P w K mg base CX0 k T.f_l_turned T.d_l_turned ["_law_pen_here", "_law_names_here", "_law_counts", "_law_first", "_law_own"] (spD K 5 sp)
def t_l_turned (sp_l_take : FSpec) (sp_l_less : FSpec) (sp_l_call : FSpec) (sp_l_turned : FSpec) : TDS := sSeq (sAsg (qOp ixD (qLst (qCons (qTup (qCons (qC (.str "num")) (qCons (qC (.int 0)) (qNil)))) (qCons (qTup (qCons (qC (.str "num")) (qCons (qC (.int 1)) (qNil)))) (qCons (qTup (qCons (qC (.str "own")) (qCons (qCall sp_l_take 2 (rSlot 0 (rCons (qVar 4) (rNil)))) (qNil)))) (qNil))))) (qCall sp_l_take 2 (rSlot 0 (rCons (qC (.int 3)) (rNil))))) (gN 5)) (sSeq (sAsg (qOp ixD (qLst (qCons (qTup (qCons (qC (.str "num")) (qCons (qC (.int 2)) (qNil)))) (qCons (qTup (qCons (qC (.str "own")) (qCons (qCall sp_l_take 2 (rSlot 0 (rCons (qVar 4) (rNil)))) (qNil)))) (qCons (qCall sp_l_less 2 (rCons (qCall sp_l_take 2 (rSlot 0 (rCons (qVar 4) (rNil)))) (rCons (qC (.int 1)) (rNil)))) (qNil))))) (qCall sp_l_take 2 (rSlot 0 (rCons (qC (.int 3)) (rNil))))) (gN 6)) (sSeq (sAsg (qCall sp_l_call 5 (rSlot 0 (rCons (qVar 1) (rCons (qVar 2) (rCons (qVar 3) (rCons (qOp addD (qVar 4) (qC (.int 1))) (rNil))))))) (gN 7)) (sSeq (sIf (qAnd (qTest (qOp eqD (qVar 4) (qVar 3))) (qTest (qOp eqD (qCall sp_l_take 2 (rSlot 0 (rCons (qC (.int 3)) (rNil)))) (qC (.int 0))))) (sAsg (qCall sp_l_turned 5 (rSlot 0 (rCons (qVar 1) (rCons (qVar 2) (rCons (qVar 3) (rCons (qOp addD (qVar 4) (qC (.int 1))) (rNil))))))) (gN 7)) (sNext)) (sRet (qTup (qCons (qOp ixD (qLst (qCons (qC (.str "each")) (qCons (qC (.str "all")) (qNil)))) (qCall sp_l_take 2 (rSlot 0 (rCons (qC (.int 2)) (rNil))))) (qCons (qVar 5) (qCons (qVar 6) (qCons (qVar 7) (qNil))))))))))
set_option maxHeartbeats 4000000 in
theorem d_l_turned (T : Txt K w mg) {k : Nat} {k_l_take : Nat} {sp_l_take : FSpec} (G_l_take : FnOk P w K mg base CX0 k_l_take T.f_l_take T.d_l_take ["_law_pen_here", "_law_size"] (spD K 2 sp_l_take)) (h_l_take : k_l_take ≤ k) {k_l_less : Nat} {sp_l_less : FSpec} (G_l_less : FnOk P w K mg base CX0 k_l_less T.f_l_less T.d_l_less ["_law_k", "_law_n"] (spD K 2 sp_l_less)) (h_l_less : k_l_less ≤ k) {k_l_call : Nat} {sp_l_call : FSpec} (G_l_call : FnOk P w K mg base CX0 k_l_call T.f_l_call T.d_l_call ["_law_pen_here", "_law_names_here", "_law_counts", "_law_first", "_law_own"] (spD K 5 sp_l_call)) (h_l_call : k_l_call ≤ k) {k_l_turned : Nat} {sp_l_turned : FSpec} (G_l_turned : FnOk P w K mg base CX0 k_l_turned T.f_l_turned T.d_l_turned ["_law_pen_here", "_law_names_here", "_law_counts", "_law_first", "_law_own"] (spD K 5 sp_l_turned)) (h_l_turned : k_l_turned ≤ k) {cdv : Value} {A : Around} {outer : List Env} {s : Shared} {H : Hp} {E : XK} {B : Bd} (hr : Room k (A.deeper (envOfC "_law_turned" (defScope s_l_turned) s.heap.objs.size T.f_l_turned cdv))) :
    DSs (cxOf CX0 P w K mg base N_l_turned "_law_turned" (defScope s_l_turned) T.f_l_turned cdv A outer s H E).nox B (defBody s_l_turned) (t_l_turned sp_l_take sp_l_less sp_l_call sp_l_turned) :=
  dss_cons (ds_set (i := 5) sc_l_turned.nd (de_ix (o_ix (hu_of hr)) (de_lst (da_cons (de_tup (da_cons (de_str) (da_cons (de_int) (da_nil)))) (da_cons (de_tup (da_cons (de_str) (da_cons (de_int) (da_nil)))) (da_cons (de_tup (da_cons (de_str) (da_cons (de_call G_l_take (hr.mono (by omega)) (by rfl) T.g_l_take T.F_l_take.kp T.b_l_take (dr_slot (i := 0) (pv 0) (dr_cons (dv 4) (dr_nil)))) (da_nil)))) (da_nil))))) (de_call G_l_take (hr.mono (by omega)) (by rfl) T.g_l_take T.F_l_take.kp T.b_l_take (dr_slot (i := 0) (pv 0) (dr_cons (de_int) (dr_nil)))))) (dss_cons (ds_set (i := 6) sc_l_turned.nd (de_ix (o_ix (hu_of hr)) (de_lst (da_cons (de_tup (da_cons (de_str) (da_cons (de_int) (da_nil)))) (da_cons (de_tup (da_cons (de_str) (da_cons (de_call G_l_take (hr.mono (by omega)) (by rfl) T.g_l_take T.F_l_take.kp T.b_l_take (dr_slot (i := 0) (pv 0) (dr_cons (dv 4) (dr_nil)))) (da_nil)))) (da_cons (de_call G_l_less (hr.mono (by omega)) (by rfl) T.g_l_less T.F_l_less.kp T.b_l_less (dr_cons (de_call G_l_take (hr.mono (by omega)) (by rfl) T.g_l_take T.F_l_take.kp T.b_l_take (dr_slot (i := 0) (pv 0) (dr_cons (dv 4) (dr_nil)))) (dr_cons (de_int) (dr_nil)))) (da_nil))))) (de_call G_l_take (hr.mono (by omega)) (by rfl) T.g_l_take T.F_l_take.kp T.b_l_take (dr_slot (i := 0) (pv 0) (dr_cons (de_int) (dr_nil)))))) (dss_cons (ds_set (i := 7) sc_l_turned.nd (de_call G_l_call (hr.mono (by omega)) (by rfl) T.g_l_call T.F_l_call.kp T.b_l_call (dr_slot (i := 0) (pv 0) (dr_cons (dv 1) (dr_cons (dv 2) (dr_cons (dv 3) (dr_cons (de_op o_add (dv 4) (de_int)) (dr_nil)))))))) (dss_cons (ds_if (DW.dt (dw_and (dt_cmp (o_eq hr.units) (dv 4) (dv 3) (nomark _)) (dw_and1 (dt_cmp (o_eq hr.units) (de_call G_l_take (hr.mono (by omega)) (by rfl) T.g_l_take T.F_l_take.kp T.b_l_take (dr_slot (i := 0) (pv 0) (dr_cons (de_int) (dr_nil)))) (de_int) (nomark _))))) (dss_one (ds_set (i := 7) sc_l_turned.nd (de_call G_l_turned (hr.mono (by omega)) (by rfl) T.g_l_turned T.F_l_turned.kp T.b_l_turned (dr_slot (i := 0) (pv 0) (dr_cons (dv 1) (dr_cons (dv 2) (dr_cons (dv 3) (dr_cons (de_op o_add (dv 4) (de_int)) (dr_nil))))))))) (dss_nil)) (dss_one (ds_ret (de_tup (da_cons (de_ix (o_ix (hu_of hr)) (de_lst (da_cons (de_str) (da_cons (de_str) (da_nil)))) (de_call G_l_take (hr.mono (by omega)) (by rfl) T.g_l_take T.F_l_take.kp T.b_l_take (dr_slot (i := 0) (pv 0) (dr_cons (de_int) (dr_nil))))) (da_cons (dv 5) (da_cons (dv 6) (da_cons (dv 7) (da_nil)))))))))))
abbrev K_l_item (P : Program) (w : World) (base : Heap) (T : Txt K w mg) (k : Nat) (sp : FSpec) : Prop := FnOk P w K mg base CX0 k T.f_l_item T.d_l_item ["_law_pen_here", "_law_names_here", "_law_counts", "_law_first", "_law_k"] (spD K 5 sp)
def t_l_item (sp_l_take : FSpec) (sp_l_call : FSpec) (sp_l_turned : FSpec) : TDS := sSeq (sAsg (qCall sp_l_take 2 (rSlot 0 (rCons (qC (.int 7)) (rNil)))) (gN 5)) (sSeq (sIf (qTest (qOp (i2 fun i j Q => Q (.bl (decide (i < j)))) (qVar 5) (qC (.int 2)))) (sRet (qCall sp_l_call 5 (rSlot 0 (rCons (qVar 1) (rCons (qVar 2) (rCons (qVar 3) (rCons (qVar 3) (rNil)))))))) (sNext)) (sSeq (sIf (qTest (qOp eqD (qVar 5) (qC (.int 2)))) (sRet (qTup (qCons (qC (.str "both")) (qCons (qCall sp_l_call 5 (rSlot 0 (rCons (qVar 1) (rCons (qVar 2) (rCons (qVar 3) (rCons (qVar 3) (rNil))))))) (qCons (qTup (qCons (qC (.str "gain")) (qCons (qTup (qCons (qC (.str "num")) (qCons (qOp (i2 fun i j Q => Q (.int (i - j))) (qCall sp_l_take 2 (rSlot 0 (rCons (qC (.int 5)) (rNil)))) (qC (.int 2))) (qNil)))) (qNil)))) (qNil)))))) (sNext)) (sSeq (sIf (qAnd (qTest (qOp eqD (qVar 5) (qC (.int 3)))) (qTest (qOp eqD (qVar 4) (qC (.int 0))))) (sRet (qCall sp_l_turned 5 (rSlot 0 (rCons (qVar 1) (rCons (qVar 2) (rCons (qVar 3) (rCons (qVar 3) (rNil)))))))) (sNext)) (sRet (qOp ixD (qLst (qCons (qTup (qCons (qC (.str "none")) (qNil))) (qCons (qTup (qCons (qC (.str "gain")) (qCons (qTup (qCons (qC (.str "own")) (qCons (qC (.int 0)) (qNil)))) (qNil)))) (qCons (qTup (qCons (qC (.str "gain")) (qCons (qTup (qCons (qC (.str "num")) (qCons (qC (.int 3)) (qNil)))) (qNil)))) (qCons (qTup (qCons (qC (.str "gain")) (qCons (qTup (qCons (qC (.str "need")) (qCons (qOp ixD (qVar 1) (qC (.int 0))) (qNil)))) (qNil)))) (qNil)))))) (qCall sp_l_take 2 (rSlot 0 (rCons (qC (.int 4)) (rNil)))))))))
set_option maxHeartbeats 4000000 in
theorem d_l_item (T : Txt K w mg) {k : Nat} {k_l_take : Nat} {sp_l_take : FSpec} (G_l_take : FnOk P w K mg base CX0 k_l_take T.f_l_take T.d_l_take ["_law_pen_here", "_law_size"] (spD K 2 sp_l_take)) (h_l_take : k_l_take ≤ k) {k_l_call : Nat} {sp_l_call : FSpec} (G_l_call : FnOk P w K mg base CX0 k_l_call T.f_l_call T.d_l_call ["_law_pen_here", "_law_names_here", "_law_counts", "_law_first", "_law_own"] (spD K 5 sp_l_call)) (h_l_call : k_l_call ≤ k) {k_l_turned : Nat} {sp_l_turned : FSpec} (G_l_turned : FnOk P w K mg base CX0 k_l_turned T.f_l_turned T.d_l_turned ["_law_pen_here", "_law_names_here", "_law_counts", "_law_first", "_law_own"] (spD K 5 sp_l_turned)) (h_l_turned : k_l_turned ≤ k) {cdv : Value} {A : Around} {outer : List Env} {s : Shared} {H : Hp} {E : XK} {B : Bd} (hr : Room k (A.deeper (envOfC "_law_item" (defScope s_l_item) s.heap.objs.size T.f_l_item cdv))) :
    DSs (cxOf CX0 P w K mg base N_l_item "_law_item" (defScope s_l_item) T.f_l_item cdv A outer s H E).nox B (defBody s_l_item) (t_l_item sp_l_take sp_l_call sp_l_turned) :=
  dss_cons (ds_set (i := 5) sc_l_item.nd (de_call G_l_take (hr.mono (by omega)) (by rfl) T.g_l_take T.F_l_take.kp T.b_l_take (dr_slot (i := 0) (pv 0) (dr_cons (de_int) (dr_nil))))) (dss_cons (ds_if (dt_cmp (o_lt) (dv 5) (de_int) (nomark _)) (dss_one (ds_ret (de_call G_l_call (hr.mono (by omega)) (by rfl) T.g_l_call T.F_l_call.kp T.b_l_call (dr_slot (i := 0) (pv 0) (dr_cons (dv 1) (dr_cons (dv 2) (dr_cons (dv 3) (dr_cons (dv 3) (dr_nil))))))))) (dss_nil)) (dss_cons (ds_if (dt_cmp (o_eq hr.units) (dv 5) (de_int) (nomark _)) (dss_one (ds_ret (de_tup (da_cons (de_str) (da_cons (de_call G_l_call (hr.mono (by omega)) (by rfl) T.g_l_call T.F_l_call.kp T.b_l_call (dr_slot (i := 0) (pv 0) (dr_cons (dv 1) (dr_cons (dv 2) (dr_cons (dv 3) (dr_cons (dv 3) (dr_nil))))))) (da_cons (de_tup (da_cons (de_str) (da_cons (de_tup (da_cons (de_str) (da_cons (de_op o_sub (de_call G_l_take (hr.mono (by omega)) (by rfl) T.g_l_take T.F_l_take.kp T.b_l_take (dr_slot (i := 0) (pv 0) (dr_cons (de_int) (dr_nil)))) (de_int)) (da_nil)))) (da_nil)))) (da_nil))))))) (dss_nil)) (dss_cons (ds_if (DW.dt (dw_and (dt_cmp (o_eq hr.units) (dv 5) (de_int) (nomark _)) (dw_and1 (dt_cmp (o_eq hr.units) (dv 4) (de_int) (nomark _))))) (dss_one (ds_ret (de_call G_l_turned (hr.mono (by omega)) (by rfl) T.g_l_turned T.F_l_turned.kp T.b_l_turned (dr_slot (i := 0) (pv 0) (dr_cons (dv 1) (dr_cons (dv 2) (dr_cons (dv 3) (dr_cons (dv 3) (dr_nil))))))))) (dss_nil)) (dss_one (ds_ret (de_ix (o_ix (hu_of hr)) (de_lst (da_cons (de_tup (da_cons (de_str) (da_nil))) (da_cons (de_tup (da_cons (de_str) (da_cons (de_tup (da_cons (de_str) (da_cons (de_int) (da_nil)))) (da_nil)))) (da_cons (de_tup (da_cons (de_str) (da_cons (de_tup (da_cons (de_str) (da_cons (de_int) (da_nil)))) (da_nil)))) (da_cons (de_tup (da_cons (de_str) (da_cons (de_tup (da_cons (de_str) (da_cons (de_ix (o_ix (hu_of hr)) (dv 1) (de_int)) (da_nil)))) (da_nil)))) (da_nil)))))) (de_call G_l_take (hr.mono (by omega)) (by rfl) T.g_l_take T.F_l_take.kp T.b_l_take (dr_slot (i := 0) (pv 0) (dr_cons (de_int) (dr_nil))))))))))
def t_l_wild_1 (sp_l_take : FSpec) (sp_l_item : FSpec) : TD := qOp addD (qC (.int 1)) (qCall sp_l_take 2 (rSlot 0 (rCons (qC (.int 3)) (rNil))))
def t_l_wild_2 (sp_l_take : FSpec) (sp_l_item : FSpec) : TD := qOp addD (qOp ixD (qLst (qCons (qC (.int 2)) (qCons (qC (.int 1)) (qCons (qC (.int 1)) (qNil))))) (qOp (i2 fun i j Q => Q (.int (i - j))) (qVar 5) (qC (.int 1)))) (qCall sp_l_take 2 (rSlot 0 (rCons (qOp ixD (qLst (qCons (qC (.int 4)) (qCons (qC (.int 3)) (qCons (qC (.int 2)) (qNil))))) (qOp (i2 fun i j Q => Q (.int (i - j))) (qVar 5) (qC (.int 1)))) (rNil))))
def t_l_wild_3 (sp_l_take : FSpec) (sp_l_item : FSpec) : TD := qCall sp_l_item 5 (rSlot 0 (rCons (qVar 1) (rCons (qVar 3) (rCons (qVar 5) (rCons (qVar 9) (rNil))))))
def t_l_wild_4 (sp_l_take : FSpec) (sp_l_item : FSpec) : TDS := sAsg (qTup (qCons (qC (.str "both")) (qCons (qVar 8) (qCons (qVar 10) (qNil))))) (gN 8)
def t_l_wild_5 (sp_l_take : FSpec) (sp_l_item : FSpec) : TD := qTup (qCons (qC (.str "num")) (qCons (qVar 12) (qNil)))
def t_l_wild_6 (sp_l_take : FSpec) (sp_l_item : FSpec) : TDS := sSeq (sAsg (qCl (n1 tupleD) (qCons (qFz (fComp (qRg1 (qCons (qVar 5) (qNil))) (gN 9) (qYes) ((t_l_wild_2 sp_l_take sp_l_item)) [9])) (qNil))) (gN 6)) (sSeq (sFzAt 7 (sOwn 7 (fComp (qRg1 (qCons (qOp addD (qC (.int 1)) (qCall sp_l_take 2 (rSlot 0 (rCons (qC (.int 3)) (rNil))))) (qNil))) (gN 9) (qYes) ((t_l_wild_3 sp_l_take sp_l_item)) [9]))) (sSeq (sAsg (qTup (qCons (qC (.str "choose")) (qCons (qCl (n1 tupleD) (qCons (qVar 7) (qNil))) (qNil)))) (gN 8)) (sSeq (sIf (qTest (qOp eqD (qCall sp_l_take 2 (rSlot 0 (rCons (qC (.int 3)) (rNil)))) (qC (.int 0)))) (sSeq (sAsg (qOp ixD (qVar 7) (qC (.int 0))) (gN 8)) (sFor (qIter (qSl slD (qVar 7) (qPart (qC (.int 1))) (qNoPart))) (gN 10) ((t_l_wild_4 sp_l_take sp_l_item)))) (sNext)) (sSeq (sIf (qTest (qOp (i2 fun i j Q => Q (.bl (decide (j < i)))) (qCall sp_l_take 2 (rSlot 0 (rCons (qC (.int 4)) (rNil)))) (qC (.int 0)))) (sSeq (sAsg (qTup (qCons (qC (.str "own")) (qCons (qCall sp_l_take 2 (rSlot 0 (rCons (qVar 5) (rNil)))) (qNil)))) (gN 10)) (sSeq (sAsg (qLst (qCons (qTup (qCons (qC (.str "below")) (qCons (qVar 10) (qCons (qTup (qCons (qC (.str "num")) (qCons (qC (.int 1)) (qNil)))) (qNil))))) (qCons (qTup (qCons (qC (.str "same")) (qCons (qVar 10) (qCons (qTup (qCons (qC (.str "own")) (qCons (qC (.int 0)) (qNil)))) (qNil))))) (qCons (qTup (qCons (qC (.str "below")) (qCons (qVar 10) (qCons (qTup (qCons (qC (.str "num")) (qCons (qC (.int 2)) (qNil)))) (qNil))))) (qNil))))) (gN 11)) (sAsg (qTup (qCons (qC (.str "if")) (qCons (qOp ixD (qVar 11) (qCall sp_l_take 2 (rSlot 0 (rCons (qC (.int 3)) (rNil))))) (qCons (qTup (qCons (qC (.str "gain")) (qCons (qTup (qCons (qC (.str "num")) (qCons (qCall sp_l_take 2 (rSlot 0 (rCons (qC (.int 3)) (rNil)))) (qNil)))) (qNil)))) (qCons (qVar 8) (qNil)))))) (gN 8)))) (sNext)) (sApp 4 (qTup (qCons (qCl (n1 tupleD) (qCons (qFz (fComp (qIter (qVar 6)) (gN 12) (qYes) ((t_l_wild_5 sp_l_take sp_l_item)) [12])) (qNil))) (qCons (qVar 8) (qCons (qVar 6) (qNil))))))))))
abbrev K_l_wild (P : Program) (w : World) (base : Heap) (T : Txt K w mg) (k : Nat) (sp : FSpec) : Prop := FnOk P w K mg base CX0 k T.f_l_wild T.d_l_wild ["_law_pen_here", "_law_names_here", "_law_things_here"] (spD K 3 sp)
def t_l_wild (sp_l_take : FSpec) (sp_l_item : FSpec) : TDS := sSeq (sAsg (qFz (fComp (qRg1 (qCons (qOp addD (qC (.int 1)) (qCall sp_l_take 2 (rSlot 0 (rCons (qC (.int 4)) (rNil))))) (qNil))) (gN 9) (qYes) ((t_l_wild_1 sp_l_take sp_l_item)) [9])) (gN 3)) (sSeq (sOwn 4 (fLst (qNil))) (sSeq (sFor (qIter (qVar 3)) (gN 5) ((t_l_wild_6 sp_l_take sp_l_item))) (sFz 4 (sRet (qVar 4)))))
set_option maxHeartbeats 4000000 in
theorem d_l_wild (T : Txt K w mg) {k : Nat} {k_l_take : Nat} {sp_l_take : FSpec} (G_l_take : FnOk P w K mg base CX0 k_l_take T.f_l_take T.d_l_take ["_law_pen_here", "_law_size"] (spD K 2 sp_l_take)) (h_l_take : k_l_take ≤ k) {k_l_item : Nat} {sp_l_item : FSpec} (G_l_item : FnOk P w K mg base CX0 k_l_item T.f_l_item T.d_l_item ["_law_pen_here", "_law_names_here", "_law_counts", "_law_first", "_law_k"] (spD K 5 sp_l_item)) (h_l_item : k_l_item ≤ k) {cdv : Value} {A : Around} {outer : List Env} {s : Shared} {H : Hp} {E : XK} {B : Bd} (hr : Room k (A.deeper (envOfC "_law_wild" (defScope s_l_wild) s.heap.objs.size T.f_l_wild cdv))) :
    DSs (cxOf CX0 P w K mg base N_l_wild "_law_wild" (defScope s_l_wild) T.f_l_wild cdv A outer s H E).nox B (defBody s_l_wild) (t_l_wild sp_l_take sp_l_item) :=
  dss_cons (ds_set (i := 3) sc_l_wild.nd (DF.de (df_comp (own := [("_law_k", 9)]) rfl sc_l_wild.nd (di_range1 (by rfl) T.z_range (da_cons (de_op o_add (de_int) (de_call G_l_take (hr.mono (by omega)) (by rfl) T.g_l_take T.F_l_take.kp T.b_l_take (dr_slot (i := 0) (pv 0) (dr_cons (de_int) (dr_nil))))) (da_nil))) (blkOk_by (own := [("_law_k", 9)]) (N := N_l_wild) (sc := defScope s_l_wild) (by decide +kernel)) (fun _ _ _ _ _ _ => dg_name (i := 9) sc_l_wild.nd) (fun _ _ _ _ _ _ => dts_nil) (fun _ _ _ _ _ _ => de_op o_add (de_int) (de_call G_l_take (hr.mono (by omega)) (by rfl) T.g_l_take T.F_l_take.kp T.b_l_take (dr_slot (i := 0) (pv 0) (dr_cons (de_int) (dr_nil)))))))) (dss_cons (ds_own (i := 4) sc_l_wild.nd (df_lst (da_nil))) (dss_cons (ds_for PassesOwn.never rfl (di_any (dv 3)) (dg_name (i := 5) sc_l_wild.nd) (dss_cons (ds_set (i := 6) sc_l_wild.nd (de_callTy (c_tuple) (by rfl) T.z_tuple (by decide +kernel) (da_cons (DF.de (df_comp (own := [("_law_k", 9)]) rfl sc_l_wild.nd (di_range1 (by rfl) T.z_range (da_cons (dv 5) (da_nil))) (blkOk_by (own := [("_law_k", 9)]) (N := N_l_wild) (sc := defScope s_l_wild) (by decide +kernel)) (fun _ _ _ _ _ _ => dg_name (i := 9) sc_l_wild.nd) (fun _ _ _ _ _ _ => dts_nil) (fun _ _ _ _ _ _ => de_op o_add (de_ix (o_ix (hu_of hr)) (de_lst (da_cons (de_int) (da_cons (de_int) (da_cons (de_int) (da_nil))))) (de_op o_sub (dv 5) (de_int))) (de_call G_l_take (hr.mono (by omega)) (by rfl) T.g_l_take T.F_l_take.kp T.b_l_take (dr_slot (i := 0) (pv 0) (dr_cons (de_ix (o_ix (hu_of hr)) (de_lst (da_cons (de_int) (da_cons (de_int) (da_cons (de_int) (da_nil))))) (de_op o_sub (dv 5) (de_int))) (dr_nil))))))) (da_nil)))) (dss_cons (ds_keep 7 (ds_ownLc (i := 7) (own := [("_law_k", 9)]) rfl sc_l_wild.nd (di_range1 (by rfl) T.z_range (da_cons (de_op o_add (de_int) (de_call G_l_take (hr.mono (by omega)) (by rfl) T.g_l_take T.F_l_take.kp T.b_l_take (dr_slot (i := 0) (pv 0) (dr_cons (de_int) (dr_nil))))) (da_nil))) (blkOk_by (own := [("_law_k", 9)]) (N := N_l_wild) (sc := defScope s_l_wild) (by decide +kernel)) (fun _ _ _ _ _ _ => dg_name (i := 9) sc_l_wild.nd) (fun _ _ _ _ _ _ => dts_nil) (fun _ _ _ _ _ _ => de_call G_l_item (hr.mono (by omega)) (by rfl) T.g_l_item T.F_l_item.kp T.b_l_item (dr_slot (i := 0) (pv 0) (dr_cons (dv 1) (dr_cons (dv 3) (dr_cons (dv 5) (dr_cons (dv 9) (dr_nil))))))) (sw_true rfl rfl rfl (by decide +kernel)))) (dss_cons (ds_set (i := 8) sc_l_wild.nd (de_tup (da_cons (de_str) (da_cons (de_callTy (c_tuple) (by rfl) T.z_tuple (by decide +kernel) (da_cons (dv 7) (da_nil))) (da_nil))))) (dss_cons (ds_if (dt_cmp (o_eq hr.units) (de_call G_l_take (hr.mono (by omega)) (by rfl) T.g_l_take T.F_l_take.kp T.b_l_take (dr_slot (i := 0) (pv 0) (dr_cons (de_int) (dr_nil)))) (de_int) (nomark _)) (dss_cons (ds_set (i := 8) sc_l_wild.nd (de_ix (o_ix (hu_of hr)) (dv 7) (de_int))) (dss_one (ds_for PassesOwn.never rfl (di_any (de_slice o_sl (dv 7) (do_some (de_int)) (do_none))) (dg_name (i := 10) sc_l_wild.nd) (dss_one (ds_set (i := 8) sc_l_wild.nd (de_tup (da_cons (de_str) (da_cons (dv 8) (da_cons (dv 10) (da_nil)))))))))) (dss_nil)) (dss_cons (ds_if (dt_cmp (o_gt) (de_call G_l_take (hr.mono (by omega)) (by rfl) T.g_l_take T.F_l_take.kp T.b_l_take (dr_slot (i := 0) (pv 0) (dr_cons (de_int) (dr_nil)))) (de_int) (nomark _)) (dss_cons (ds_set (i := 10) sc_l_wild.nd (de_tup (da_cons (de_str) (da_cons (de_call G_l_take (hr.mono (by omega)) (by rfl) T.g_l_take T.F_l_take.kp T.b_l_take (dr_slot (i := 0) (pv 0) (dr_cons (dv 5) (dr_nil)))) (da_nil))))) (dss_cons (ds_set (i := 11) sc_l_wild.nd (de_lst (da_cons (de_tup (da_cons (de_str) (da_cons (dv 10) (da_cons (de_tup (da_cons (de_str) (da_cons (de_int) (da_nil)))) (da_nil))))) (da_cons (de_tup (da_cons (de_str) (da_cons (dv 10) (da_cons (de_tup (da_cons (de_str) (da_cons (de_int) (da_nil)))) (da_nil))))) (da_cons (de_tup (da_cons (de_str) (da_cons (dv 10) (da_cons (de_tup (da_cons (de_str) (da_cons (de_int) (da_nil)))) (da_nil))))) (da_nil)))))) (dss_one (ds_set (i := 8) sc_l_wild.nd (de_tup (da_cons (de_str) (da_cons (de_ix (o_ix (hu_of hr)) (dv 11) (de_call G_l_take (hr.mono (by omega)) (by rfl) T.g_l_take T.F_l_take.kp T.b_l_take (dr_slot (i := 0) (pv 0) (dr_cons (de_int) (dr_nil))))) (da_cons (de_tup (da_cons (de_str) (da_cons (de_tup (da_cons (de_str) (da_cons (de_call G_l_take (hr.mono (by omega)) (by rfl) T.g_l_take T.F_l_take.kp T.b_l_take (dr_slot (i := 0) (pv 0) (dr_cons (de_int) (dr_nil)))) (da_nil)))) (da_nil)))) (da_cons (dv 8) (da_nil)))))))))) (dss_nil)) (dss_one (ds_append (i := 4) (pe_bm PySem.F.plainAttrs_list PySem.F.slot_list_append PySem.F.type_list_append mt_append (pv 4) (pa_cons (DE.pe (de_tup (da_cons (de_callTy (c_tuple) (by rfl) T.z_tuple (by decide +kernel) (da_cons (DF.de (df_comp (own := [("_law_limit", 12)]) rfl sc_l_wild.nd (di_any (dv 6)) (blkOk_by (own := [("_law_limit", 12)]) (N := N_l_wild) (sc := defScope s_l_wild) (by decide +kernel)) (fun _ _ _ _ _ _ => dg_name (i := 12) sc_l_wild.nd) (fun _ _ _ _ _ _ => dts_nil) (fun _ _ _ _ _ _ => de_tup (da_cons (de_str) (da_cons (dv 12) (da_nil)))))) (da_nil))) (da_cons (dv 8) (da_cons (dv 6) (da_nil)))))) pa_nil)))))))))) (dss_fz 4 (dss_one (ds_ret (dv 4))))))
abbrev K_l_drawn (P : Program) (w : World) (base : Heap) (T : Txt K w mg) (k : Nat) (sp : FSpec) : Prop := FnOk P w K mg base CX0 k T.f_l_drawn T.d_l_drawn ["_law_pen_here", "_law_names_here", "_law_things_here"] (spD K 3 sp)
def t_l_drawn (a_l_places : Addr) (a_l_upwards : Addr) (a_l_grid : Addr) (a_l_two : Addr) (a_l_knots : Addr) (a_l_sets : Addr) (a_l_stretches : Addr) (a_l_counted : Addr) (sp_l_take : FSpec) (sp_l_counted : FSpec) (sp_l_stretches : FSpec) (sp_l_sets : FSpec) (sp_l_knots : FSpec) (sp_l_two : FSpec) (sp_l_grid : FSpec) (sp_l_upwards : FSpec) (sp_l_places : FSpec) (sp_l_wild : FSpec) : TDS := sSeq (sAsg (qLst (qCons (qC (.atm (.ref a_l_counted))) (qCons (qC (.atm (.ref a_l_stretches))) (qCons (qC (.atm (.ref a_l_sets))) (qCons (qC (.atm (.ref a_l_knots))) (qCons (qC (.atm (.ref a_l_two))) (qCons (qC (.atm (.ref a_l_grid))) (qCons (qC (.atm (.ref a_l_upwards))) (qCons (qC (.atm (.ref a_l_places))) (qNil)))))))))) (gN 3)) (sSeq (sAsg (qCall sp_l_take 2 (rSlot 0 (rCons (qC (.int 16)) (rNil)))) (gN 4)) (sSeq (sIf (qTest (qOp (i2 fun i j Q => Q (.bl (decide (i < j)))) (qVar 4) (qC (.int 8)))) (sRet (qCallV ((a_l_places, sp_l_places) :: (a_l_upwards, sp_l_upwards) :: (a_l_grid, sp_l_grid) :: (a_l_two, sp_l_two) :: (a_l_knots, sp_l_knots) :: (a_l_sets, sp_l_sets) :: (a_l_stretches, sp_l_stretches) :: (a_l_counted, sp_l_counted) :: []) 3 (qOp ixD (qVar 3) (qVar 4)) (rSlot 0 (rCons (qVar 1) (rCons (qVar 2) (rNil)))))) (sNext)) (sRet (qCall sp_l_wild 3 (rSlot 0 (rCons (qVar 1) (rCons (qVar 2) (rNil))))))))
set_option maxHeartbeats 4000000 in
theorem d_l_drawn (T : Txt K w mg) {k : Nat} {k_l_take : Nat} {sp_l_take : FSpec} (G_l_take : FnOk P w K mg base CX0 k_l_take T.f_l_take T.d_l_take ["_law_pen_here", "_law_size"] (spD K 2 sp_l_take)) (h_l_take : k_l_take ≤ k) {k_l_counted : Nat} {sp_l_counted : FSpec} (G_l_counted : FnOk P w K mg base CX0 k_l_counted T.f_l_counted T.d_l_counted ["_law_pen_here", "_law_names_here", "_law_things_here"] (spD K 3 sp_l_counted)) (h_l_counted : k_l_counted ≤ k) {k_l_stretches : Nat} {sp_l_stretches : FSpec} (G_l_stretches : FnOk P w K mg base CX0 k_l_stretches T.f_l_stretches T.d_l_stretches ["_law_pen_here", "_law_names_here", "_law_things_here"] (spD K 3 sp_l_stretches)) (h_l_stretches : k_l_stretches ≤ k) {k_l_sets : Nat} {sp_l_sets : FSpec} (G_l_sets : FnOk P w K mg base CX0 k_l_sets T.f_l_sets T.d_l_sets ["_law_pen_here", "_law_names_here", "_law_things_here"] (spD K 3 sp_l_sets)) (h_l_sets : k_l_sets ≤ k) {k_l_knots : Nat} {sp_l_knots : FSpec} (G_l_knots : FnOk P w K mg base CX0 k_l_knots T.f_l_knots T.d_l_knots ["_law_pen_here", "_law_names_here", "_law_things_here"] (spD K 3 sp_l_knots)) (h_l_knots : k_l_knots ≤ k) {k_l_two : Nat} {sp_l_two : FSpec} (G_l_two : FnOk P w K mg base CX0 k_l_two T.f_l_two T.d_l_two ["_law_pen_here", "_law_names_here", "_law_things_here"] (spD K 3 sp_l_two)) (h_l_two : k_l_two ≤ k) {k_l_grid : Nat} {sp_l_grid : FSpec} (G_l_grid : FnOk P w K mg base CX0 k_l_grid T.f_l_grid T.d_l_grid ["_law_pen_here", "_law_names_here", "_law_things_here"] (spD K 3 sp_l_grid)) (h_l_grid : k_l_grid ≤ k) {k_l_upwards : Nat} {sp_l_upwards : FSpec} (G_l_upwards : FnOk P w K mg base CX0 k_l_upwards T.f_l_upwards T.d_l_upwards ["_law_pen_here", "_law_names_here", "_law_things_here"] (spD K 3 sp_l_upwards)) (h_l_upwards : k_l_upwards ≤ k) {k_l_places : Nat} {sp_l_places : FSpec} (G_l_places : FnOk P w K mg base CX0 k_l_places T.f_l_places T.d_l_places ["_law_pen_here", "_law_names_here", "_law_things_here"] (spD K 3 sp_l_places)) (h_l_places : k_l_places ≤ k) {k_l_wild : Nat} {sp_l_wild : FSpec} (G_l_wild : FnOk P w K mg base CX0 k_l_wild T.f_l_wild T.d_l_wild ["_law_pen_here", "_law_names_here", "_law_things_here"] (spD K 3 sp_l_wild)) (h_l_wild : k_l_wild ≤ k) {cdv : Value} {A : Around} {outer : List Env} {s : Shared} {H : Hp} {E : XK} {B : Bd} (hr : Room k (A.deeper (envOfC "_law_drawn" (defScope s_l_drawn) s.heap.objs.size T.f_l_drawn cdv))) :
    DSs (cxOf CX0 P w K mg base N_l_drawn "_law_drawn" (defScope s_l_drawn) T.f_l_drawn cdv A outer s H E).nox B (defBody s_l_drawn) (t_l_drawn T.f_l_places T.f_l_upwards T.f_l_grid T.f_l_two T.f_l_knots T.f_l_sets T.f_l_stretches T.f_l_counted sp_l_take sp_l_counted sp_l_stretches sp_l_sets sp_l_knots sp_l_two sp_l_grid sp_l_upwards sp_l_places sp_l_wild) :=
  dss_cons (ds_set (i := 3) sc_l_drawn.nd (de_lst (da_cons (de_glob (v := .ref T.f_l_counted) (by rfl) T.g_l_counted rfl (fun _ => .atm _)) (da_cons (de_glob (v := .ref T.f_l_stretches) (by rfl) T.g_l_stretches rfl (fun _ => .atm _)) (da_cons (de_glob (v := .ref T.f_l_sets) (by rfl) T.g_l_sets rfl (fun _ => .atm _)) (da_cons (de_glob (v := .ref T.f_l_knots) (by rfl) T.g_l_knots rfl (fun _ => .atm _)) (da_cons (de_glob (v := .ref T.f_l_two) (by rfl) T.g_l_two rfl (fun _ => .atm _)) (da_cons (de_glob (v := .ref T.f_l_grid) (by rfl) T.g_l_grid rfl (fun _ => .atm _)) (da_cons (de_glob (v := .ref T.f_l_upwards) (by rfl) T.g_l_upwards rfl (fun _ => .atm _)) (da_cons (de_glob (v := .ref T.f_l_places) (by rfl) T.g_l_places rfl (fun _ => .atm _)) (da_nil))))))))))) (dss_cons (ds_set (i := 4) sc_l_drawn.nd (de_call G_l_take (hr.mono (by omega)) (by rfl) T.g_l_take T.F_l_take.kp T.b_l_take (dr_slot (i := 0) (pv 0) (dr_cons (de_int) (dr_nil))))) (dss_cons (ds_if (dt_cmp (o_lt) (dv 4) (de_int) (nomark _)) (dss_one (ds_ret (de_callV (.cons G_l_places (hr.mono (by omega)) T.F_l_places.kp T.b_l_places (.cons G_l_upwards (hr.mono (by omega)) T.F_l_upwards.kp T.b_l_upwards (.cons G_l_grid (hr.mono (by omega)) T.F_l_grid.kp T.b_l_grid (.cons G_l_two (hr.mono (by omega)) T.F_l_two.kp T.b_l_two (.cons G_l_knots (hr.mono (by omega)) T.F_l_knots.kp T.b_l_knots (.cons G_l_sets (hr.mono (by omega)) T.F_l_sets.kp T.b_l_sets (.cons G_l_stretches (hr.mono (by omega)) T.F_l_stretches.kp T.b_l_stretches (.cons G_l_counted (hr.mono (by omega)) T.F_l_counted.kp T.b_l_counted (.nil))))))))) (de_ix (o_ix (hu_of hr)) (dv 3) (dv 4)) (dr_slot (i := 0) (pv 0) (dr_cons (dv 1) (dr_cons (dv 2) (dr_nil))))))) (dss_nil)) (dss_one (ds_ret (de_call G_l_wild (hr.mono (by omega)) (by rfl) T.g_l_wild T.F_l_wild.kp T.b_l_wild (dr_slot (i := 0) (pv 0) (dr_cons (dv 1) (dr_cons (dv 2) (dr_nil)))))))))
def t_l_program_1 (sp_l_names : FSpec) (sp_l_things : FSpec) (sp_l_drawn : FSpec) (sp_program_of : FSpec) (sp_given_of : FSpec) : TD := qTup (qCons (qOp ixD (qVar 1) (qVar 6)) (qCons (qOp ixD (qLst (qCons (qC (.str "number")) (qCons (qC (.str "row")) (qCons (qC (.str "text")) (qCons (qC (.str "tree")) (qNil)))))) (qVar 6)) (qNil)))
def t_l_program_2 (sp_l_names : FSpec) (sp_l_things : FSpec) (sp_l_drawn : FSpec) (sp_program_of : FSpec) (sp_given_of : FSpec) : TD := qTup (qCons (qOp ixD (qVar 1) (qOp addD (qC (.int 4)) (qVar 6))) (qCons (qOp ixD (qVar 7) (qC (.int 0))) (qCons (qOp ixD (qVar 7) (qC (.int 1))) (qNil))))
def t_l_program_3 (sp_l_names : FSpec) (sp_l_things : FSpec) (sp_l_drawn : FSpec) (sp_program_of : FSpec) (sp_given_of : FSpec) : TD := qOp ixD (qVar 7) (qC (.int 2))
abbrev K_l_program (P : Program) (w : World) (base : Heap) (T : Txt K w mg) (k : Nat) (sp : FSpec) : Prop := FnOk P w K mg base CX0 k T.f_l_program T.d_l_program ["_law_pen_here"] (spD K 1 sp)
def t_l_program (sp_l_names : FSpec) (sp_l_things : FSpec) (sp_l_drawn : FSpec) (sp_program_of : FSpec) (sp_given_of : FSpec) : TDS := sSeq (sAsg (qCall sp_l_names 2 (rSlot 0 (rCons (qC (.int 8)) (rNil)))) (gN 1)) (sSeq (sAsg (qCall sp_l_things 2 (rSlot 0 (rCons (qVar 1) (rNil)))) (gN 2)) (sSeq (sAsg (qCall sp_l_drawn 3 (rSlot 0 (rCons (qVar 1) (rCons (qVar 2) (rNil))))) (gN 3)) (sSeq (sAsg (qCl (n1 tupleD) (qCons (qFz (fComp (qRg1 (qCons (qC (.int 4)) (qNil))) (gN 6) (qYes) ((t_l_program_1 sp_l_names sp_l_things sp_l_drawn sp_program_of sp_given_of)) [6])) (qNil))) (gN 4)) (sSeq (sAsg (qCall sp_program_of 2 (rCons (qVar 4) (rCons (qCl (n1 tupleD) (qCons (qFz (fComp (qEnum (qCons (qVar 3) (qNil))) (gTupD 2 (gConsD (gN 6) (gConsD (gN 7) (gNilD)))) (qYes) ((t_l_program_2 sp_l_names sp_l_things sp_l_drawn sp_program_of sp_given_of)) [6, 7])) (qNil))) (rNil)))) (gN 5)) (sRet (qTup (qCons (qVar 5) (qCons (qCall sp_given_of 2 (rCons (qVar 5) (rCons (qVar 2) (rNil)))) (qCons (qFz (fComp (qIter (qVar 3)) (gN 7) (qYes) ((t_l_program_3 sp_l_names sp_l_things sp_l_drawn sp_program_of sp_given_of)) [7])) (qNil))))))))))
set_option maxHeartbeats 4000000 in
theorem d_l_program (T : Txt K w mg) {k : Nat} {k_l_names : Nat} {sp_l_names : FSpec} (G_l_names : FnOk P w K mg base CX0 k_l_names T.f_l_names T.d_l_names ["_law_pen_here", "_law_many"] (spD K 2 sp_l_names)) (h_l_names : k_l_names ≤ k) {k_l_things : Nat} {sp_l_things : FSpec} (G_l_things : FnOk P w K mg base CX0 k_l_things T.f_l_things T.d_l_things ["_law_pen_here", "_law_names_here"] (spD K 2 sp_l_things)) (h_l_things : k_l_things ≤ k) {k_l_drawn : Nat} {sp_l_drawn : FSpec} (G_l_drawn : FnOk P w K mg base CX0 k_l_drawn T.f_l_drawn T.d_l_drawn ["_law_pen_here", "_law_names_here", "_law_things_here"] (spD K 3 sp_l_drawn)) (h_l_drawn : k_l_drawn ≤ k) {k_program_of : Nat} {sp_program_of : FSpec} (G_program_of : FnOk P w K mg base CX0 k_program_of T.f_program_of T.d_program_of ["needs", "functions"] (spD K 2 sp_program_of)) (h_program_of : k_program_of ≤ k) {k_given_of : Nat} {sp_given_of : FSpec} (G_given_of : FnOk P w K mg base CX0 k_given_of T.f_given_of T.d_given_of ["program", "things"] (spD K 2 sp_given_of)) (h_given_of : k_given_of ≤ k) {cdv : Value} {A : Around} {outer : List Env} {s : Shared} {H : Hp} {E : XK} {B : Bd} (hr : Room k (A.deeper (envOfC "_law_program" (defScope s_l_program) s.heap.objs.size T.f_l_program cdv))) :
    DSs (cxOf CX0 P w K mg base N_l_program "_law_program" (defScope s_l_program) T.f_l_program cdv A outer s H E).nox B (defBody s_l_program) (t_l_program sp_l_names sp_l_things sp_l_drawn sp_program_of sp_given_of) :=
  dss_cons (ds_set (i := 1) sc_l_program.nd (de_call G_l_names (hr.mono (by omega)) (by rfl) T.g_l_names T.F_l_names.kp T.b_l_names (dr_slot (i := 0) (pv 0) (dr_cons (de_int) (dr_nil))))) (dss_cons (ds_set (i := 2) sc_l_program.nd (de_call G_l_things (hr.mono (by omega)) (by rfl) T.g_l_things T.F_l_things.kp T.b_l_things (dr_slot (i := 0) (pv 0) (dr_cons (dv 1) (dr_nil))))) (dss_cons (ds_set (i := 3) sc_l_program.nd (de_call G_l_drawn (hr.mono (by omega)) (by rfl) T.g_l_drawn T.F_l_drawn.kp T.b_l_drawn (dr_slot (i := 0) (pv 0) (dr_cons (dv 1) (dr_cons (dv 2) (dr_nil)))))) (dss_cons (ds_set (i := 4) sc_l_program.nd (de_callTy (c_tuple) (by rfl) T.z_tuple (by decide +kernel) (da_cons (DF.de (df_comp (own := [("_law_k", 6)]) rfl sc_l_program.nd (di_range1 (by rfl) T.z_range (da_cons (de_int) (da_nil))) (blkOk_by (own := [("_law_k", 6)]) (N := N_l_program) (sc := defScope s_l_program) (by decide +kernel)) (fun _ _ _ _ _ _ => dg_name (i := 6) sc_l_program.nd) (fun _ _ _ _ _ _ => dts_nil) (fun _ _ _ _ _ _ => de_tup (da_cons (de_ix (o_ix (hu_of hr)) (dv 1) (dv 6)) (da_cons (de_ix (o_ix (hu_of hr)) (de_lst (da_cons (de_str) (da_cons (de_str) (da_cons (de_str) (da_cons (de_str) (da_nil)))))) (dv 6)) (da_nil)))))) (da_nil)))) (dss_cons (ds_set (i := 5) sc_l_program.nd (de_call G_program_of (hr.mono (by omega)) (by rfl) T.g_program_of T.F_program_of.kp T.b_program_of (dr_cons (dv 4) (dr_cons (de_callTy (c_tuple) (by rfl) T.z_tuple (by decide +kernel) (da_cons (DF.de (df_comp (own := [("_law_k", 6), ("_law_one", 7)]) rfl sc_l_program.nd (di_enum (by rfl) T.z_enumerate (da_cons (dv 3) (da_nil))) (blkOk_by (own := [("_law_k", 6), ("_law_one", 7)]) (N := N_l_program) (sc := defScope s_l_program) (by decide +kernel)) (fun _ _ _ _ _ _ => dg_tup rfl (dgs_cons (dg_name (i := 6) sc_l_program.nd) (dgs_cons (dg_name (i := 7) sc_l_program.nd) (dgs_nil)))) (fun _ _ _ _ _ _ => dts_nil) (fun _ _ _ _ _ _ => de_tup (da_cons (de_ix (o_ix (hu_of hr)) (dv 1) (de_op o_add (de_int) (dv 6))) (da_cons (de_ix (o_ix (hu_of hr)) (dv 7) (de_int)) (da_cons (de_ix (o_ix (hu_of hr)) (dv 7) (de_int)) (da_nil))))))) (da_nil))) (dr_nil))))) (dss_one (ds_ret (de_tup (da_cons (dv 5) (da_cons (de_call G_given_of (hr.mono (by omega)) (by rfl) T.g_given_of T.F_given_of.kp T.b_given_of (dr_cons (dv 5) (dr_cons (dv 2) (dr_nil)))) (da_cons (DF.de (df_comp (own := [("_law_one", 7)]) rfl sc_l_program.nd (di_any (dv 3)) (blkOk_by (own := [("_law_one", 7)]) (N := N_l_program) (sc := defScope s_l_program) (by decide +kernel)) (fun _ _ _ _ _ _ => dg_name (i := 7) sc_l_program.nd) (fun _ _ _ _ _ _ => dts_nil) (fun _ _ _ _ _ _ => de_ix (o_ix (hu_of hr)) (dv 7) (de_int)))) (da_nil)))))))))))
def t_l_called_1 : TDT := qTest (qOpL neNil 2 (qLst (qNil)))
def t_l_called_2 : TDS := sSeq (sAsg (qPop0 2) (gN 3)) (sIf (qTest (qOp eqD (qOp ixD (qVar 3) (qC (.int 0))) (qC (.str "call")))) (sApp 1 (qOp ixD (qVar 3) (qC (.int 1)))) (sIf (qTest (qOp eqD (qOp ixD (qVar 3) (qC (.int 0))) (qC (.str "choose")))) (sFz 2 (sOwn 2 (fAdd (qCl (n1 listD) (qCons (qOp ixD (qVar 3) (qC (.int 1))) (qNil))) (qVar 2)))) (sIf (qTest (qOp inD (qOp ixD (qVar 3) (qC (.int 0))) (qTup (qCons (qC (.str "both")) (qCons (qC (.str "if")) (qCons (qC (.str "each")) (qCons (qC (.str "all")) (qNil)))))))) (sFz 2 (sOwn 2 (fAdd (qCl (n1 listD) (qCons (qSl slD (qVar 3) (qPart (qOp ixD (qFz (fDisp (((qC (.str "both")), (qC (.int 1))) :: ((qC (.str "if")), (qC (.int 2))) :: ((qC (.str "each")), (qC (.int 3))) :: ((qC (.str "all")), (qC (.int 3))) :: []))) (qOp ixD (qVar 3) (qC (.int 0))))) (qNoPart)) (qNil))) (qVar 2)))) (sNext))))
abbrev K_l_called (P : Program) (w : World) (base : Heap) (T : Txt K w mg) (k : Nat) (sp : FSpec) : Prop := FnOk P w K mg base CX0 k T.f_l_called T.d_l_called ["_law_body"] (spD K 1 sp)
def t_l_called : TDS := sSeq (sOwn 1 (fLst (qNil))) (sSeq (sOwn 2 (fLst (qCons (qVar 0) (qNil)))) (sSeq (sWhile (t_l_called_1) (t_l_called_2)) (sFz 1 (sRet (qVar 1)))))
set_option maxHeartbeats 4000000 in
theorem d_l_called (T : Txt K w mg) {k : Nat}  {cdv : Value} {A : Around} {outer : List Env} {s : Shared} {H : Hp} {E : XK} {B : Bd} (hr : Room k (A.deeper (envOfC "_law_called" (defScope s_l_called) s.heap.objs.size T.f_l_called cdv))) :
    DSs (cxOf CX0 P w K mg base N_l_called "_law_called" (defScope s_l_called) T.f_l_called cdv A outer s H E).nox B (defBody s_l_called) (t_l_called) :=
  dss_cons (ds_own (i := 1) sc_l_called.nd (df_lst (da_nil))) (dss_cons (ds_own (i := 2) sc_l_called.nd (df_lst (da_cons (dv 0) (da_nil)))) (dss_cons (ds_while PassesOwn.never (dt_cmpL (i := 2) (o_neNil hr.units) (pv 2) (de_lst (da_nil)) (nomark _)) (dss_cons (ds_set (i := 3) sc_l_called.nd (de_pop0 (i := 2) (fun _ _ _ h => h) (pe_bm PySem.F.plainAttrs_list PySem.F.slot_list_pop PySem.F.type_list_pop mt_popAt (pv 2) (pa_cons pe_int pa_nil)))) (dss_one (ds_if (dt_cmp (o_eq hr.units) (de_ix (o_ix (hu_of hr)) (dv 3) (de_int)) (de_str) (nomark _)) (dss_one (ds_append (i := 1) (pe_bm PySem.F.plainAttrs_list PySem.F.slot_list_append PySem.F.type_list_append mt_append (pv 1) (pa_cons (DE.pe (de_ix (o_ix (hu_of hr)) (dv 3) (de_int))) pa_nil)))) (dss_one (ds_if (dt_cmp (o_eq hr.units) (de_ix (o_ix (hu_of hr)) (dv 3) (de_int)) (de_str) (nomark _)) (dss_fz 2 (dss_one (ds_own (i := 2) sc_l_called.nd (df_add (de_callTy (c_list) (by rfl) T.z_list (by decide +kernel) (da_cons (de_ix (o_ix (hu_of hr)) (dv 3) (de_int)) (da_nil))) (dv 2))))) (dss_one (ds_if (dt_cmp (o_in (hu_of hr)) (de_ix (o_ix (hu_of hr)) (dv 3) (de_int)) (de_tup (da_cons (de_str) (da_cons (de_str) (da_cons (de_str) (da_cons (de_str) (da_nil)))))) (by rfl)) (dss_fz 2 (dss_one (ds_own (i := 2) sc_l_called.nd (df_add (de_callTy (c_list) (by rfl) T.z_list (by decide +kernel) (da_cons (de_slice o_sl (dv 3) (do_some (de_ix (o_ix (hu_of hr)) (DF.de (df_disp (dps_cons (fun _ => de_str) (fun _ => de_int) (dps_cons (fun _ => de_str) (fun _ => de_int) (dps_cons (fun _ => de_str) (fun _ => de_int) (dps_cons (fun _ => de_str) (fun _ => de_int) (dps_nil))))))) (de_ix (o_ix (hu_of hr)) (dv 3) (de_int)))) (do_none)) (da_nil))) (dv 2))))) (dss_nil))))))))) (dss_fz 1 (dss_one (ds_ret (dv 1))))))
def t_l_is_list_1 : TDT := qOr (qNot (qTest (qCl (isiD .int) (qCons (qVar 3) (qCons (qC (.atm (.ty "int"))) qNil))))) (qTest (qCl (isiD .bool) (qCons (qVar 3) (qCons (qC (.atm (.ty "bool"))) qNil))))
def t_l_is_list_2 : TD := qVar 3
def t_l_is_list_3 : TDS := sIf (qOr (qNot (qTest (qCl (isiD .tup) (qCons (qVar 2) (qCons (qC (.atm (.ty "tuple"))) qNil))))) (qTest (qOp neNil (qFz (fComp (qIter (qVar 2)) (gN 3) (t_l_is_list_1) (t_l_is_list_2) [3])) (qLst (qNil))))) (sRet (qC (.bl false))) (sNext)
abbrev K_l_is_list (P : Program) (w : World) (base : Heap) (T : Txt K w mg) (k : Nat) (sp : FSpec) : Prop := FnOk P w K mg base CX0 k T.f_l_is_list T.d_l_is_list ["_law_found", "_law_due"] (spD K 2 sp)
def t_l_is_list : TDS := sSeq (sIf (qOr (qNot (qTest (qCl (isiD .lst) (qCons (qVar 0) (qCons (qC (.atm (.ty "list"))) qNil))))) (qTest (qOp neD (qVar 0) (qVar 1)))) (sRet (qC (.bl false))) (sNext)) (sSeq (sFor (qIter (qVar 0)) (gN 2) (t_l_is_list_3)) (sRet (qC (.bl true))))
set_option maxHeartbeats 4000000 in
theorem d_l_is_list (T : Txt K w mg) {k : Nat}  {cdv : Value} {A : Around} {outer : List Env} {s : Shared} {H : Hp} {E : XK} {B : Bd} (hr : Room k (A.deeper (envOfC "_law_is_list" (defScope s_l_is_list) s.heap.objs.size T.f_l_is_list cdv))) :
    DSs (cxOf CX0 P w K mg base N_l_is_list "_law_is_list" (defScope s_l_is_list) T.f_l_is_list cdv A outer s H E).nox B (defBody s_l_is_list) (t_l_is_list) :=
  dss_cons (ds_if (DW.dt (dw_or (dt_not (dt_val (de_callB (c_isi .lst) (by rfl) T.z_isinstance (by decide +kernel) (da_cons (dv 0) (da_cons (de_bty (by rfl) T.z_list (by decide +kernel)) da_nil))))) (dw_or1 (dt_cmp (o_ne hr.units) (dv 0) (dv 1) (nomark _))))) (dss_one (ds_ret (de_bl))) (dss_nil)) (dss_cons (ds_for PassesOwn.never rfl (di_any (dv 0)) (dg_name (i := 2) sc_l_is_list.nd) (dss_one (ds_if (DW.dt (dw_or (dt_not (dt_val (de_callB (c_isi .tup) (by rfl) T.z_isinstance (by decide +kernel) (da_cons (dv 2) (da_cons (de_bty (by rfl) T.z_tuple (by decide +kernel)) da_nil))))) (dw_or1 (dt_cmp (o_neNil hr.units) (DF.de (df_comp (own := [("_law_n", 3)]) rfl sc_l_is_list.nd (di_any (dv 2)) (blkOk_by (own := [("_law_n", 3)]) (N := N_l_is_list) (sc := defScope s_l_is_list) (by decide +kernel)) (fun _ _ _ _ _ _ => dg_name (i := 3) sc_l_is_list.nd) (fun _ _ _ _ _ _ => dts_one (DW.dt (dw_or (dt_not (dt_val (de_callB (c_isi .int) (by rfl) T.z_isinstance (by decide +kernel) (da_cons (dv 3) (da_cons (de_bty (by rfl) T.z_int (by decide +kernel)) da_nil))))) (dw_or1 (dt_val (de_callB (c_isi .bool) (by rfl) T.z_isinstance (by decide +kernel) (da_cons (dv 3) (da_cons (de_bty (by rfl) T.z_bool (by decide +kernel)) da_nil)))))))) (fun _ _ _ _ _ _ => dv 3))) (de_lst (da_nil)) (nomark _))))) (dss_one (ds_ret (de_bl))) (dss_nil)))) (dss_one (ds_ret (de_bl))))
def t_law_1 (sp_l_pen : FSpecO) (sp_l_program : FSpec) (sp_l_called : FSpec) (sp_calls_of : FSpecO) (sp_l_is_list : FSpec) : TDS := sApp 3 (qTup (qCons (qVar 8) (qCons (qVar 10) (qCons (qVar 11) (qNil)))))
def t_law_2 (sp_l_pen : FSpecO) (sp_l_program : FSpec) (sp_l_called : FSpec) (sp_calls_of : FSpecO) (sp_l_is_list : FSpec) : TDS := sFor (qEnum (qCons (qCall sp_l_called 1 (rCons (qOp ixD (qVar 9) (qC (.int 2))) (rNil))) (qNil))) (gTupD 2 (gConsD (gN 10) (gConsD (gN 11) (gNilD)))) ((t_law_1 sp_l_pen sp_l_program sp_l_called sp_calls_of sp_l_is_list))
def t_law_3 (sp_l_pen : FSpecO) (sp_l_program : FSpec) (sp_l_called : FSpec) (sp_calls_of : FSpecO) (sp_l_is_list : FSpec) : TDS := sSeq (sOwn 2 (fCall sp_l_pen 2 (rCons (qVar 0) (rCons (qVar 1) (rNil))))) (sCl 2 PenQ (sSeq (sAsg (qCall sp_l_program 1 (rSlot 2 (rNil))) (gTupD 3 (gConsD (gN 5) (gConsD (gN 6) (gConsD (gN 7) (gNilD)))))) (sSeq (sOwn 3 (fLst (qNil))) (sSeq (sFor (qEnum (qCons (qOp ixD (qVar 5) (qC (.int 1))) (qNil))) (gTupD 2 (gConsD (gN 8) (gConsD (gN 9) (gNilD)))) ((t_law_2 sp_l_pen sp_l_program sp_l_called sp_calls_of sp_l_is_list))) (sSeq (sOwn 4 (fCall sp_calls_of 1 (rCons (qVar 5) (rNil)))) (sSeq (sIf (qNot (qTest (qBor (qCall sp_l_is_list 2 (rCons (qVar 4) (rCons (qVar 3) (rNil))))))) (sRet (qC (.bl false))) (sNext)) (sSeq (sRev 4) (sSeq (sApp 4 (qTup (qCons (qC (.int 0)) (qCons (qC (.int 0)) (qCons (qC (.int 0)) (qNil)))))) (sFz 3 (sIf (qNot (qTest (qCall sp_l_is_list 2 (rCons (qFz (fCall sp_calls_of 1 (rCons (qVar 5) (rNil)))) (rCons (qVar 3) (rNil)))))) (sRet (qC (.bl false))) (sNext)))))))))))
abbrev K_law (P : Program) (w : World) (base : Heap) (T : Txt K w mg) (k : Nat) (sp : FSpec) : Prop := FnOk P w K mg base CX0 k T.f_law T.d_law ["_law_script"] (spD K 1 sp)
def t_law (sp_l_pen : FSpecO) (sp_l_program : FSpec) (sp_l_called : FSpec) (sp_calls_of : FSpecO) (sp_l_is_list : FSpec) : TDS := sSeq (sFor (qRg1 (qCons (qC (.int 4)) (qNil))) (gN 1) ((t_law_3 sp_l_pen sp_l_program sp_l_called sp_calls_of sp_l_is_list))) (sRet (qC (.bl true)))
set_option maxHeartbeats 4000000 in
theorem d_law (T : Txt K w mg) {k : Nat} {k_l_pen : Nat} {sp_l_pen : FSpecO} (G_l_pen : FnOk P w K mg base CX0 k_l_pen T.f_l_pen T.d_l_pen ["_law_script", "_law_k"] (spO K 2 sp_l_pen)) (h_l_pen : k_l_pen ≤ k) {k_l_program : Nat} {sp_l_program : FSpec} (G_l_program : FnOk P w K mg base CX0 k_l_program T.f_l_program T.d_l_program ["_law_pen_here"] (spD K 1 sp_l_program)) (h_l_program : k_l_program ≤ k) {k_l_called : Nat} {sp_l_called : FSpec} (G_l_called : FnOk P w K mg base CX0 k_l_called T.f_l_called T.d_l_called ["_law_body"] (spD K 1 sp_l_called)) (h_l_called : k_l_called ≤ k) {k_calls_of : Nat} {sp_calls_of : FSpecO} (G_calls_of : FnOk P w K mg base CX0 k_calls_of T.f_calls_of T.d_calls_of ["program"] (spO K 1 sp_calls_of)) (h_calls_of : k_calls_of ≤ k) {k_l_is_list : Nat} {sp_l_is_list : FSpec} (G_l_is_list : FnOk P w K mg base CX0 k_l_is_list T.f_l_is_list T.d_l_is_list ["_law_found", "_law_due"] (spD K 2 sp_l_is_list)) (h_l_is_list : k_l_is_list ≤ k) {cdv : Value} {A : Around} {outer : List Env} {s : Shared} {H : Hp} {E : XK} {B : Bd} (hr : Room k (A.deeper (envOfC "law" (defScope s_law) s.heap.objs.size T.f_law cdv))) :
    DSs (cxOf CX0 P w K mg base N_law "law" (defScope s_law) T.f_law cdv A outer s H E).nox B (defBody s_law) (t_law sp_l_pen sp_l_program sp_l_called sp_calls_of sp_l_is_list) :=
  dss_cons (ds_for PassesOwn.never rfl (di_range1 (by rfl) T.z_range (da_cons (de_int) (da_nil))) (dg_name (i := 1) sc_law.nd) (dss_cons (ds_own (i := 2) sc_law.nd (df_call G_l_pen (hr.mono (by omega)) (by rfl) T.g_l_pen T.F_l_pen.kp T.b_l_pen (dr_cons (dv 0) (dr_cons (dv 1) (dr_nil))))) (dss_cl 2 PenQ (dss_cons (ds_asg (de_call G_l_program (hr.mono (by omega)) (by rfl) T.g_l_program T.F_l_program.kp T.b_l_program (dr_slot (i := 2) (pv 2) (dr_nil))) (dg_tup rfl (dgs_cons (dg_name (i := 5) sc_law.nd) (dgs_cons (dg_name (i := 6) sc_law.nd) (dgs_cons (dg_name (i := 7) sc_law.nd) (dgs_nil)))))) (dss_cons (ds_own (i := 3) sc_law.nd (df_lst (da_nil))) (dss_cons (ds_for PassesOwn.never rfl (di_enum (by rfl) T.z_enumerate (da_cons (de_ix (o_ix (hu_of hr)) (dv 5) (de_int)) (da_nil))) (dg_tup rfl (dgs_cons (dg_name (i := 8) sc_law.nd) (dgs_cons (dg_name (i := 9) sc_law.nd) (dgs_nil)))) (dss_one (ds_for PassesOwn.never rfl (di_enum (by rfl) T.z_enumerate (da_cons (de_call G_l_called (hr.mono (by omega)) (by rfl) T.g_l_called T.F_l_called.kp T.b_l_called (dr_cons (de_ix (o_ix (hu_of hr)) (dv 9) (de_int)) (dr_nil))) (da_nil))) (dg_tup rfl (dgs_cons (dg_name (i := 10) sc_law.nd) (dgs_cons (dg_name (i := 11) sc_law.nd) (dgs_nil)))) (dss_one (ds_append (i := 3) (pe_bm PySem.F.plainAttrs_list PySem.F.slot_list_append PySem.F.type_list_append mt_append (pv 3) (pa_cons (DE.pe (de_tup (da_cons (dv 8) (da_cons (dv 10) (da_cons (dv 11) (da_nil)))))) pa_nil))))))) (dss_cons (ds_own (i := 4) sc_law.nd (df_call G_calls_of (hr.mono (by omega)) (by rfl) T.g_calls_of T.F_calls_of.kp T.b_calls_of (dr_cons (dv 5) (dr_nil)))) (dss_cons (ds_if (dt_not (dt_val (de_bor (fun _ => de_call G_l_is_list (hr.mono (by omega)) (by rfl) T.g_l_is_list T.F_l_is_list.kp T.b_l_is_list (dr_cons (dv 4) (dr_cons (dv 3) (dr_nil))))))) (dss_one (ds_ret (de_bl))) (dss_nil)) (dss_cons (ds_reverse (i := 4) (pe_bm0 PySem.F.plainAttrs_list PySem.F.slot_list_reverse PySem.F.type_list_reverse mt_reverse (pv 4))) (dss_cons (ds_append (i := 4) (pe_bm PySem.F.plainAttrs_list PySem.F.slot_list_append PySem.F.type_list_append mt_append (pv 4) (pa_cons (DE.pe (de_tup (da_cons (de_int) (da_cons (de_int) (da_cons (de_int) (da_nil)))))) pa_nil))) (dss_fz 3 (dss_one (ds_if (dt_not (dt_val (de_call G_l_is_list (hr.mono (by omega)) (by rfl) T.g_l_is_list T.F_l_is_list.kp T.b_l_is_list (dr_cons (DF.de (df_call G_calls_of (hr.mono (by omega)) (by rfl) T.g_calls_of T.F_calls_of.kp T.b_calls_of (dr_cons (dv 5) (dr_nil)))) (dr_cons (dv 3) (dr_nil)))))) (dss_one (ds_ret (de_bl))) (dss_nil)))))))))))))) (dss_one (ds_ret (de_bl)))
end
set_option maxHeartbeats 8000000 in
theorem txt_mk {K : PySem.W.Frag} {w : World} {h : Heap} {mg : Str → Option Value} (X : K.In h) (G : h.Ns mainGlobals mg)
    {f0 : Addr} {od0 an0 : Option Addr} {sl0 : Array (Option Value)} {oc0 kV0 dc0 pm0 cd0 ct0 : Value}
    (a0 : PySem.W.nsIn K mainGlobals "is_whole" = some (some (.ref f0))) (l0 : K.lookup f0 = some ⟨oc0, od0, .func (PySem.W.fnOf "is_whole" "is_whole" (defArgs s_is_whole) (defBody s_is_whole) (defScope s_is_whole) .none kV0 dc0 pm0 an0 cd0 ct0), sl0⟩) (c0 : PySem.W.codeIn K cd0 "is_whole" = true) (k0 : PySem.W.keepIn K (.ref f0) = true)
    {f1 : Addr} {od1 an1 : Option Addr} {sl1 : Array (Option Value)} {oc1 kV1 dc1 pm1 cd1 ct1 : Value}
    (a1 : PySem.W.nsIn K mainGlobals "kind_of" = some (some (.ref f1))) (l1 : K.lookup f1 = some ⟨oc1, od1, .func (PySem.W.fnOf "kind_of" "kind_of" (defArgs s_kind_of) (defBody s_kind_of) (defScope s_kind_of) .none kV1 dc1 pm1 an1 cd1 ct1), sl1⟩) (c1 : PySem.W.codeIn K cd1 "kind_of" = true) (k1 : PySem.W.keepIn K (.ref f1) = true)
    {f2 : Addr} {od2 an2 : Option Addr} {sl2 : Array (Option Value)} {oc2 kV2 dc2 pm2 cd2 ct2 : Value}
    (a2 : PySem.W.nsIn K mainGlobals "is_part" = some (some (.ref f2))) (l2 : K.lookup f2 = some ⟨oc2, od2, .func (PySem.W.fnOf "is_part" "is_part" (defArgs s_is_part) (defBody s_is_part) (defScope s_is_part) .none kV2 dc2 pm2 an2 cd2 ct2), sl2⟩) (c2 : PySem.W.codeIn K cd2 "is_part" = true) (k2 : PySem.W.keepIn K (.ref f2) = true)
    {f3 : Addr} {od3 an3 : Option Addr} {sl3 : Array (Option Value)} {oc3 kV3 dc3 pm3 cd3 ct3 : Value}
    (a3 : PySem.W.nsIn K mainGlobals "is_sum" = some (some (.ref f3))) (l3 : K.lookup f3 = some ⟨oc3, od3, .func (PySem.W.fnOf "is_sum" "is_sum" (defArgs s_is_sum) (defBody s_is_sum) (defScope s_is_sum) .none kV3 dc3 pm3 an3 cd3 ct3), sl3⟩) (c3 : PySem.W.codeIn K cd3 "is_sum" = true) (k3 : PySem.W.keepIn K (.ref f3) = true)
    {f4 : Addr} {od4 an4 : Option Addr} {sl4 : Array (Option Value)} {oc4 kV4 dc4 pm4 cd4 ct4 : Value}
    (a4 : PySem.W.nsIn K mainGlobals "is_cond" = some (some (.ref f4))) (l4 : K.lookup f4 = some ⟨oc4, od4, .func (PySem.W.fnOf "is_cond" "is_cond" (defArgs s_is_cond) (defBody s_is_cond) (defScope s_is_cond) .none kV4 dc4 pm4 an4 cd4 ct4), sl4⟩) (c4 : PySem.W.codeIn K cd4 "is_cond" = true) (k4 : PySem.W.keepIn K (.ref f4) = true)
    {f5 : Addr} {od5 an5 : Option Addr} {sl5 : Array (Option Value)} {oc5 kV5 dc5 pm5 cd5 ct5 : Value}
    (a5 : PySem.W.nsIn K mainGlobals "calls_in" = some (some (.ref f5))) (l5 : K.lookup f5 = some ⟨oc5, od5, .func (PySem.W.fnOf "calls_in" "calls_in" (defArgs s_calls_in) (defBody s_calls_in) (defScope s_calls_in) .none kV5 dc5 pm5 an5 cd5 ct5), sl5⟩) (c5 : PySem.W.codeIn K cd5 "calls_in" = true) (k5 : PySem.W.keepIn K (.ref f5) = true)
    {f6 : Addr} {od6 an6 : Option Addr} {sl6 : Array (Option Value)} {oc6 kV6 dc6 pm6 cd6 ct6 : Value}
    (a6 : PySem.W.nsIn K mainGlobals "calls_of" = some (some (.ref f6))) (l6 : K.lookup f6 = some ⟨oc6, od6, .func (PySem.W.fnOf "calls_of" "calls_of" (defArgs s_calls_of) (defBody s_calls_of) (defScope s_calls_of) .none kV6 dc6 pm6 an6 cd6 ct6), sl6⟩) (c6 : PySem.W.codeIn K cd6 "calls_of" = true) (k6 : PySem.W.keepIn K (.ref f6) = true)
    {f7 : Addr} {od7 an7 : Option Addr} {sl7 : Array (Option Value)} {oc7 kV7 dc7 pm7 cd7 ct7 : Value}
    (a7 : PySem.W.nsIn K mainGlobals "is_name" = some (some (.ref f7))) (l7 : K.lookup f7 = some ⟨oc7, od7, .func (PySem.W.fnOf "is_name" "is_name" (defArgs s_is_name) (defBody s_is_name) (defScope s_is_name) .none kV7 dc7 pm7 an7 cd7 ct7), sl7⟩) (c7 : PySem.W.codeIn K cd7 "is_name" = true) (k7 : PySem.W.keepIn K (.ref f7) = true)
    {f8 : Addr} {od8 an8 : Option Addr} {sl8 : Array (Option Value)} {oc8 kV8 dc8 pm8 cd8 ct8 : Value}
    (a8 : PySem.W.nsIn K mainGlobals "are_needs" = some (some (.ref f8))) (l8 : K.lookup f8 = some ⟨oc8, od8, .func (PySem.W.fnOf "are_needs" "are_needs" (defArgs s_are_needs) (defBody s_are_needs) (defScope s_are_needs) .none kV8 dc8 pm8 an8 cd8 ct8), sl8⟩) (c8 : PySem.W.codeIn K cd8 "are_needs" = true) (k8 : PySem.W.keepIn K (.ref f8) = true)
    {f9 : Addr} {od9 an9 : Option Addr} {sl9 : Array (Option Value)} {oc9 kV9 dc9 pm9 cd9 ct9 : Value}
    (a9 : PySem.W.nsIn K mainGlobals "is_most" = some (some (.ref f9))) (l9 : K.lookup f9 = some ⟨oc9, od9, .func (PySem.W.fnOf "is_most" "is_most" (defArgs s_is_most) (defBody s_is_most) (defScope s_is_most) .none kV9 dc9 pm9 an9 cd9 ct9), sl9⟩) (c9 : PySem.W.codeIn K cd9 "is_most" = true) (k9 : PySem.W.keepIn K (.ref f9) = true)
    {f10 : Addr} {od10 an10 : Option Addr} {sl10 : Array (Option Value)} {oc10 kV10 dc10 pm10 cd10 ct10 : Value}
    (a10 : PySem.W.nsIn K mainGlobals "are_sums" = some (some (.ref f10))) (l10 : K.lookup f10 = some ⟨oc10, od10, .func (PySem.W.fnOf "are_sums" "are_sums" (defArgs s_are_sums) (defBody s_are_sums) (defScope s_are_sums) .none kV10 dc10 pm10 an10 cd10 ct10), sl10⟩) (c10 : PySem.W.codeIn K cd10 "are_sums" = true) (k10 : PySem.W.keepIn K (.ref f10) = true)
    {f11 : Addr} {od11 an11 : Option Addr} {sl11 : Array (Option Value)} {oc11 kV11 dc11 pm11 cd11 ct11 : Value}
    (a11 : PySem.W.nsIn K mainGlobals "is_call" = some (some (.ref f11))) (l11 : K.lookup f11 = some ⟨oc11, od11, .func (PySem.W.fnOf "is_call" "is_call" (defArgs s_is_call) (defBody s_is_call) (defScope s_is_call) .none kV11 dc11 pm11 an11 cd11 ct11), sl11⟩) (c11 : PySem.W.codeIn K cd11 "is_call" = true) (k11 : PySem.W.keepIn K (.ref f11) = true)
    {f12 : Addr} {od12 an12 : Option Addr} {sl12 : Array (Option Value)} {oc12 kV12 dc12 pm12 cd12 ct12 : Value}
    (a12 : PySem.W.nsIn K mainGlobals "is_choice" = some (some (.ref f12))) (l12 : K.lookup f12 = some ⟨oc12, od12, .func (PySem.W.fnOf "is_choice" "is_choice" (defArgs s_is_choice) (defBody s_is_choice) (defScope s_is_choice) .none kV12 dc12 pm12 an12 cd12 ct12), sl12⟩) (c12 : PySem.W.codeIn K cd12 "is_choice" = true) (k12 : PySem.W.keepIn K (.ref f12) = true)
    {f13 : Addr} {od13 an13 : Option Addr} {sl13 : Array (Option Value)} {oc13 kV13 dc13 pm13 cd13 ct13 : Value}
    (a13 : PySem.W.nsIn K mainGlobals "is_turned" = some (some (.ref f13))) (l13 : K.lookup f13 = some ⟨oc13, od13, .func (PySem.W.fnOf "is_turned" "is_turned" (defArgs s_is_turned) (defBody s_is_turned) (defScope s_is_turned) .none kV13 dc13 pm13 an13 cd13 ct13), sl13⟩) (c13 : PySem.W.codeIn K cd13 "is_turned" = true) (k13 : PySem.W.keepIn K (.ref f13) = true)
    {f14 : Addr} {od14 an14 : Option Addr} {sl14 : Array (Option Value)} {oc14 kV14 dc14 pm14 cd14 ct14 : Value}
    (a14 : PySem.W.nsIn K mainGlobals "is_body" = some (some (.ref f14))) (l14 : K.lookup f14 = some ⟨oc14, od14, .func (PySem.W.fnOf "is_body" "is_body" (defArgs s_is_body) (defBody s_is_body) (defScope s_is_body) .none kV14 dc14 pm14 an14 cd14 ct14), sl14⟩) (c14 : PySem.W.codeIn K cd14 "is_body" = true) (k14 : PySem.W.keepIn K (.ref f14) = true)
    {f15 : Addr} {od15 an15 : Option Addr} {sl15 : Array (Option Value)} {oc15 kV15 dc15 pm15 cd15 ct15 : Value}
    (a15 : PySem.W.nsIn K mainGlobals "is_worded" = some (some (.ref f15))) (l15 : K.lookup f15 = some ⟨oc15, od15, .func (PySem.W.fnOf "is_worded" "is_worded" (defArgs s_is_worded) (defBody s_is_worded) (defScope s_is_worded) .none kV15 dc15 pm15 an15 cd15 ct15), sl15⟩) (c15 : PySem.W.codeIn K cd15 "is_worded" = true) (k15 : PySem.W.keepIn K (.ref f15) = true)
    {f16 : Addr} {od16 an16 : Option Addr} {sl16 : Array (Option Value)} {oc16 kV16 dc16 pm16 cd16 ct16 : Value}
    (a16 : PySem.W.nsIn K mainGlobals "count_parts" = some (some (.ref f16))) (l16 : K.lookup f16 = some ⟨oc16, od16, .func (PySem.W.fnOf "count_parts" "count_parts" (defArgs s_count_parts) (defBody s_count_parts) (defScope s_count_parts) .none kV16 dc16 pm16 an16 cd16 ct16), sl16⟩) (c16 : PySem.W.codeIn K cd16 "count_parts" = true) (k16 : PySem.W.keepIn K (.ref f16) = true)
    {f17 : Addr} {od17 an17 : Option Addr} {sl17 : Array (Option Value)} {oc17 kV17 dc17 pm17 cd17 ct17 : Value}
    (a17 : PySem.W.nsIn K mainGlobals "deepness" = some (some (.ref f17))) (l17 : K.lookup f17 = some ⟨oc17, od17, .func (PySem.W.fnOf "deepness" "deepness" (defArgs s_deepness) (defBody s_deepness) (defScope s_deepness) .none kV17 dc17 pm17 an17 cd17 ct17), sl17⟩) (c17 : PySem.W.codeIn K cd17 "deepness" = true) (k17 : PySem.W.keepIn K (.ref f17) = true)
    {f18 : Addr} {od18 an18 : Option Addr} {sl18 : Array (Option Value)} {oc18 kV18 dc18 pm18 cd18 ct18 : Value}
    (a18 : PySem.W.nsIn K mainGlobals "is_head" = some (some (.ref f18))) (l18 : K.lookup f18 = some ⟨oc18, od18, .func (PySem.W.fnOf "is_head" "is_head" (defArgs s_is_head) (defBody s_is_head) (defScope s_is_head) .none kV18 dc18 pm18 an18 cd18 ct18), sl18⟩) (c18 : PySem.W.codeIn K cd18 "is_head" = true) (k18 : PySem.W.keepIn K (.ref f18) = true)
    {f19 : Addr} {od19 an19 : Option Addr} {sl19 : Array (Option Value)} {oc19 kV19 dc19 pm19 cd19 ct19 : Value}
    (a19 : PySem.W.nsIn K mainGlobals "are_functions" = some (some (.ref f19))) (l19 : K.lookup f19 = some ⟨oc19, od19, .func (PySem.W.fnOf "are_functions" "are_functions" (defArgs s_are_functions) (defBody s_are_functions) (defScope s_are_functions) .none kV19 dc19 pm19 an19 cd19 ct19), sl19⟩) (c19 : PySem.W.codeIn K cd19 "are_functions" = true) (k19 : PySem.W.keepIn K (.ref f19) = true)
    {f20 : Addr} {od20 an20 : Option Addr} {sl20 : Array (Option Value)} {oc20 kV20 dc20 pm20 cd20 ct20 : Value}
    (a20 : PySem.W.nsIn K mainGlobals "program_of" = some (some (.ref f20))) (l20 : K.lookup f20 = some ⟨oc20, od20, .func (PySem.W.fnOf "program_of" "program_of" (defArgs s_program_of) (defBody s_program_of) (defScope s_program_of) .none kV20 dc20 pm20 an20 cd20 ct20), sl20⟩) (c20 : PySem.W.codeIn K cd20 "program_of" = true) (k20 : PySem.W.keepIn K (.ref f20) = true)
    {f21 : Addr} {od21 an21 : Option Addr} {sl21 : Array (Option Value)} {oc21 kV21 dc21 pm21 cd21 ct21 : Value}
    (a21 : PySem.W.nsIn K mainGlobals "is_tree" = some (some (.ref f21))) (l21 : K.lookup f21 = some ⟨oc21, od21, .func (PySem.W.fnOf "is_tree" "is_tree" (defArgs s_is_tree) (defBody s_is_tree) (defScope s_is_tree) .none kV21 dc21 pm21 an21 cd21 ct21), sl21⟩) (c21 : PySem.W.codeIn K cd21 "is_tree" = true) (k21 : PySem.W.keepIn K (.ref f21) = true)
    {f22 : Addr} {od22 an22 : Option Addr} {sl22 : Array (Option Value)} {oc22 kV22 dc22 pm22 cd22 ct22 : Value}
    (a22 : PySem.W.nsIn K mainGlobals "is_of" = some (some (.ref f22))) (l22 : K.lookup f22 = some ⟨oc22, od22, .func (PySem.W.fnOf "is_of" "is_of" (defArgs s_is_of) (defBody s_is_of) (defScope s_is_of) .none kV22 dc22 pm22 an22 cd22 ct22), sl22⟩) (c22 : PySem.W.codeIn K cd22 "is_of" = true) (k22 : PySem.W.keepIn K (.ref f22) = true)
    {f23 : Addr} {od23 an23 : Option Addr} {sl23 : Array (Option Value)} {oc23 kV23 dc23 pm23 cd23 ct23 : Value}
    (a23 : PySem.W.nsIn K mainGlobals "copied" = some (some (.ref f23))) (l23 : K.lookup f23 = some ⟨oc23, od23, .func (PySem.W.fnOf "copied" "copied" (defArgs s_copied) (defBody s_copied) (defScope s_copied) .none kV23 dc23 pm23 an23 cd23 ct23), sl23⟩) (c23 : PySem.W.codeIn K cd23 "copied" = true) (k23 : PySem.W.keepIn K (.ref f23) = true)
    {f24 : Addr} {od24 an24 : Option Addr} {sl24 : Array (Option Value)} {oc24 kV24 dc24 pm24 cd24 ct24 : Value}
    (a24 : PySem.W.nsIn K mainGlobals "given_of" = some (some (.ref f24))) (l24 : K.lookup f24 = some ⟨oc24, od24, .func (PySem.W.fnOf "given_of" "given_of" (defArgs s_given_of) (defBody s_given_of) (defScope s_given_of) .none kV24 dc24 pm24 an24 cd24 ct24), sl24⟩) (c24 : PySem.W.codeIn K cd24 "given_of" = true) (k24 : PySem.W.keepIn K (.ref f24) = true)
    {f25 : Addr} {od25 an25 : Option Addr} {sl25 : Array (Option Value)} {oc25 kV25 dc25 pm25 cd25 ct25 : Value}
    (a25 : PySem.W.nsIn K mainGlobals "_law_at" = some (some (.ref f25))) (l25 : K.lookup f25 = some ⟨oc25, od25, .func (PySem.W.fnOf "_law_at" "_law_at" (defArgs s_l_at) (defBody s_l_at) (defScope s_l_at) .none kV25 dc25 pm25 an25 cd25 ct25), sl25⟩) (c25 : PySem.W.codeIn K cd25 "_law_at" = true) (k25 : PySem.W.keepIn K (.ref f25) = true)
    {f26 : Addr} {od26 an26 : Option Addr} {sl26 : Array (Option Value)} {oc26 kV26 dc26 pm26 cd26 ct26 : Value}
    (a26 : PySem.W.nsIn K mainGlobals "_law_pen" = some (some (.ref f26))) (l26 : K.lookup f26 = some ⟨oc26, od26, .func (PySem.W.fnOf "_law_pen" "_law_pen" (defArgs s_l_pen) (defBody s_l_pen) (defScope s_l_pen) .none kV26 dc26 pm26 an26 cd26 ct26), sl26⟩) (c26 : PySem.W.codeIn K cd26 "_law_pen" = true) (k26 : PySem.W.keepIn K (.ref f26) = true)
    {f27 : Addr} {od27 an27 : Option Addr} {sl27 : Array (Option Value)} {oc27 kV27 dc27 pm27 cd27 ct27 : Value}
    (a27 : PySem.W.nsIn K mainGlobals "_law_take" = some (some (.ref f27))) (l27 : K.lookup f27 = some ⟨oc27, od27, .func (PySem.W.fnOf "_law_take" "_law_take" (defArgs s_l_take) (defBody s_l_take) (defScope s_l_take) .none kV27 dc27 pm27 an27 cd27 ct27), sl27⟩) (c27 : PySem.W.codeIn K cd27 "_law_take" = true) (k27 : PySem.W.keepIn K (.ref f27) = true)
    {f28 : Addr} {od28 an28 : Option Addr} {sl28 : Array (Option Value)} {oc28 kV28 dc28 pm28 cd28 ct28 : Value}
    (a28 : PySem.W.nsIn K mainGlobals "_law_names" = some (some (.ref f28))) (l28 : K.lookup f28 = some ⟨oc28, od28, .func (PySem.W.fnOf "_law_names" "_law_names" (defArgs s_l_names) (defBody s_l_names) (defScope s_l_names) .none kV28 dc28 pm28 an28 cd28 ct28), sl28⟩) (c28 : PySem.W.codeIn K cd28 "_law_names" = true) (k28 : PySem.W.keepIn K (.ref f28) = true)
    {f29 : Addr} {od29 an29 : Option Addr} {sl29 : Array (Option Value)} {oc29 kV29 dc29 pm29 cd29 ct29 : Value}
    (a29 : PySem.W.nsIn K mainGlobals "_law_things" = some (some (.ref f29))) (l29 : K.lookup f29 = some ⟨oc29, od29, .func (PySem.W.fnOf "_law_things" "_law_things" (defArgs s_l_things) (defBody s_l_things) (defScope s_l_things) .none kV29 dc29 pm29 an29 cd29 ct29), sl29⟩) (c29 : PySem.W.codeIn K cd29 "_law_things" = true) (k29 : PySem.W.keepIn K (.ref f29) = true)
    {f30 : Addr} {od30 an30 : Option Addr} {sl30 : Array (Option Value)} {oc30 kV30 dc30 pm30 cd30 ct30 : Value}
    (a30 : PySem.W.nsIn K mainGlobals "_law_less" = some (some (.ref f30))) (l30 : K.lookup f30 = some ⟨oc30, od30, .func (PySem.W.fnOf "_law_less" "_law_less" (defArgs s_l_less) (defBody s_l_less) (defScope s_l_less) .none kV30 dc30 pm30 an30 cd30 ct30), sl30⟩) (c30 : PySem.W.codeIn K cd30 "_law_less" = true) (k30 : PySem.W.keepIn K (.ref f30) = true)
    {f31 : Addr} {od31 an31 : Option Addr} {sl31 : Array (Option Value)} {oc31 kV31 dc31 pm31 cd31 ct31 : Value}
    (a31 : PySem.W.nsIn K mainGlobals "_law_counted" = some (some (.ref f31))) (l31 : K.lookup f31 = some ⟨oc31, od31, .func (PySem.W.fnOf "_law_counted" "_law_counted" (defArgs s_l_counted) (defBody s_l_counted) (defScope s_l_counted) .none kV31 dc31 pm31 an31 cd31 ct31), sl31⟩) (c31 : PySem.W.codeIn K cd31 "_law_counted" = true) (k31 : PySem.W.keepIn K (.ref f31) = true)
    {f32 : Addr} {od32 an32 : Option Addr} {sl32 : Array (Option Value)} {oc32 kV32 dc32 pm32 cd32 ct32 : Value}
    (a32 : PySem.W.nsIn K mainGlobals "_law_stretches" = some (some (.ref f32))) (l32 : K.lookup f32 = some ⟨oc32, od32, .func (PySem.W.fnOf "_law_stretches" "_law_stretches" (defArgs s_l_stretches) (defBody s_l_stretches) (defScope s_l_stretches) .none kV32 dc32 pm32 an32 cd32 ct32), sl32⟩) (c32 : PySem.W.codeIn K cd32 "_law_stretches" = true) (k32 : PySem.W.keepIn K (.ref f32) = true)
    {f33 : Addr} {od33 an33 : Option Addr} {sl33 : Array (Option Value)} {oc33 kV33 dc33 pm33 cd33 ct33 : Value}
    (a33 : PySem.W.nsIn K mainGlobals "_law_sets" = some (some (.ref f33))) (l33 : K.lookup f33 = some ⟨oc33, od33, .func (PySem.W.fnOf "_law_sets" "_law_sets" (defArgs s_l_sets) (defBody s_l_sets) (defScope s_l_sets) .none kV33 dc33 pm33 an33 cd33 ct33), sl33⟩) (c33 : PySem.W.codeIn K cd33 "_law_sets" = true) (k33 : PySem.W.keepIn K (.ref f33) = true)
    {f34 : Addr} {od34 an34 : Option Addr} {sl34 : Array (Option Value)} {oc34 kV34 dc34 pm34 cd34 ct34 : Value}
    (a34 : PySem.W.nsIn K mainGlobals "_law_knots" = some (some (.ref f34))) (l34 : K.lookup f34 = some ⟨oc34, od34, .func (PySem.W.fnOf "_law_knots" "_law_knots" (defArgs s_l_knots) (defBody s_l_knots) (defScope s_l_knots) .none kV34 dc34 pm34 an34 cd34 ct34), sl34⟩) (c34 : PySem.W.codeIn K cd34 "_law_knots" = true) (k34 : PySem.W.keepIn K (.ref f34) = true)
    {f35 : Addr} {od35 an35 : Option Addr} {sl35 : Array (Option Value)} {oc35 kV35 dc35 pm35 cd35 ct35 : Value}
    (a35 : PySem.W.nsIn K mainGlobals "_law_two" = some (some (.ref f35))) (l35 : K.lookup f35 = some ⟨oc35, od35, .func (PySem.W.fnOf "_law_two" "_law_two" (defArgs s_l_two) (defBody s_l_two) (defScope s_l_two) .none kV35 dc35 pm35 an35 cd35 ct35), sl35⟩) (c35 : PySem.W.codeIn K cd35 "_law_two" = true) (k35 : PySem.W.keepIn K (.ref f35) = true)
    {f36 : Addr} {od36 an36 : Option Addr} {sl36 : Array (Option Value)} {oc36 kV36 dc36 pm36 cd36 ct36 : Value}
    (a36 : PySem.W.nsIn K mainGlobals "_law_grid" = some (some (.ref f36))) (l36 : K.lookup f36 = some ⟨oc36, od36, .func (PySem.W.fnOf "_law_grid" "_law_grid" (defArgs s_l_grid) (defBody s_l_grid) (defScope s_l_grid) .none kV36 dc36 pm36 an36 cd36 ct36), sl36⟩) (c36 : PySem.W.codeIn K cd36 "_law_grid" = true) (k36 : PySem.W.keepIn K (.ref f36) = true)
    {f37 : Addr} {od37 an37 : Option Addr} {sl37 : Array (Option Value)} {oc37 kV37 dc37 pm37 cd37 ct37 : Value}
    (a37 : PySem.W.nsIn K mainGlobals "_law_upwards" = some (some (.ref f37))) (l37 : K.lookup f37 = some ⟨oc37, od37, .func (PySem.W.fnOf "_law_upwards" "_law_upwards" (defArgs s_l_upwards) (defBody s_l_upwards) (defScope s_l_upwards) .none kV37 dc37 pm37 an37 cd37 ct37), sl37⟩) (c37 : PySem.W.codeIn K cd37 "_law_upwards" = true) (k37 : PySem.W.keepIn K (.ref f37) = true)
    {f38 : Addr} {od38 an38 : Option Addr} {sl38 : Array (Option Value)} {oc38 kV38 dc38 pm38 cd38 ct38 : Value}
    (a38 : PySem.W.nsIn K mainGlobals "_law_places" = some (some (.ref f38))) (l38 : K.lookup f38 = some ⟨oc38, od38, .func (PySem.W.fnOf "_law_places" "_law_places" (defArgs s_l_places) (defBody s_l_places) (defScope s_l_places) .none kV38 dc38 pm38 an38 cd38 ct38), sl38⟩) (c38 : PySem.W.codeIn K cd38 "_law_places" = true) (k38 : PySem.W.keepIn K (.ref f38) = true)
    {f39 : Addr} {od39 an39 : Option Addr} {sl39 : Array (Option Value)} {oc39 kV39 dc39 pm39 cd39 ct39 : Value}
    (a39 : PySem.W.nsIn K mainGlobals "_law_arg" = some (some (.ref f39))) (l39 : K.lookup f39 = some ⟨oc39, od39, .func (PySem.W.fnOf "_law_arg" "_law_arg" (defArgs s_l_arg) (defBody s_l_arg) (defScope s_l_arg) .none kV39 dc39 pm39 an39 cd39 ct39), sl39⟩) (c39 : PySem.W.codeIn K cd39 "_law_arg" = true) (k39 : PySem.W.keepIn K (.ref f39) = true)
    {f40 : Addr} {od40 an40 : Option Addr} {sl40 : Array (Option Value)} {oc40 kV40 dc40 pm40 cd40 ct40 : Value}
    (a40 : PySem.W.nsIn K mainGlobals "_law_call" = some (some (.ref f40))) (l40 : K.lookup f40 = some ⟨oc40, od40, .func (PySem.W.fnOf "_law_call" "_law_call" (defArgs s_l_call) (defBody s_l_call) (defScope s_l_call) .none kV40 dc40 pm40 an40 cd40 ct40), sl40⟩) (c40 : PySem.W.codeIn K cd40 "_law_call" = true) (k40 : PySem.W.keepIn K (.ref f40) = true)
    {f41 : Addr} {od41 an41 : Option Addr} {sl41 : Array (Option Value)} {oc41 kV41 dc41 pm41 cd41 ct41 : Value}
    (a41 : PySem.W.nsIn K mainGlobals "_law_turned" = some (some (.ref f41))) (l41 : K.lookup f41 = some ⟨oc41, od41, .func (PySem.W.fnOf "_law_turned" "_law_turned" (defArgs s_l_turned) (defBody s_l_turned) (defScope s_l_turned) .none kV41 dc41 pm41 an41 cd41 ct41), sl41⟩) (c41 : PySem.W.codeIn K cd41 "_law_turned" = true) (k41 : PySem.W.keepIn K (.ref f41) = true)
    {f42 : Addr} {od42 an42 : Option Addr} {sl42 : Array (Option Value)} {oc42 kV42 dc42 pm42 cd42 ct42 : Value}
    (a42 : PySem.W.nsIn K mainGlobals "_law_item" = some (some (.ref f42))) (l42 : K.lookup f42 = some ⟨oc42, od42, .func (PySem.W.fnOf "_law_item" "_law_item" (defArgs s_l_item) (defBody s_l_item) (defScope s_l_item) .none kV42 dc42 pm42 an42 cd42 ct42), sl42⟩) (c42 : PySem.W.codeIn K cd42 "_law_item" = true) (k42 : PySem.W.keepIn K (.ref f42) = true)
    {f43 : Addr} {od43 an43 : Option Addr} {sl43 : Array (Option Value)} {oc43 kV43 dc43 pm43 cd43 ct43 : Value}
    (a43 : PySem.W.nsIn K mainGlobals "_law_wild" = some (some (.ref f43))) (l43 : K.lookup f43 = some ⟨oc43, od43, .func (PySem.W.fnOf "_law_wild" "_law_wild" (defArgs s_l_wild) (defBody s_l_wild) (defScope s_l_wild) .none kV43 dc43 pm43 an43 cd43 ct43), sl43⟩) (c43 : PySem.W.codeIn K cd43 "_law_wild" = true) (k43 : PySem.W.keepIn K (.ref f43) = true)
    {f44 : Addr} {od44 an44 : Option Addr} {sl44 : Array (Option Value)} {oc44 kV44 dc44 pm44 cd44 ct44 : Value}
    (a44 : PySem.W.nsIn K mainGlobals "_law_drawn" = some (some (.ref f44))) (l44 : K.lookup f44 = some ⟨oc44, od44, .func (PySem.W.fnOf "_law_drawn" "_law_drawn" (defArgs s_l_drawn) (defBody s_l_drawn) (defScope s_l_drawn) .none kV44 dc44 pm44 an44 cd44 ct44), sl44⟩) (c44 : PySem.W.codeIn K cd44 "_law_drawn" = true) (k44 : PySem.W.keepIn K (.ref f44) = true)
    {f45 : Addr} {od45 an45 : Option Addr} {sl45 : Array (Option Value)} {oc45 kV45 dc45 pm45 cd45 ct45 : Value}
    (a45 : PySem.W.nsIn K mainGlobals "_law_program" = some (some (.ref f45))) (l45 : K.lookup f45 = some ⟨oc45, od45, .func (PySem.W.fnOf "_law_program" "_law_program" (defArgs s_l_program) (defBody s_l_program) (defScope s_l_program) .none kV45 dc45 pm45 an45 cd45 ct45), sl45⟩) (c45 : PySem.W.codeIn K cd45 "_law_program" = true) (k45 : PySem.W.keepIn K (.ref f45) = true)
    {f46 : Addr} {od46 an46 : Option Addr} {sl46 : Array (Option Value)} {oc46 kV46 dc46 pm46 cd46 ct46 : Value}
    (a46 : PySem.W.nsIn K mainGlobals "_law_called" = some (some (.ref f46))) (l46 : K.lookup f46 = some ⟨oc46, od46, .func (PySem.W.fnOf "_law_called" "_law_called" (defArgs s_l_called) (defBody s_l_called) (defScope s_l_called) .none kV46 dc46 pm46 an46 cd46 ct46), sl46⟩) (c46 : PySem.W.codeIn K cd46 "_law_called" = true) (k46 : PySem.W.keepIn K (.ref f46) = true)
    {f47 : Addr} {od47 an47 : Option Addr} {sl47 : Array (Option Value)} {oc47 kV47 dc47 pm47 cd47 ct47 : Value}
    (a47 : PySem.W.nsIn K mainGlobals "_law_is_list" = some (some (.ref f47))) (l47 : K.lookup f47 = some ⟨oc47, od47, .func (PySem.W.fnOf "_law_is_list" "_law_is_list" (defArgs s_l_is_list) (defBody s_l_is_list) (defScope s_l_is_list) .none kV47 dc47 pm47 an47 cd47 ct47), sl47⟩) (c47 : PySem.W.codeIn K cd47 "_law_is_list" = true) (k47 : PySem.W.keepIn K (.ref f47) = true)
    {f48 : Addr} {od48 an48 : Option Addr} {sl48 : Array (Option Value)} {oc48 kV48 dc48 pm48 cd48 ct48 : Value}
    (a48 : PySem.W.nsIn K mainGlobals "law" = some (some (.ref f48))) (l48 : K.lookup f48 = some ⟨oc48, od48, .func (PySem.W.fnOf "law" "law" (defArgs s_law) (defBody s_law) (defScope s_law) .none kV48 dc48 pm48 an48 cd48 ct48), sl48⟩) (c48 : PySem.W.codeIn K cd48 "law" = true) (k48 : PySem.W.keepIn K (.ref f48) = true)
    {a_OF_SUMS : Addr} {dd_OF_SUMS : Option Addr} {nn_OF_SUMS : Nat} {ss_OF_SUMS : Array (Option Value)} {t_OF_SUMS0 t_OF_SUMS1 t_OF_SUMS2 : Tok} (m_OF_SUMS : PySem.W.nsIn K mainGlobals "OF_SUMS" = some (some (.ref a_OF_SUMS))) (n_OF_SUMS : K.lookup a_OF_SUMS = some ⟨.type "tuple", dd_OF_SUMS, .seq #[.str "below" t_OF_SUMS0, .str "same" t_OF_SUMS1, .str "has" t_OF_SUMS2] nn_OF_SUMS, ss_OF_SUMS⟩)
    {a_WORDS : Addr} {dd_WORDS : Option Addr} {nn_WORDS : Nat} {ss_WORDS : Array (Option Value)} {t_WORDS0 t_WORDS1 t_WORDS2 t_WORDS3 t_WORDS4 t_WORDS5 t_WORDS6 t_WORDS7 t_WORDS8 t_WORDS9 t_WORDS10 t_WORDS11 t_WORDS12 t_WORDS13 t_WORDS14 t_WORDS15 t_WORDS16 t_WORDS17 t_WORDS18 t_WORDS19 t_WORDS20 t_WORDS21 t_WORDS22 t_WORDS23 t_WORDS24 t_WORDS25 t_WORDS26 t_WORDS27 t_WORDS28 t_WORDS29 t_WORDS30 t_WORDS31 t_WORDS32 t_WORDS33 t_WORDS34 t_WORDS35 : Tok} (m_WORDS : PySem.W.nsIn K mainGlobals "WORDS" = some (some (.ref a_WORDS))) (n_WORDS : K.lookup a_WORDS = some ⟨.type "tuple", dd_WORDS, .seq #[.str "num" t_WORDS0, .str "own" t_WORDS1, .str "need" t_WORDS2, .str "size" t_WORDS3, .str "at" t_WORDS4, .str "kids" t_WORDS5, .str "kid" t_WORDS6, .str "full" t_WORDS7, .str "with" t_WORDS8, .str "without" t_WORDS9, .str "many" t_WORDS10, .str "plus" t_WORDS11, .str "less" t_WORDS12, .str "times" t_WORDS13, .str "half" t_WORDS14, .str "rest" t_WORDS15, .str "lesser" t_WORDS16, .str "greater" t_WORDS17, .str "below" t_WORDS18, .str "same" t_WORDS19, .str "has" t_WORDS20, .str "not" t_WORDS21, .str "and" t_WORDS22, .str "or" t_WORDS23, .str "gain" t_WORDS24, .str "none" t_WORDS25, .str "call" t_WORDS26, .str "both" t_WORDS27, .str "choose" t_WORDS28, .str "each" t_WORDS29, .str "all" t_WORDS30, .str "if" t_WORDS31, .str "number" t_WORDS32, .str "row" t_WORDS33, .str "text" t_WORDS34, .str "tree" t_WORDS35] nn_WORDS, ss_WORDS⟩)
    {t_LETTERS : Tok} (m_LETTERS : PySem.W.nsIn K mainGlobals "LETTERS" = some (some (.str "abcdefghijklmnopqrstuvwxyz" t_LETTERS)))
    {t_MOST_NEEDS : Tok} (m_MOST_NEEDS : PySem.W.nsIn K mainGlobals "MOST_NEEDS" = some (some (.int (6) t_MOST_NEEDS)))
    {a_NEED_KINDS : Addr} {dd_NEED_KINDS : Option Addr} {nn_NEED_KINDS : Nat} {ss_NEED_KINDS : Array (Option Value)} {t_NEED_KINDS0 t_NEED_KINDS1 t_NEED_KINDS2 t_NEED_KINDS3 : Tok} (m_NEED_KINDS : PySem.W.nsIn K mainGlobals "NEED_KINDS" = some (some (.ref a_NEED_KINDS))) (n_NEED_KINDS : K.lookup a_NEED_KINDS = some ⟨.type "tuple", dd_NEED_KINDS, .seq #[.str "number" t_NEED_KINDS0, .str "row" t_NEED_KINDS1, .str "text" t_NEED_KINDS2, .str "tree" t_NEED_KINDS3] nn_NEED_KINDS, ss_NEED_KINDS⟩)
    {t_MOST_CHOICES : Tok} (m_MOST_CHOICES : PySem.W.nsIn K mainGlobals "MOST_CHOICES" = some (some (.int (4) t_MOST_CHOICES)))
    {t_MOST_TURNS : Tok} (m_MOST_TURNS : PySem.W.nsIn K mainGlobals "MOST_TURNS" = some (some (.int (2) t_MOST_TURNS)))
    {t_MOST_PLACES : Tok} (m_MOST_PLACES : PySem.W.nsIn K mainGlobals "MOST_PLACES" = some (some (.int (3) t_MOST_PLACES)))
    {t_MOST_MOST : Tok} (m_MOST_MOST : PySem.W.nsIn K mainGlobals "MOST_MOST" = some (some (.int (12) t_MOST_MOST)))
    {t_MOST_FUNCTIONS : Tok} (m_MOST_FUNCTIONS : PySem.W.nsIn K mainGlobals "MOST_FUNCTIONS" = some (some (.int (4) t_MOST_FUNCTIONS)))
    {t_MOST_PARTS : Tok} (m_MOST_PARTS : PySem.W.nsIn K mainGlobals "MOST_PARTS" = some (some (.int (60) t_MOST_PARTS)))
    {t_MOST_DEEP : Tok} (m_MOST_DEEP : PySem.W.nsIn K mainGlobals "MOST_DEEP" = some (some (.int (12) t_MOST_DEEP)))
    {t_MOST_SIZE : Tok} (m_MOST_SIZE : PySem.W.nsIn K mainGlobals "MOST_SIZE" = some (some (.int (12) t_MOST_SIZE)))
    {d_KINDS : Addr} {es_KINDS : Array DictEntry} {ne_KINDS : Nat} (m_KINDS : PySem.W.nsIn K mainGlobals "KINDS" = some (some (.ref d_KINDS))) (l_KINDS : K.lookup d_KINDS = some ⟨.type "dict", none, .dict es_KINDS ne_KINDS, #[]⟩) (lit_KINDS : PySem.W.KeysLit w.params es_KINDS.toList) (low_KINDS : (d_KINDS == sysModules) = false)
    {a_KINDS0 : Addr} {dd_KINDS0 : Option Addr} {nn_KINDS0 : Nat} {ss_KINDS0 : Array (Option Value)} {t_KINDS0_0 : Tok} (k_KINDS0 : PySem.W.nsIn K d_KINDS "x" = some (some (.ref a_KINDS0))) (kl_KINDS0 : K.lookup a_KINDS0 = some ⟨.type "tuple", dd_KINDS0, .seq #[.str "number" t_KINDS0_0] nn_KINDS0, ss_KINDS0⟩)
    {a_KINDS1 : Addr} {dd_KINDS1 : Option Addr} {nn_KINDS1 : Nat} {ss_KINDS1 : Array (Option Value)} {t_KINDS1_0 t_KINDS1_1 t_KINDS1_2 : Tok} (k_KINDS1 : PySem.W.nsIn K d_KINDS "z" = some (some (.ref a_KINDS1))) (kl_KINDS1 : K.lookup a_KINDS1 = some ⟨.type "tuple", dd_KINDS1, .seq #[.str "row" t_KINDS1_0, .str "text" t_KINDS1_1, .str "tree" t_KINDS1_2] nn_KINDS1, ss_KINDS1⟩)
    {a_KINDS2 : Addr} {dd_KINDS2 : Option Addr} {nn_KINDS2 : Nat} {ss_KINDS2 : Array (Option Value)} {t_KINDS2_0 t_KINDS2_1 : Tok} (k_KINDS2 : PySem.W.nsIn K d_KINDS "l" = some (some (.ref a_KINDS2))) (kl_KINDS2 : K.lookup a_KINDS2 = some ⟨.type "tuple", dd_KINDS2, .seq #[.str "row" t_KINDS2_0, .str "text" t_KINDS2_1] nn_KINDS2, ss_KINDS2⟩)
    {a_KINDS3 : Addr} {dd_KINDS3 : Option Addr} {nn_KINDS3 : Nat} {ss_KINDS3 : Array (Option Value)} {t_KINDS3_0 : Tok} (k_KINDS3 : PySem.W.nsIn K d_KINDS "t" = some (some (.ref a_KINDS3))) (kl_KINDS3 : K.lookup a_KINDS3 = some ⟨.type "tuple", dd_KINDS3, .seq #[.str "tree" t_KINDS3_0] nn_KINDS3, ss_KINDS3⟩)
    {d_FORMS : Addr} {es_FORMS : Array DictEntry} {ne_FORMS : Nat} (m_FORMS : PySem.W.nsIn K mainGlobals "FORMS" = some (some (.ref d_FORMS))) (l_FORMS : K.lookup d_FORMS = some ⟨.type "dict", none, .dict es_FORMS ne_FORMS, #[]⟩) (lit_FORMS : PySem.W.KeysLit w.params es_FORMS.toList) (low_FORMS : (d_FORMS == sysModules) = false)
    {t_FORMS0 : Tok} (k_FORMS0 : PySem.W.nsIn K d_FORMS "num" = some (some (.str "n" t_FORMS0)))
    {t_FORMS1 : Tok} (k_FORMS1 : PySem.W.nsIn K d_FORMS "own" = some (some (.str "o" t_FORMS1)))
    {t_FORMS2 : Tok} (k_FORMS2 : PySem.W.nsIn K d_FORMS "need" = some (some (.str "x" t_FORMS2)))
    {t_FORMS3 : Tok} (k_FORMS3 : PySem.W.nsIn K d_FORMS "size" = some (some (.str "z" t_FORMS3)))
    {t_FORMS4 : Tok} (k_FORMS4 : PySem.W.nsIn K d_FORMS "at" = some (some (.str "ls" t_FORMS4)))
    {t_FORMS5 : Tok} (k_FORMS5 : PySem.W.nsIn K d_FORMS "kids" = some (some (.str "ts" t_FORMS5)))
    {t_FORMS6 : Tok} (k_FORMS6 : PySem.W.nsIn K d_FORMS "kid" = some (some (.str "tss" t_FORMS6)))
    {t_FORMS7 : Tok} (k_FORMS7 : PySem.W.nsIn K d_FORMS "full" = some (some (.str "s" t_FORMS7)))
    {t_FORMS8 : Tok} (k_FORMS8 : PySem.W.nsIn K d_FORMS "with" = some (some (.str "ss" t_FORMS8)))
    {t_FORMS9 : Tok} (k_FORMS9 : PySem.W.nsIn K d_FORMS "without" = some (some (.str "ss" t_FORMS9)))
    {t_FORMS10 : Tok} (k_FORMS10 : PySem.W.nsIn K d_FORMS "many" = some (some (.str "s" t_FORMS10)))
    {t_FORMS11 : Tok} (k_FORMS11 : PySem.W.nsIn K d_FORMS "plus" = some (some (.str "ss" t_FORMS11)))
    {t_FORMS12 : Tok} (k_FORMS12 : PySem.W.nsIn K d_FORMS "less" = some (some (.str "ss" t_FORMS12)))
    {t_FORMS13 : Tok} (k_FORMS13 : PySem.W.nsIn K d_FORMS "times" = some (some (.str "ss" t_FORMS13)))
    {t_FORMS14 : Tok} (k_FORMS14 : PySem.W.nsIn K d_FORMS "half" = some (some (.str "s" t_FORMS14)))
    {t_FORMS15 : Tok} (k_FORMS15 : PySem.W.nsIn K d_FORMS "rest" = some (some (.str "ss" t_FORMS15)))
    {t_FORMS16 : Tok} (k_FORMS16 : PySem.W.nsIn K d_FORMS "lesser" = some (some (.str "ss" t_FORMS16)))
    {t_FORMS17 : Tok} (k_FORMS17 : PySem.W.nsIn K d_FORMS "greater" = some (some (.str "ss" t_FORMS17)))
    (o_FORMS0 : PySem.W.nsIn K d_FORMS "" = some none)
    {d_OF_CONDS : Addr} {es_OF_CONDS : Array DictEntry} {ne_OF_CONDS : Nat} (m_OF_CONDS : PySem.W.nsIn K mainGlobals "OF_CONDS" = some (some (.ref d_OF_CONDS))) (l_OF_CONDS : K.lookup d_OF_CONDS = some ⟨.type "dict", none, .dict es_OF_CONDS ne_OF_CONDS, #[]⟩) (lit_OF_CONDS : PySem.W.KeysLit w.params es_OF_CONDS.toList) (low_OF_CONDS : (d_OF_CONDS == sysModules) = false)
    {t_OF_CONDS0 : Tok} (k_OF_CONDS0 : PySem.W.nsIn K d_OF_CONDS "not" = some (some (.int (1) t_OF_CONDS0)))
    {t_OF_CONDS1 : Tok} (k_OF_CONDS1 : PySem.W.nsIn K d_OF_CONDS "and" = some (some (.int (2) t_OF_CONDS1)))
    {t_OF_CONDS2 : Tok} (k_OF_CONDS2 : PySem.W.nsIn K d_OF_CONDS "or" = some (some (.int (2) t_OF_CONDS2)))
    (o_OF_CONDS0 : PySem.W.nsIn K d_OF_CONDS "below" = some none)
    (o_OF_CONDS1 : PySem.W.nsIn K d_OF_CONDS "same" = some none)
    (o_OF_CONDS2 : PySem.W.nsIn K d_OF_CONDS "has" = some none)
    (z_isinstance : PySem.W.nsIn K mainGlobals "isinstance" = some none)
    (z_int : PySem.W.nsIn K mainGlobals "int" = some none)
    (z_bool : PySem.W.nsIn K mainGlobals "bool" = some none)
    (z_tuple : PySem.W.nsIn K mainGlobals "tuple" = some none)
    (z_len : PySem.W.nsIn K mainGlobals "len" = some none)
    (z_str : PySem.W.nsIn K mainGlobals "str" = some none)
    (z_all : PySem.W.nsIn K mainGlobals "all" = some none)
    (z_zip : PySem.W.nsIn K mainGlobals "zip" = some none)
    (z_list : PySem.W.nsIn K mainGlobals "list" = some none)
    (z_enumerate : PySem.W.nsIn K mainGlobals "enumerate" = some none)
    (z_set : PySem.W.nsIn K mainGlobals "set" = some none)
    (z_sum : PySem.W.nsIn K mainGlobals "sum" = some none)
    (z_max : PySem.W.nsIn K mainGlobals "max" = some none)
    (z_dict : PySem.W.nsIn K mainGlobals "dict" = some none)
    (z_range : PySem.W.nsIn K mainGlobals "range" = some none)
    : ∃ T : Txt K w mg, mg "law" = some (.ref T.f_law) ∧ ∀ (s : Shared) (v : Value), BindsTo s T.d_law ⟨[v], []⟩ [("_law_script", v)] := by
  have F0 := fun_mk (st := s_is_whole) l0 c0 k0
  have b0 := F0.binds (ps := ["thing"]) fun _ _ _ _ _ _ us hl => match us, hl with | [_], _ => rfl
  have F1 := fun_mk (st := s_kind_of) l1 c1 k1
  have b1 := F1.binds (ps := ["needs", "name"]) fun _ _ _ _ _ _ us hl => match us, hl with | [_, _], _ => rfl
  have F2 := fun_mk (st := s_is_part) l2 c2 k2
  have b2 := F2.binds (ps := ["kind", "part", "needs", "many"]) fun _ _ _ _ _ _ us hl => match us, hl with | [_, _, _, _], _ => rfl
  have F3 := fun_mk (st := s_is_sum) l3 c3 k3
  have b3 := F3.binds (ps := ["thing", "needs", "many"]) fun _ _ _ _ _ _ us hl => match us, hl with | [_, _, _], _ => rfl
  have F4 := fun_mk (st := s_is_cond) l4 c4 k4
  have b4 := F4.binds (ps := ["thing", "needs", "many"]) fun _ _ _ _ _ _ us hl => match us, hl with | [_, _, _], _ => rfl
  have F5 := fun_mk (st := s_calls_in) l5 c5 k5
  have b5 := F5.binds (ps := ["body", "turns"]) fun _ _ _ _ _ _ us hl => match us, hl with | [_, _], _ => rfl
  have F6 := fun_mk (st := s_calls_of) l6 c6 k6
  have b6 := F6.binds (ps := ["program"]) fun _ _ _ _ _ _ us hl => match us, hl with | [_], _ => rfl
  have F7 := fun_mk (st := s_is_name) l7 c7 k7
  have b7 := F7.binds (ps := ["thing"]) fun _ _ _ _ _ _ us hl => match us, hl with | [_], _ => rfl
  have F8 := fun_mk (st := s_are_needs) l8 c8 k8
  have b8 := F8.binds (ps := ["thing"]) fun _ _ _ _ _ _ us hl => match us, hl with | [_], _ => rfl
  have F9 := fun_mk (st := s_is_most) l9 c9 k9
  have b9 := F9.binds (ps := ["thing", "needs"]) fun _ _ _ _ _ _ us hl => match us, hl with | [_, _], _ => rfl
  have F10 := fun_mk (st := s_are_sums) l10 c10 k10
  have b10 := F10.binds (ps := ["thing", "many", "needs", "own"]) fun _ _ _ _ _ _ us hl => match us, hl with | [_, _, _, _], _ => rfl
  have F11 := fun_mk (st := s_is_call) l11 c11 k11
  have b11 := F11.binds (ps := ["thing", "house", "own"]) fun _ _ _ _ _ _ us hl => match us, hl with | [_, _, _], _ => rfl
  have F12 := fun_mk (st := s_is_choice) l12 c12 k12
  have b12 := F12.binds (ps := ["thing", "house", "own", "turns"]) fun _ _ _ _ _ _ us hl => match us, hl with | [_, _, _, _], _ => rfl
  have F13 := fun_mk (st := s_is_turned) l13 c13 k13
  have b13 := F13.binds (ps := ["thing", "house", "own", "turns"]) fun _ _ _ _ _ _ us hl => match us, hl with | [_, _, _, _], _ => rfl
  have F14 := fun_mk (st := s_is_body) l14 c14 k14
  have b14 := F14.binds (ps := ["thing", "house", "own", "turns"]) fun _ _ _ _ _ _ us hl => match us, hl with | [_, _, _, _], _ => rfl
  have F15 := fun_mk (st := s_is_worded) l15 c15 k15
  have b15 := F15.binds (ps := ["thing"]) fun _ _ _ _ _ _ us hl => match us, hl with | [_], _ => rfl
  have F16 := fun_mk (st := s_count_parts) l16 c16 k16
  have b16 := F16.binds (ps := ["thing"]) fun _ _ _ _ _ _ us hl => match us, hl with | [_], _ => rfl
  have F17 := fun_mk (st := s_deepness) l17 c17 k17
  have b17 := F17.binds (ps := ["thing"]) fun _ _ _ _ _ _ us hl => match us, hl with | [_], _ => rfl
  have F18 := fun_mk (st := s_is_head) l18 c18 k18
  have b18 := F18.binds (ps := ["thing", "needs"]) fun _ _ _ _ _ _ us hl => match us, hl with | [_, _], _ => rfl
  have F19 := fun_mk (st := s_are_functions) l19 c19 k19
  have b19 := F19.binds (ps := ["thing", "needs"]) fun _ _ _ _ _ _ us hl => match us, hl with | [_, _], _ => rfl
  have F20 := fun_mk (st := s_program_of) l20 c20 k20
  have b20 := F20.binds (ps := ["needs", "functions"]) fun _ _ _ _ _ _ us hl => match us, hl with | [_, _], _ => rfl
  have F21 := fun_mk (st := s_is_tree) l21 c21 k21
  have b21 := F21.binds (ps := ["thing"]) fun _ _ _ _ _ _ us hl => match us, hl with | [_], _ => rfl
  have F22 := fun_mk (st := s_is_of) l22 c22 k22
  have b22 := F22.binds (ps := ["kind", "thing"]) fun _ _ _ _ _ _ us hl => match us, hl with | [_, _], _ => rfl
  have F23 := fun_mk (st := s_copied) l23 c23 k23
  have b23 := F23.binds (ps := ["thing"]) fun _ _ _ _ _ _ us hl => match us, hl with | [_], _ => rfl
  have F24 := fun_mk (st := s_given_of) l24 c24 k24
  have b24 := F24.binds (ps := ["program", "things"]) fun _ _ _ _ _ _ us hl => match us, hl with | [_, _], _ => rfl
  have F25 := fun_mk (st := s_l_at) l25 c25 k25
  have b25 := F25.binds (ps := ["_law_script", "_law_k"]) fun _ _ _ _ _ _ us hl => match us, hl with | [_, _], _ => rfl
  have F26 := fun_mk (st := s_l_pen) l26 c26 k26
  have b26 := F26.binds (ps := ["_law_script", "_law_k"]) fun _ _ _ _ _ _ us hl => match us, hl with | [_, _], _ => rfl
  have F27 := fun_mk (st := s_l_take) l27 c27 k27
  have b27 := F27.binds (ps := ["_law_pen_here", "_law_size"]) fun _ _ _ _ _ _ us hl => match us, hl with | [_, _], _ => rfl
  have F28 := fun_mk (st := s_l_names) l28 c28 k28
  have b28 := F28.binds (ps := ["_law_pen_here", "_law_many"]) fun _ _ _ _ _ _ us hl => match us, hl with | [_, _], _ => rfl
  have F29 := fun_mk (st := s_l_things) l29 c29 k29
  have b29 := F29.binds (ps := ["_law_pen_here", "_law_names_here"]) fun _ _ _ _ _ _ us hl => match us, hl with | [_, _], _ => rfl
  have F30 := fun_mk (st := s_l_less) l30 c30 k30
  have b30 := F30.binds (ps := ["_law_k", "_law_n"]) fun _ _ _ _ _ _ us hl => match us, hl with | [_, _], _ => rfl
  have F31 := fun_mk (st := s_l_counted) l31 c31 k31
  have b31 := F31.binds (ps := ["_law_pen_here", "_law_names_here", "_law_things_here"]) fun _ _ _ _ _ _ us hl => match us, hl with | [_, _, _], _ => rfl
  have F32 := fun_mk (st := s_l_stretches) l32 c32 k32
  have b32 := F32.binds (ps := ["_law_pen_here", "_law_names_here", "_law_things_here"]) fun _ _ _ _ _ _ us hl => match us, hl with | [_, _, _], _ => rfl
  have F33 := fun_mk (st := s_l_sets) l33 c33 k33
  have b33 := F33.binds (ps := ["_law_pen_here", "_law_names_here", "_law_things_here"]) fun _ _ _ _ _ _ us hl => match us, hl with | [_, _, _], _ => rfl
  have F34 := fun_mk (st := s_l_knots) l34 c34 k34
  have b34 := F34.binds (ps := ["_law_pen_here", "_law_names_here", "_law_things_here"]) fun _ _ _ _ _ _ us hl => match us, hl with | [_, _, _], _ => rfl
  have F35 := fun_mk (st := s_l_two) l35 c35 k35
  have b35 := F35.binds (ps := ["_law_pen_here", "_law_names_here", "_law_things_here"]) fun _ _ _ _ _ _ us hl => match us, hl with | [_, _, _], _ => rfl
  have F36 := fun_mk (st := s_l_grid) l36 c36 k36
  have b36 := F36.binds (ps := ["_law_pen_here", "_law_names_here", "_law_things_here"]) fun _ _ _ _ _ _ us hl => match us, hl with | [_, _, _], _ => rfl
  have F37 := fun_mk (st := s_l_upwards) l37 c37 k37
  have b37 := F37.binds (ps := ["_law_pen_here", "_law_names_here", "_law_things_here"]) fun _ _ _ _ _ _ us hl => match us, hl with | [_, _, _], _ => rfl
  have F38 := fun_mk (st := s_l_places) l38 c38 k38
  have b38 := F38.binds (ps := ["_law_pen_here", "_law_names_here", "_law_things_here"]) fun _ _ _ _ _ _ us hl => match us, hl with | [_, _, _], _ => rfl
  have F39 := fun_mk (st := s_l_arg) l39 c39 k39
  have b39 := F39.binds (ps := ["_law_pen_here", "_law_names_here", "_law_first", "_law_own"]) fun _ _ _ _ _ _ us hl => match us, hl with | [_, _, _, _], _ => rfl
  have F40 := fun_mk (st := s_l_call) l40 c40 k40
  have b40 := F40.binds (ps := ["_law_pen_here", "_law_names_here", "_law_counts", "_law_first", "_law_own"]) fun _ _ _ _ _ _ us hl => match us, hl with | [_, _, _, _, _], _ => rfl
  have F41 := fun_mk (st := s_l_turned) l41 c41 k41
  have b41 := F41.binds (ps := ["_law_pen_here", "_law_names_here", "_law_counts", "_law_first", "_law_own"]) fun _ _ _ _ _ _ us hl => match us, hl with | [_, _, _, _, _], _ => rfl
  have F42 := fun_mk (st := s_l_item) l42 c42 k42
  have b42 := F42.binds (ps := ["_law_pen_here", "_law_names_here", "_law_counts", "_law_first", "_law_k"]) fun _ _ _ _ _ _ us hl => match us, hl with | [_, _, _, _, _], _ => rfl
  have F43 := fun_mk (st := s_l_wild) l43 c43 k43
  have b43 := F43.binds (ps := ["_law_pen_here", "_law_names_here", "_law_things_here"]) fun _ _ _ _ _ _ us hl => match us, hl with | [_, _, _], _ => rfl
  have F44 := fun_mk (st := s_l_drawn) l44 c44 k44
  have b44 := F44.binds (ps := ["_law_pen_here", "_law_names_here", "_law_things_here"]) fun _ _ _ _ _ _ us hl => match us, hl with | [_, _, _], _ => rfl
  have F45 := fun_mk (st := s_l_program) l45 c45 k45
  have b45 := F45.binds (ps := ["_law_pen_here"]) fun _ _ _ _ _ _ us hl => match us, hl with | [_], _ => rfl
  have F46 := fun_mk (st := s_l_called) l46 c46 k46
  have b46 := F46.binds (ps := ["_law_body"]) fun _ _ _ _ _ _ us hl => match us, hl with | [_], _ => rfl
  have F47 := fun_mk (st := s_l_is_list) l47 c47 k47
  have b47 := F47.binds (ps := ["_law_found", "_law_due"]) fun _ _ _ _ _ _ us hl => match us, hl with | [_, _], _ => rfl
  have F48 := fun_mk (st := s_law) l48 c48 k48
  have b48 := F48.binds (ps := ["_law_script"]) fun _ _ _ _ _ _ us hl => match us, hl with | [_], _ => rfl
  exact ⟨{ f_is_whole := f0, d_is_whole := _, F_is_whole := F0, b_is_whole := b0, g_is_whole := PySem.W.mg_of X G a0, f_kind_of := f1, d_kind_of := _, F_kind_of := F1, b_kind_of := b1, g_kind_of := PySem.W.mg_of X G a1, f_is_part := f2, d_is_part := _, F_is_part := F2, b_is_part := b2, g_is_part := PySem.W.mg_of X G a2, f_is_sum := f3, d_is_sum := _, F_is_sum := F3, b_is_sum := b3, g_is_sum := PySem.W.mg_of X G a3, f_is_cond := f4, d_is_cond := _, F_is_cond := F4, b_is_cond := b4, g_is_cond := PySem.W.mg_of X G a4, f_calls_in := f5, d_calls_in := _, F_calls_in := F5, b_calls_in := b5, g_calls_in := PySem.W.mg_of X G a5, f_calls_of := f6, d_calls_of := _, F_calls_of := F6, b_calls_of := b6, g_calls_of := PySem.W.mg_of X G a6, f_is_name := f7, d_is_name := _, F_is_name := F7, b_is_name := b7, g_is_name := PySem.W.mg_of X G a7, f_are_needs := f8, d_are_needs := _, F_are_needs := F8, b_are_needs := b8, g_are_needs := PySem.W.mg_of X G a8, f_is_most := f9, d_is_most := _, F_is_most := F9, b_is_most := b9, g_is_most := PySem.W.mg_of X G a9, f_are_sums := f10, d_are_sums := _, F_are_sums := F10, b_are_sums := b10, g_are_sums := PySem.W.mg_of X G a10, f_is_call := f11, d_is_call := _, F_is_call := F11, b_is_call := b11, g_is_call := PySem.W.mg_of X G a11, f_is_choice := f12, d_is_choice := _, F_is_choice := F12, b_is_choice := b12, g_is_choice := PySem.W.mg_of X G a12, f_is_turned := f13, d_is_turned := _, F_is_turned := F13, b_is_turned := b13, g_is_turned := PySem.W.mg_of X G a13, f_is_body := f14, d_is_body := _, F_is_body := F14, b_is_body := b14, g_is_body := PySem.W.mg_of X G a14, f_is_worded := f15, d_is_worded := _, F_is_worded := F15, b_is_worded := b15, g_is_worded := PySem.W.mg_of X G a15, f_count_parts := f16, d_count_parts := _, F_count_parts := F16, b_count_parts := b16, g_count_parts := PySem.W.mg_of X G a16, f_deepness := f17, d_deepness := _, F_deepness := F17, b_deepness := b17, g_deepness := PySem.W.mg_of X G a17, f_is_head := f18, d_is_head := _, F_is_head := F18, b_is_head := b18, g_is_head := PySem.W.mg_of X G a18, f_are_functions := f19, d_are_functions := _, F_are_functions := F19, b_are_functions := b19, g_are_functions := PySem.W.mg_of X G a19, f_program_of := f20, d_program_of := _, F_program_of := F20, b_program_of := b20, g_program_of := PySem.W.mg_of X G a20, f_is_tree := f21, d_is_tree := _, F_is_tree := F21, b_is_tree := b21, g_is_tree := PySem.W.mg_of X G a21, f_is_of := f22, d_is_of := _, F_is_of := F22, b_is_of := b22, g_is_of := PySem.W.mg_of X G a22, f_copied := f23, d_copied := _, F_copied := F23, b_copied := b23, g_copied := PySem.W.mg_of X G a23, f_given_of := f24, d_given_of := _, F_given_of := F24, b_given_of := b24, g_given_of := PySem.W.mg_of X G a24, f_l_at := f25, d_l_at := _, F_l_at := F25, b_l_at := b25, g_l_at := PySem.W.mg_of X G a25, f_l_pen := f26, d_l_pen := _, F_l_pen := F26, b_l_pen := b26, g_l_pen := PySem.W.mg_of X G a26, f_l_take := f27, d_l_take := _, F_l_take := F27, b_l_take := b27, g_l_take := PySem.W.mg_of X G a27, f_l_names := f28, d_l_names := _, F_l_names := F28, b_l_names := b28, g_l_names := PySem.W.mg_of X G a28, f_l_things := f29, d_l_things := _, F_l_things := F29, b_l_things := b29, g_l_things := PySem.W.mg_of X G a29, f_l_less := f30, d_l_less := _, F_l_less := F30, b_l_less := b30, g_l_less := PySem.W.mg_of X G a30, f_l_counted := f31, d_l_counted := _, F_l_counted := F31, b_l_counted := b31, g_l_counted := PySem.W.mg_of X G a31, f_l_stretches := f32, d_l_stretches := _, F_l_stretches := F32, b_l_stretches := b32, g_l_stretches := PySem.W.mg_of X G a32, f_l_sets := f33, d_l_sets := _, F_l_sets := F33, b_l_sets := b33, g_l_sets := PySem.W.mg_of X G a33, f_l_knots := f34, d_l_knots := _, F_l_knots := F34, b_l_knots := b34, g_l_knots := PySem.W.mg_of X G a34, f_l_two := f35, d_l_two := _, F_l_two := F35, b_l_two := b35, g_l_two := PySem.W.mg_of X G a35, f_l_grid := f36, d_l_grid := _, F_l_grid := F36, b_l_grid := b36, g_l_grid := PySem.W.mg_of X G a36, f_l_upwards := f37, d_l_upwards := _, F_l_upwards := F37, b_l_upwards := b37, g_l_upwards := PySem.W.mg_of X G a37, f_l_places := f38, d_l_places := _, F_l_places := F38, b_l_places := b38, g_l_places := PySem.W.mg_of X G a38, f_l_arg := f39, d_l_arg := _, F_l_arg := F39, b_l_arg := b39, g_l_arg := PySem.W.mg_of X G a39, f_l_call := f40, d_l_call := _, F_l_call := F40, b_l_call := b40, g_l_call := PySem.W.mg_of X G a40, f_l_turned := f41, d_l_turned := _, F_l_turned := F41, b_l_turned := b41, g_l_turned := PySem.W.mg_of X G a41, f_l_item := f42, d_l_item := _, F_l_item := F42, b_l_item := b42, g_l_item := PySem.W.mg_of X G a42, f_l_wild := f43, d_l_wild := _, F_l_wild := F43, b_l_wild := b43, g_l_wild := PySem.W.mg_of X G a43, f_l_drawn := f44, d_l_drawn := _, F_l_drawn := F44, b_l_drawn := b44, g_l_drawn := PySem.W.mg_of X G a44, f_l_program := f45, d_l_program := _, F_l_program := F45, b_l_program := b45, g_l_program := PySem.W.mg_of X G a45, f_l_called := f46, d_l_called := _, F_l_called := F46, b_l_called := b46, g_l_called := PySem.W.mg_of X G a46, f_l_is_list := f47, d_l_is_list := _, F_l_is_list := F47, b_l_is_list := b47, g_l_is_list := PySem.W.mg_of X G a47, f_law := f48, d_law := _, F_law := F48, b_law := b48, g_law := PySem.W.mg_of X G a48, m_OF_SUMS := ⟨⟨_, .ref a_OF_SUMS, PySem.W.mg_of X G m_OF_SUMS, rfl, fun F => .tup (vs := [.str "below", .str "same", .str "has"]) (.inr ⟨_, _, _, n_OF_SUMS, rfl, rfl, by show 3 ≤ sizeLine; decide, .cons ⟨_, rfl⟩ (.cons ⟨_, rfl⟩ (.cons ⟨_, rfl⟩ (.nil)))⟩) (.cons (.str _) (.cons (.str _) (.cons (.str _) (.nil))))⟩⟩, m_WORDS := ⟨⟨_, .ref a_WORDS, PySem.W.mg_of X G m_WORDS, rfl, fun F => .tup (vs := ([("num" : Str), ("own" : Str), ("need" : Str), ("size" : Str), ("at" : Str), ("kids" : Str), ("kid" : Str), ("full" : Str), ("with" : Str), ("without" : Str), ("many" : Str), ("plus" : Str), ("less" : Str), ("times" : Str), ("half" : Str), ("rest" : Str), ("lesser" : Str), ("greater" : Str), ("below" : Str), ("same" : Str), ("has" : Str), ("not" : Str), ("and" : Str), ("or" : Str), ("gain" : Str), ("none" : Str), ("call" : Str), ("both" : Str), ("choose" : Str), ("each" : Str), ("all" : Str), ("if" : Str), ("number" : Str), ("row" : Str), ("text" : Str), ("tree" : Str)] : List Str).map V.str) (.inr ⟨_, _, _, n_WORDS, rfl, rfl, by show 36 ≤ sizeLine; decide, valsStr [(("num" : Str), t_WORDS0), (("own" : Str), t_WORDS1), (("need" : Str), t_WORDS2), (("size" : Str), t_WORDS3), (("at" : Str), t_WORDS4), (("kids" : Str), t_WORDS5), (("kid" : Str), t_WORDS6), (("full" : Str), t_WORDS7), (("with" : Str), t_WORDS8), (("without" : Str), t_WORDS9), (("many" : Str), t_WORDS10), (("plus" : Str), t_WORDS11), (("less" : Str), t_WORDS12), (("times" : Str), t_WORDS13), (("half" : Str), t_WORDS14), (("rest" : Str), t_WORDS15), (("lesser" : Str), t_WORDS16), (("greater" : Str), t_WORDS17), (("below" : Str), t_WORDS18), (("same" : Str), t_WORDS19), (("has" : Str), t_WORDS20), (("not" : Str), t_WORDS21), (("and" : Str), t_WORDS22), (("or" : Str), t_WORDS23), (("gain" : Str), t_WORDS24), (("none" : Str), t_WORDS25), (("call" : Str), t_WORDS26), (("both" : Str), t_WORDS27), (("choose" : Str), t_WORDS28), (("each" : Str), t_WORDS29), (("all" : Str), t_WORDS30), (("if" : Str), t_WORDS31), (("number" : Str), t_WORDS32), (("row" : Str), t_WORDS33), (("text" : Str), t_WORDS34), (("tree" : Str), t_WORDS35)]⟩) (RpA.strs [("num" : Str), ("own" : Str), ("need" : Str), ("size" : Str), ("at" : Str), ("kids" : Str), ("kid" : Str), ("full" : Str), ("with" : Str), ("without" : Str), ("many" : Str), ("plus" : Str), ("less" : Str), ("times" : Str), ("half" : Str), ("rest" : Str), ("lesser" : Str), ("greater" : Str), ("below" : Str), ("same" : Str), ("has" : Str), ("not" : Str), ("and" : Str), ("or" : Str), ("gain" : Str), ("none" : Str), ("call" : Str), ("both" : Str), ("choose" : Str), ("each" : Str), ("all" : Str), ("if" : Str), ("number" : Str), ("row" : Str), ("text" : Str), ("tree" : Str)])⟩⟩, m_LETTERS := ⟨⟨_, .str "abcdefghijklmnopqrstuvwxyz", PySem.W.mg_of X G m_LETTERS, ⟨_, rfl⟩, fun _ => .str _⟩⟩, m_MOST_NEEDS := ⟨⟨_, .int (6), PySem.W.mg_of X G m_MOST_NEEDS, ⟨_, rfl⟩, fun _ => .int _⟩⟩, m_NEED_KINDS := ⟨⟨_, .ref a_NEED_KINDS, PySem.W.mg_of X G m_NEED_KINDS, rfl, fun F => .tup (vs := [.str "number", .str "row", .str "text", .str "tree"]) (.inr ⟨_, _, _, n_NEED_KINDS, rfl, rfl, by show 4 ≤ sizeLine; decide, .cons ⟨_, rfl⟩ (.cons ⟨_, rfl⟩ (.cons ⟨_, rfl⟩ (.cons ⟨_, rfl⟩ (.nil))))⟩) (.cons (.str _) (.cons (.str _) (.cons (.str _) (.cons (.str _) (.nil)))))⟩⟩, m_MOST_CHOICES := ⟨⟨_, .int (4), PySem.W.mg_of X G m_MOST_CHOICES, ⟨_, rfl⟩, fun _ => .int _⟩⟩, m_MOST_TURNS := ⟨⟨_, .int (2), PySem.W.mg_of X G m_MOST_TURNS, ⟨_, rfl⟩, fun _ => .int _⟩⟩, m_MOST_PLACES := ⟨⟨_, .int (3), PySem.W.mg_of X G m_MOST_PLACES, ⟨_, rfl⟩, fun _ => .int _⟩⟩, m_MOST_MOST := ⟨⟨_, .int (12), PySem.W.mg_of X G m_MOST_MOST, ⟨_, rfl⟩, fun _ => .int _⟩⟩, m_MOST_FUNCTIONS := ⟨⟨_, .int (4), PySem.W.mg_of X G m_MOST_FUNCTIONS, ⟨_, rfl⟩, fun _ => .int _⟩⟩, m_MOST_PARTS := ⟨⟨_, .int (60), PySem.W.mg_of X G m_MOST_PARTS, ⟨_, rfl⟩, fun _ => .int _⟩⟩, m_MOST_DEEP := ⟨⟨_, .int (12), PySem.W.mg_of X G m_MOST_DEEP, ⟨_, rfl⟩, fun _ => .int _⟩⟩, m_MOST_SIZE := ⟨⟨_, .int (12), PySem.W.mg_of X G m_MOST_SIZE, ⟨_, rfl⟩, fun _ => .int _⟩⟩, m_KINDS := ⟨⟨d_KINDS, es_KINDS, ne_KINDS, PySem.W.mg_of X G m_KINDS, ⟨l_KINDS, lit_KINDS, low_KINDS⟩, List.forall_mem_cons.mpr ⟨⟨_, .ref a_KINDS0, k_KINDS0, rfl, fun F => .tup (vs := [.str "number"]) (.inr ⟨_, _, _, kl_KINDS0, rfl, rfl, by show 1 ≤ sizeLine; decide, .cons ⟨_, rfl⟩ (.nil)⟩) (.cons (.str _) (.nil))⟩, List.forall_mem_cons.mpr ⟨⟨_, .ref a_KINDS1, k_KINDS1, rfl, fun F => .tup (vs := [.str "row", .str "text", .str "tree"]) (.inr ⟨_, _, _, kl_KINDS1, rfl, rfl, by show 3 ≤ sizeLine; decide, .cons ⟨_, rfl⟩ (.cons ⟨_, rfl⟩ (.cons ⟨_, rfl⟩ (.nil)))⟩) (.cons (.str _) (.cons (.str _) (.cons (.str _) (.nil))))⟩, List.forall_mem_cons.mpr ⟨⟨_, .ref a_KINDS2, k_KINDS2, rfl, fun F => .tup (vs := [.str "row", .str "text"]) (.inr ⟨_, _, _, kl_KINDS2, rfl, rfl, by show 2 ≤ sizeLine; decide, .cons ⟨_, rfl⟩ (.cons ⟨_, rfl⟩ (.nil))⟩) (.cons (.str _) (.cons (.str _) (.nil)))⟩, List.forall_mem_cons.mpr ⟨⟨_, .ref a_KINDS3, k_KINDS3, rfl, fun F => .tup (vs := [.str "tree"]) (.inr ⟨_, _, _, kl_KINDS3, rfl, rfl, by show 1 ≤ sizeLine; decide, .cons ⟨_, rfl⟩ (.nil)⟩) (.cons (.str _) (.nil))⟩, fun _ h => nomatch h⟩⟩⟩⟩, fun _ h => nomatch h⟩⟩, m_FORMS := ⟨⟨d_FORMS, es_FORMS, ne_FORMS, PySem.W.mg_of X G m_FORMS, ⟨l_FORMS, lit_FORMS, low_FORMS⟩, List.forall_mem_cons.mpr ⟨⟨_, .str "n", k_FORMS0, ⟨_, rfl⟩, fun _ => .str _⟩, List.forall_mem_cons.mpr ⟨⟨_, .str "o", k_FORMS1, ⟨_, rfl⟩, fun _ => .str _⟩, List.forall_mem_cons.mpr ⟨⟨_, .str "x", k_FORMS2, ⟨_, rfl⟩, fun _ => .str _⟩, List.forall_mem_cons.mpr ⟨⟨_, .str "z", k_FORMS3, ⟨_, rfl⟩, fun _ => .str _⟩, List.forall_mem_cons.mpr ⟨⟨_, .str "ls", k_FORMS4, ⟨_, rfl⟩, fun _ => .str _⟩, List.forall_mem_cons.mpr ⟨⟨_, .str "ts", k_FORMS5, ⟨_, rfl⟩, fun _ => .str _⟩, List.forall_mem_cons.mpr ⟨⟨_, .str "tss", k_FORMS6, ⟨_, rfl⟩, fun _ => .str _⟩, List.forall_mem_cons.mpr ⟨⟨_, .str "s", k_FORMS7, ⟨_, rfl⟩, fun _ => .str _⟩, List.forall_mem_cons.mpr ⟨⟨_, .str "ss", k_FORMS8, ⟨_, rfl⟩, fun _ => .str _⟩, List.forall_mem_cons.mpr ⟨⟨_, .str "ss", k_FORMS9, ⟨_, rfl⟩, fun _ => .str _⟩, List.forall_mem_cons.mpr ⟨⟨_, .str "s", k_FORMS10, ⟨_, rfl⟩, fun _ => .str _⟩, List.forall_mem_cons.mpr ⟨⟨_, .str "ss", k_FORMS11, ⟨_, rfl⟩, fun _ => .str _⟩, List.forall_mem_cons.mpr ⟨⟨_, .str "ss", k_FORMS12, ⟨_, rfl⟩, fun _ => .str _⟩, List.forall_mem_cons.mpr ⟨⟨_, .str "ss", k_FORMS13, ⟨_, rfl⟩, fun _ => .str _⟩, List.forall_mem_cons.mpr ⟨⟨_, .str "s", k_FORMS14, ⟨_, rfl⟩, fun _ => .str _⟩, List.forall_mem_cons.mpr ⟨⟨_, .str "ss", k_FORMS15, ⟨_, rfl⟩, fun _ => .str _⟩, List.forall_mem_cons.mpr ⟨⟨_, .str "ss", k_FORMS16, ⟨_, rfl⟩, fun _ => .str _⟩, List.forall_mem_cons.mpr ⟨⟨_, .str "ss", k_FORMS17, ⟨_, rfl⟩, fun _ => .str _⟩, fun _ h => nomatch h⟩⟩⟩⟩⟩⟩⟩⟩⟩⟩⟩⟩⟩⟩⟩⟩⟩⟩, List.forall_mem_cons.mpr ⟨o_FORMS0, fun _ h => nomatch h⟩⟩⟩, m_OF_CONDS := ⟨⟨d_OF_CONDS, es_OF_CONDS, ne_OF_CONDS, PySem.W.mg_of X G m_OF_CONDS, ⟨l_OF_CONDS, lit_OF_CONDS, low_OF_CONDS⟩, List.forall_mem_cons.mpr ⟨⟨_, .int (1), k_OF_CONDS0, ⟨_, rfl⟩, fun _ => .int _⟩, List.forall_mem_cons.mpr ⟨⟨_, .int (2), k_OF_CONDS1, ⟨_, rfl⟩, fun _ => .int _⟩, List.forall_mem_cons.mpr ⟨⟨_, .int (2), k_OF_CONDS2, ⟨_, rfl⟩, fun _ => .int _⟩, fun _ h => nomatch h⟩⟩⟩, List.forall_mem_cons.mpr ⟨o_OF_CONDS0, List.forall_mem_cons.mpr ⟨o_OF_CONDS1, List.forall_mem_cons.mpr ⟨o_OF_CONDS2, fun _ h => nomatch h⟩⟩⟩⟩⟩, z_isinstance := PySem.W.mg_none_of X G z_isinstance, z_int := PySem.W.mg_none_of X G z_int, z_bool := PySem.W.mg_none_of X G z_bool, z_tuple := PySem.W.mg_none_of X G z_tuple, z_len := PySem.W.mg_none_of X G z_len, z_str := PySem.W.mg_none_of X G z_str, z_all := PySem.W.mg_none_of X G z_all, z_zip := PySem.W.mg_none_of X G z_zip, z_list := PySem.W.mg_none_of X G z_list, z_enumerate := PySem.W.mg_none_of X G z_enumerate, z_set := PySem.W.mg_none_of X G z_set, z_sum := PySem.W.mg_none_of X G z_sum, z_max := PySem.W.mg_none_of X G z_max, z_dict := PySem.W.mg_none_of X G z_dict, z_range := PySem.W.mg_none_of X G z_range }, PySem.W.mg_of X G a48, fun s v => .of_eq rfl⟩
end Y

local macro_rules | `(tactic| walk_at "w") => `(tactic| conv => whnf)
local macro_rules | `(tactic| walk_at "sd") => `(tactic| first | ((with_reducible refine L2.DL.len_pos ?_); exact rfl) | ((with_reducible refine L2.DL.len_lt ?_); exact rfl) | assumption | exact rfl | omega | exact ⟨by decide, by decide, by decide⟩ | exact ⟨by omega, by omega⟩ | exact L2.DL.cdv_small (by omega) (by omega) | exact L2.DL.cml_l (by omega) (by omega) | exact L2.DL.cml_r (by omega) (by omega) | exact Nat.le_of_ble_eq_true rfl | exact L2.DL.cml_sz (by assumption) (by assumption) | decide)
local macro_rules | `(tactic| walk_at "es") => `(tactic| repeat (first | (refine Exists.intro _ (And.intro rfl ?_); conv => whnf) | (refine Exists.intro _ (Exists.intro _ (And.intro rfl ?_)); conv => whnf) | (refine Exists.intro _ (Exists.intro _ (Exists.intro _ (And.intro rfl ?_))); conv => whnf) | (refine Exists.intro _ (Exists.intro _ (Exists.intro _ (Exists.intro _ (And.intro rfl ?_)))); conv => whnf) | (refine And.intro (by walk_at "sd") ?_; conv => whnf)))
local macro_rules | `(tactic| walk_at "sp") => `(tactic| (split <;> rename_i hsp <;> (try simp only [decide_eq_true_eq, decide_eq_false_iff_not, Bool.not_eq_true', Bool.not_eq_false'] at hsp) <;> conv => whnf))
local macro_rules | `(tactic| walk_at "ei") => `(tactic| repeat (first | (refine Exists.intro _ (And.intro rfl ?_); conv => whnf) | (refine Exists.intro _ (Exists.intro _ (And.intro rfl ?_)); conv => whnf) | (refine Exists.intro _ (Exists.intro _ (Exists.intro _ (And.intro rfl ?_))); conv => whnf) | (refine Exists.intro _ (Exists.intro _ (Exists.intro _ (Exists.intro _ (And.intro rfl ?_)))); conv => whnf) | (refine And.intro (by walk_at "sd") ?_; conv => whnf) | (intro _; conv => whnf)))
local macro_rules | `(tactic| walk_at "fc") => `(tactic| (refine Eq.mpr (L2.DL.forL_cons _ _ _ _ _) ?_; conv => whnf))
local macro_rules | `(tactic| walk_at "fn") => `(tactic| (refine Eq.mpr (L2.DL.forL_nil _ _ _) ?_; conv => whnf))
local macro_rules | `(tactic| walk_at "mc") => `(tactic| (refine Eq.mpr (L2.DL.mapL_cons _ _ _ _ _ _ _ _) ?_; conv => whnf))
local macro_rules | `(tactic| walk_at "mn") => `(tactic| (refine Eq.mpr (L2.DL.mapL_nil _ _ _ _ _ _) ?_; conv => whnf))
local macro_rules | `(tactic| walk_at "sq") => `(tactic| first | ((with_reducible refine L2.DL.len_pos ?_); exact rfl) | ((with_reducible refine L2.DL.len_lt ?_); exact rfl) | assumption | (with_reducible exact rfl) | omega | exact ⟨by omega, by omega⟩ | exact ⟨by decide, by decide, by decide⟩ | exact L2.DL.cdv_small (by omega) (by omega) | exact L2.DL.cml_l (by omega) (by omega) | exact L2.DL.cml_r (by omega) (by omega) | ((simp only [List.length_append, List.length_cons, List.length_nil]); done) | ((simp only [List.length_append, List.length_cons, List.length_nil]); decide))
local macro_rules | `(tactic| walk_at "ek") => `(tactic| repeat (first | (refine Exists.intro _ (And.intro rfl ?_); conv => whnf) | (refine Exists.intro _ (Exists.intro _ (And.intro rfl ?_)); conv => whnf) | (refine Exists.intro _ (Exists.intro _ (Exists.intro _ (And.intro rfl ?_))); conv => whnf) | (refine Exists.intro _ (Exists.intro _ (Exists.intro _ (Exists.intro _ (And.intro rfl ?_)))); conv => whnf) | (refine And.intro (by walk_at "sq") ?_; conv => whnf) | (refine Exists.intro _ (And.intro (L2.atI_nat (j := 0) rfl) ?_); conv => whnf) | (refine Exists.intro _ (And.intro (L2.atI_nat (j := 1) rfl) ?_); conv => whnf) | (refine Exists.intro _ (And.intro (L2.atI_nat (j := 2) rfl) ?_); conv => whnf) | (refine Exists.intro _ (And.intro (L2.atI_nat (j := 3) rfl) ?_); conv => whnf) | (refine Exists.intro _ (And.intro (L2.atI_nat (j := 4) rfl) ?_); conv => whnf) | (refine Exists.intro _ (And.intro (L2.atI_nat (j := 5) rfl) ?_); conv => whnf) | (refine Exists.intro _ (And.intro (L2.atI_nat (j := 6) rfl) ?_); conv => whnf) | (refine Exists.intro _ (And.intro (L2.atI_nat (j := 7) rfl) ?_); conv => whnf) | (refine L2.DL.ex_some (by assumption) ?_; conv => whnf) | (intro _; conv => whnf)))
local macro_rules | `(tactic| walk_at "lz") => `(tactic| repeat ((refine And.intro (by ((simp only [List.length_append, List.length_cons, List.length_nil]); decide)) ?_); conv => whnf))
local macro_rules | `(tactic| walk_at "aj") => `(tactic| repeat (first | ((refine Exists.intro _ (And.intro (L2.atI_nat (j := 0) rfl) ?_)); conv => whnf) | ((refine And.intro (by first | exact rfl | exact ⟨rfl, rfl⟩ | ((simp only [List.length_append, List.length_cons, List.length_nil]); decide)) ?_); conv => whnf)))
namespace Y
open PySem PySem.Spec PyProof.Rows L2 L2.DL
section
variable {P : Program} {w : World} {K : PySem.W.Frag} {mg : Str → Option Value} {base : Heap}
def sp_l_at : FSpec := fun cs Q => ∃ (ns : List Int) (k : Nat), cs = [.val (.scr (ns.map D.int)), .val (.int (k : Nat))] ∧ k < 1000 ∧ ∀ v, Q (.int v) [.none, .none]
set_option maxHeartbeats 4000000 in
theorem ok_l_at (T : Txt K w mg) : K_l_at P w base T 1 sp_l_at :=
  okD T.F_l_at sc_l_at fun cdv A outer s H E B cs Q hr hl hs => ⟨_, d_l_at T hr, by
    obtain ⟨ns, k, rfl, hk, hq⟩ := hs
    have ln : ((ns.map D.int).length : Int) = ns.length := by rw [List.length_map]
    have fin : ∀ {v : Int} {env : DEnv}, Outs env [.none, .none] → ∃ cs' : List Cell, cs'.length = 2 ∧ Outs env cs' ∧ Q (.int v) cs' := fun o => ⟨_, rfl, o, hq _⟩
    walk_at "w"
    rw [ln]
    by_cases h : k < ns.length
    · rw [decide_eq_true (show ((k : Nat) : Int) < (ns.length : Int) by omega)]
      walk_at "w"
      refine ⟨.int ns[k], atI_nat (by rw [List.getElem?_map, List.getElem?_eq_getElem h]; rfl), ?_⟩
      walk_at "w"
      exact fin ⟨trivial, trivial, outs_nil⟩
    · rw [decide_eq_false (show ¬ ((k : Nat) : Int) < (ns.length : Int) by omega)]
      walk_at "w"
      rw [ln]
      cases ns with
      | nil =>
        walk_at "w"
        walk_at "ei"
        exact fin ⟨trivial, trivial, outs_nil⟩
      | cons n r =>
        rw [decide_eq_true (show (0 : Int) < ((n :: r).length : Int) by rw [List.length_cons]; omega)]
        walk_at "w"
        refine ⟨by rw [List.length_map, List.length_cons]; omega, ?_⟩
        walk_at "w"
        obtain ⟨x, hx, hm⟩ := atI_mod (xs := (n :: r).map D.int) (i := ((k : Nat) : Int)) (by rw [List.length_map, List.length_cons]; omega)
        obtain ⟨c, _, rfl⟩ := List.mem_map.mp hm
        refine ⟨_, hx, ?_⟩
        walk_at "w"
        walk_at "ei"
        exact fin ⟨trivial, trivial, outs_nil⟩⟩
def sp_l_pen : FSpecO := fun cs Q => ∃ (ns : List Int) (k : Nat), cs = [.val (.scr (ns.map D.int)), .val (.int (k : Nat))] ∧ k < 1000 ∧ ∀ c, PenQ c → Q c [.none, .none]
set_option maxHeartbeats 4000000 in
theorem ok_l_pen (T : Txt K w mg) : K_l_pen P w base T 2 sp_l_pen :=
  okO T.F_l_pen sc_l_pen fun cdv A outer s H E B cs Q hr hl hs => ⟨_, d_l_pen T (ok_l_at T) (by decide) hr, by
    obtain ⟨ns, k, rfl, hk, hq⟩ := hs
    walk_at "w"
    refine ⟨ns, k, rfl, hk, fun v => ?_⟩
    walk_at "w"
    walk_at "ei"
    walk_at "sp"
    · walk_at "ei"
      exact ⟨[.none, .none], rfl, ⟨trivial, trivial, outs_nil⟩, hq _ ⟨_, _, rfl, Int.le_refl _, .inl rfl⟩⟩
    · walk_at "ei"
      exact ⟨[.none, .none], rfl, ⟨trivial, trivial, outs_nil⟩, hq _ ⟨_, _, rfl, by decide, .inr ⟨Int.emod_nonneg _ (by decide), Int.lt_trans (Int.emod_lt_of_pos _ (by decide)) (by decide)⟩⟩⟩⟩
def sp_l_take : FSpec := fun cs Q => ∃ m : Int, cs = [.opq false PenQ, .val (.int m)] ∧ 0 < m ∧ m < 1073741824 ∧ ∀ r, 0 ≤ r → r < m → Q (.int r) [.opq false PenQ, .none]
set_option maxHeartbeats 8000000 in
theorem ok_l_take (T : Txt K w mg) : K_l_take P w base T 1 sp_l_take :=
  okD T.F_l_take sc_l_take fun cdv A outer s H E B cs Q hr hl hs => ⟨_, d_l_take T hr, by
    obtain ⟨m, rfl, h0, h1, hq⟩ := hs
    have fin : ∀ (i j r : Int) (rest : List Cell), 0 ≤ j → (j = 0 ∨ (0 ≤ i ∧ i < 2147483648)) → 0 ≤ r → r < m → ∃ cs' : List Cell, cs'.length = 2 ∧ Outs (Cell.own false (OC.lst [D.int i, D.int j]) :: Cell.val (D.int m) :: rest) cs' ∧ Q (.int r) cs' :=
      fun i j r rest hj hi h0 h1 => ⟨[.opq false PenQ, .none], rfl, ⟨⟨i, j, rfl, hj, hi⟩, trivial, outs_nil⟩, hq r h0 h1⟩
    walk_at "w"
    rintro c ⟨i, j, rfl, hj, hi⟩
    walk_at "w"
    walk_at "ei"
    walk_at "sp"
    · rename_i e
      walk_at "ei"
      exact fin _ _ _ _ hj (.inl e) (Int.emod_nonneg _ (by omega)) (Int.emod_lt_of_pos _ h0)
    · rename_i e
      obtain ⟨i0, i1⟩ : 0 ≤ i ∧ i < 2147483648 := by
        rcases hi with z | z
        · exact absurd z e
        · exact z
      walk_at "ei"
      exact fin _ _ _ _ (by omega) (.inr ⟨Int.emod_nonneg _ (by decide), Int.lt_trans (Int.emod_lt_of_pos _ (by decide)) (by decide)⟩) (Int.emod_nonneg _ (by omega)) (Int.emod_lt_of_pos _ h0)⟩
/-- the words that may stand at a sum's head -/
def HD : List Str := ["num", "own", "need", "size", "at", "kids", "kid", "full", "with", "without", "many", "plus", "less", "times", "half", "rest", "lesser", "greater"]
/-- the kind of a need -/
def kindN : List (Str × Str) → D → Str
  | [], _ => ""
  | p :: r, d => match hitN p.1 d with
    | true => p.2
    | false => kindN r d
def nD (p : Str × Str) : D := .tup [.str p.1, .str p.2]
def ndD (nd : List (Str × Str)) : D := .tup (nd.map nD)
def isW : D → Bool
  | .int _ => true
  | _ => false
def isO (m : Int) : D → Bool
  | .int i => decide (0 ≤ i) && decide (i < m)
  | _ => false
def kin (k : Str) (w : Str) : Bool := match tabGet y_KINDS k with
  | some (.tup ys) => ys.any fun y => eqF y (.str w)
  | _ => false
def leafP (nd : List (Str × Str)) (m : Int) (k : Str) (d : D) : Bool := match decide (k = "n") with
  | true => isW d
  | false => match decide (k = "o") with
    | true => isO m d
    | false => kin k (kindN nd d)
/-- a sum's form: a kind for each part -/
def formS (z : Str) : List Str := match tabGet y_FORMS z with
  | some (.str f) => f.cps.toList.map fun c => ⟨#[c]⟩
  | _ => []
mutual
/-- whether data is a sum -/
def isS (nd : List (Str × Str)) (m : Int) : D → Bool
  | .tup xs => isT nd m xs
  | _ => false
def isT (nd : List (Str × Str)) (m : Int) : List D → Bool
  | .str z :: ds => (tabGet y_FORMS z).isSome && isPs nd m ds (formS z)
  | _ => false
def isPs (nd : List (Str × Str)) (m : Int) : List D → List Str → Bool
  | d :: ds, k :: ks => (match decide (k = "s") with
    | true => isS nd m d
    | false => leafP nd m k d) && isPs nd m ds ks
  | [], [] => true
  | _, _ => false
end
def partP (nd : List (Str × Str)) (m : Int) (k : Str) (d : D) : Bool := match decide (k = "s") with
  | true => isS nd m d
  | false => leafP nd m k d
theorem isPs_cons (nd : List (Str × Str)) (m : Int) (d : D) (ds : List D) (k : Str) (ks : List Str) : isPs nd m (d :: ds) (k :: ks) = (partP nd m k d && isPs nd m ds ks) := by rw [isPs]; rfl
theorem isPs_nil (nd : List (Str × Str)) (m : Int) : isPs nd m [] [] = true := by rw [isPs]
theorem isPs_len (nd : List (Str × Str)) (m : Int) : ∀ (ds : List D) (ks : List Str), ds.length ≠ ks.length → isPs nd m ds ks = false
  | [], [], h => absurd rfl h
  | [], _ :: _, _ => by rw [isPs] <;> simp
  | _ :: _, [], _ => by rw [isPs] <;> simp
  | d :: ds, k :: ks, h => by rw [isPs_cons, isPs_len nd m ds ks (fun e => h (by rw [List.length_cons, List.length_cons, e])), Bool.and_false]
def KS : List Str := ["s", "n", "o", "x", "z", "l", "t"]
/-- what may be asked whether it is a sum: tuples with known words at their heads, to a depth -/
def Wf (L : Nat) : Nat → D → Prop
  | _, .atm _ => False
  | _, .scr _ => False
  | 0, .tup _ => False
  | n + 1, .tup ds => ds.length ≤ L ∧ (∀ z r, ds = .str z :: r → HD.contains z = true) ∧ ∀ d ∈ ds, Wf L n d
  | _, _ => True
theorem Wf.na {L n : Nat} {d : D} (h : Wf L n d) : noAtm d = true := by
  cases d with
  | atm v => cases n <;> exact h.elim
  | _ => rfl
theorem Wf.mono {L M : Nat} (hl : L ≤ M) : ∀ {n m : Nat} {d : D}, n ≤ m → Wf L n d → Wf M m d
  | 0, m, .tup ds, _, h => h.elim
  | n + 1, 0, .tup ds, l, _ => absurd l (Nat.not_succ_le_zero n)
  | n + 1, m + 1, .tup ds, l, h => ⟨Nat.le_trans h.1 hl, h.2.1, fun d hd => Wf.mono hl (Nat.le_of_succ_le_succ l) (h.2.2 d hd)⟩
  | n, m, .atm v, _, h => by cases n <;> exact h.elim
  | n, m, .scr v, _, h => by cases n <;> exact h.elim
  | n, m, .non, _, _ => by cases m <;> trivial
  | n, m, .bl _, _, _ => by cases m <;> trivial
  | n, m, .int _, _, _ => by cases m <;> trivial
  | n, m, .str _, _, _ => by cases m <;> trivial
  | n, m, .lst _, _, _ => by cases m <;> trivial
  | n, m, .dct _, _, _ => by cases m <;> trivial
theorem KS_cases {k : Str} (h : k ∈ KS) : k = "s" ∨ k = "n" ∨ k = "o" ∨ k = "x" ∨ k = "z" ∨ k = "l" ∨ k = "t" := by
  simpa [KS] using h
/-- a word at a head is a sum's, with a form of known kinds, or none -/
theorem head_form {z : Str} (h : HD.contains z = true) : (∃ f : Str, tabGet y_FORMS z = some (.str f) ∧ f.length ≤ 3 ∧ (∀ c ∈ f.cps.toList, (⟨#[c]⟩ : Str) ∈ KS)) ∨ (tabGet y_FORMS z = none ∧ tabNo n_FORMS z = true) := by
  have h : z ∈ HD := by simpa using h
  have key : ∀ z ∈ HD, ((match tabGet y_FORMS z with
    | some (.str f) => decide (f.length ≤ 3) && f.cps.toList.all fun c => KS.contains ⟨#[c]⟩
    | some _ => false
    | none => tabNo n_FORMS z) = true) := by decide +kernel
  have k := key z h
  cases e : tabGet y_FORMS z with
  | none => rw [e] at k; exact .inr ⟨rfl, k⟩
  | some d =>
    rw [e] at k
    cases d with
    | str f =>
      have k : (decide (f.length ≤ 3) && f.cps.toList.all fun c => KS.contains ⟨#[c]⟩) = true := k
      rw [Bool.and_eq_true, decide_eq_true_eq, List.all_eq_true] at k
      exact .inl ⟨f, rfl, k.1, fun c hc => by simpa using k.2 c hc⟩
    | _ => cases k
theorem cut_tail {α : Type} (x : α) (xs : List α) : DL.cutD (x :: xs) (some 1) none = xs := by
  unfold DL.cutD HT.sIx
  have e1 : ¬ ((1 : Int) < 0) := by omega
  simp [e1]
def sp_is_whole : FSpec := fun cs Q => ∃ d : D, cs = [.val d] ∧ noAtm d = true ∧ ∀ b, b = isW d → Q (.bl b) [.none]
set_option maxHeartbeats 4000000 in
theorem ok_is_whole (T : Txt K w mg) : K_is_whole P w base T 1 sp_is_whole :=
  okD T.F_is_whole sc_is_whole fun cdv A outer s H E B cs Q hr hl hs => ⟨_, d_is_whole T hr, by
    obtain ⟨d, rfl, hn, hq⟩ := hs
    cases d with
    | atm v => cases hn
    | _ =>
      walk_at "w"
      walk_at "ei"
      exact ⟨[.none], rfl, ⟨trivial, outs_nil⟩, hq _ rfl⟩⟩
def sp_kind_of : FSpec := fun cs Q => ∃ (nd : List (Str × Str)) (d : D), cs = [.val (ndD nd), .val d] ∧ noAtm d = true ∧ ∀ z, z = kindN nd d → Q (.str z) [.none, .none]
set_option maxHeartbeats 4000000 in
theorem kind_loop (d : D) (hn : noAtm d = true) (c0 : Cell) (DD : DEnds) : ∀ (nd : List (Str × Str)) (c2 c3 : Cell),
    (∀ c2 c3, kindN nd d = "" → DD.nx [c0, .val d, c2, c3]) → (∀ env, DD.rt (.str (kindN nd d)) (c0 :: .val d :: env)) →
    forL (fun x DD env => gTupD 2 (gConsD (gN 2) (gConsD (gN 3) gNilD)) x env fun env2 => t_kind_of_1 DD env2) (nd.map nD) DD [c0, .val d, c2, c3]
  | [], c2, c3, h1, h2 => by
    walk_at "fn"
    exact h1 _ _ rfl
  | p :: r, c2, c3, h1, h2 => by
    walk_at "fc"
    walk_at "ei"
    refine eqZ_hit hn ?_
    have e : kindN (p :: r) d = (match hitN p.1 d with | true => p.2 | false => kindN r d) := rfl
    cases hh : hitN p.1 d with
    | true =>
      walk_at "w"
      have := h2 [.val (.str p.1), .val (.str p.2)]
      rw [e, hh] at this
      exact this
    | false =>
      walk_at "w"
      refine kind_loop d hn c0 DD r _ _ (fun c2 c3 q => h1 c2 c3 (by rw [e, hh]; exact q)) (fun env => ?_)
      have := h2 env
      rw [e, hh] at this
      exact this
set_option maxHeartbeats 4000000 in
theorem ok_kind_of (T : Txt K w mg) : K_kind_of P w base T 1 sp_kind_of :=
  okD T.F_kind_of sc_kind_of fun cdv A outer s H E B cs Q hr hl hs => ⟨_, d_kind_of T hr, by
    obtain ⟨nd, d, rfl, hn, hq⟩ := hs
    walk_at "w"
    refine kind_loop d hn _ _ nd _ _ (fun c2 c3 e => ?_) (fun env => ?_)
    · walk_at "w"
      exact ⟨[.none, .none], rfl, ⟨trivial, trivial, outs_nil⟩, hq _ e.symm⟩
    · exact ⟨[.none, .none], rfl, ⟨trivial, trivial, outs_nil⟩, hq _ rfl⟩⟩
def sp_is_part (L n : Nat) : FSpec := fun cs Q => ∃ (k : Str) (d : D) (nd : List (Str × Str)) (m : Int), cs = [.val (.str k), .val d, .val (ndD nd), .val (.int m)] ∧ k ∈ KS ∧ Wf L n d ∧ ∀ b, b = partP nd m k d → Q (.bl b) [.none, .none, .none, .none]
def sp_is_sum (L n : Nat) : FSpec := fun cs Q => ∃ (d : D) (nd : List (Str × Str)) (m : Int), cs = [.val d, .val (ndD nd), .val (.int m)] ∧ Wf L n d ∧ ∀ b, b = isS nd m d → Q (.bl b) [.none, .none, .none]
set_option maxHeartbeats 8000000 in
theorem ok_is_part (T : Txt K w mg) {k L n : Nat} (h1 : 1 ≤ k) (G : K_is_sum P w base T k (sp_is_sum L n)) : K_is_part P w base T (k + 1) (sp_is_part L n) :=
  okD T.F_is_part sc_is_part fun cdv A outer s H E B cs Q hr hl hs => ⟨_, d_is_part T G (Nat.le_refl _) (ok_is_whole T) h1 (ok_kind_of T) h1 hr, by
    obtain ⟨k, d, nd, m, rfl, hk, wf, hq⟩ := hs
    have fin : ∀ {b : Bool} {env : DEnv}, b = partP nd m k d → Outs env [.none, .none, .none, .none] → ∃ cs' : List Cell, cs'.length = 4 ∧ Outs env cs' ∧ Q (.bl b) cs' := fun h o => ⟨_, rfl, o, hq _ h⟩
    have na := wf.na
    rcases KS_cases hk with rfl | rfl | rfl | rfl | rfl | rfl | rfl
    · walk_at "w"
      refine ⟨d, nd, m, rfl, wf, fun b hb => ?_⟩
      walk_at "w"
      exact fin hb ⟨trivial, trivial, trivial, trivial, outs_nil⟩
    · walk_at "w"
      refine ⟨d, rfl, na, fun b hb => ?_⟩
      walk_at "w"
      exact fin hb ⟨trivial, trivial, trivial, trivial, outs_nil⟩
    · walk_at "w"
      refine ⟨d, rfl, na, fun b hb => ?_⟩
      cases d with
      | atm v => cases na
      | int i =>
        subst hb
        walk_at "w"
        cases h0 : decide (0 ≤ i) with
        | false =>
          walk_at "w"
          exact fin (show false = (decide (0 ≤ i) && decide (i < m)) by rw [h0]; rfl) ⟨trivial, trivial, trivial, trivial, outs_nil⟩
        | true =>
          walk_at "w"
          exact fin (show decide (i < m) = (decide (0 ≤ i) && decide (i < m)) by rw [h0]; rfl) ⟨trivial, trivial, trivial, trivial, outs_nil⟩
      | _ =>
        subst hb
        walk_at "w"
        exact fin rfl ⟨trivial, trivial, trivial, trivial, outs_nil⟩
    all_goals
      walk_at "w"
      refine ⟨nd, d, rfl, na, fun z hz => ?_⟩
      subst hz
      walk_at "w"
      refine ⟨rfl, rfl, ?_⟩
      walk_at "w"
      exact fin rfl ⟨trivial, trivial, trivial, trivial, outs_nil⟩⟩
theorem no_is_part (T : Txt K w mg) : K_is_part P w base T 1 (fun _ _ => False) := okD T.F_is_part sc_is_part fun _ _ _ _ _ _ _ _ _ _ _ hs => hs.elim
def sp_ip (L : Nat) : Nat → FSpec
  | 0 => fun _ _ => False
  | n + 1 => sp_is_part L n
section
variable (L n : Nat) (nd : List (Str × Str)) (m : Int) (c0 c3 : Cell)
set_option maxHeartbeats 4000000 in
theorem sum_parts : ∀ (ks : List Str) (ds : List D) (Q : List D → DEnv → Prop), (∀ k ∈ ks, k ∈ KS) → (∀ d ∈ ds, Wf L n d) → ks.length = ds.length →
    (∀ bs : List Bool, bs.all id = isPs nd m ds ks → Q (bs.map D.bl) [c0, .val (ndD nd), .val (.int m), c3, .none, .none]) →
    mapL [4, 5] (gTupD 2 (gConsD (gN 4) (gConsD (gN 5) gNilD))) qYes (t_is_sum_1 (sp_is_part L n)) (zipD (ks.map D.str) ds) [c0, .val (ndD nd), .val (.int m), c3, .none, .none] Q
  | [], [], Q, _, _, _, h => by
    walk_at "mn"
    exact h [] (by rw [isPs_nil]; rfl)
  | [], _ :: _, _, _, _, l, _ => by cases l
  | _ :: _, [], _, _, _, l, _ => by cases l
  | k :: ks, d :: ds, Q, hk, hd, l, h => by
    walk_at "mc"
    walk_at "ei"
    refine ⟨hk k List.mem_cons_self, hd d List.mem_cons_self, fun b hb => ?_⟩
    walk_at "w"
    refine sum_parts ks ds _ (fun k m => hk k (List.mem_cons_of_mem _ m)) (fun d m => hd d (List.mem_cons_of_mem _ m)) (by simpa using l) fun bs hbs => ?_
    exact h (b :: bs) (by rw [isPs_cons, List.all_cons, hbs, hb]; rfl)
end
theorem eq0_len {α : Type} (xs : List α) : decide ((((xs.length + 1 : Nat) : Int)) = 0) = false := decide_eq_false (by omega)
set_option maxHeartbeats 8000000 in
theorem sum_step (T : Txt K w mg) {k L n : Nat} (G : K_is_part P w base T k (sp_ip L n)) : K_is_sum P w base T (k + 1) (sp_is_sum L n) :=
  okD T.F_is_sum sc_is_sum fun cdv A outer s H E B cs Q hr hl hs => ⟨_, d_is_sum T G (Nat.le_refl _) hr, by
    obtain ⟨d, nd, m, rfl, wf, hq⟩ := hs
    have fin : ∀ {b : Bool} {env : DEnv}, b = isS nd m d → Outs env [.none, .none, .none] → ∃ cs' : List Cell, cs'.length = 3 ∧ Outs env cs' ∧ Q (.bl b) cs' := fun h o => ⟨_, rfl, o, hq _ h⟩
    cases d with
    | atm v => exact absurd wf.na (by intro h; cases h)
    | tup xs =>
      cases n with
      | zero => exact wf.elim
      | succ n =>
        obtain ⟨_, hh, hp⟩ := wf
        cases xs with
        | nil =>
          walk_at "w"
          walk_at "ei"
          exact fin rfl ⟨trivial, trivial, trivial, outs_nil⟩
        | cons x ds =>
          walk_at "w"
          walk_at "ei"
          refine ⟨x, atI_nat (j := 0) rfl, ?_⟩
          cases x with
          | atm v => exact absurd (hp (.atm v) List.mem_cons_self).na (by intro h; cases h)
          | str z =>
            walk_at "w"
            walk_at "ei"
            refine ⟨.str z, atI_nat (j := 0) rfl, ?_⟩
            walk_at "w"
            rcases head_form (hh z ds rfl) with ⟨f, hf, hl3, hk⟩ | ⟨hf, hno⟩
            · rw [hf]
              walk_at "w"
              refine ⟨.str z, atI_nat (j := 0) rfl, ?_⟩
              walk_at "w"
              rw [hf]
              walk_at "w"
              have sz : f.length ≤ sizeLine := Nat.le_trans hl3 (by decide)
              have isv : isS nd m (.tup (.str z :: ds)) = isPs nd m ds (f.cps.toList.map fun c => ⟨#[c]⟩) := by
                show isT nd m (.str z :: ds) = _
                rw [isT, formS, hf]; rfl
              have fl : f.cps.toList.length = f.length := Array.length_toList
              refine ⟨sz, ?_⟩
              walk_at "w"
              walk_at "sp"
              · rename_i hsp
                refine fin ?_ ⟨trivial, trivial, trivial, outs_nil⟩
                rw [isv, isPs_len]
                rw [List.length_map, fl]
                intro e
                apply hsp
                show (((ds.length + 1 : Nat) : Int)) = 1 + ((f.length : Nat) : Int)
                omega
              · rename_i hsp
                have hds : ds.length = f.length := by
                  have e : (((ds.length + 1 : Nat) : Int)) = 1 + ((f.length : Nat) : Int) := by simpa using hsp
                  omega
                walk_at "w"
                rw [cut_tail]
                have zz : List.map (fun c => D.str ⟨#[c]⟩) f.cps.toList = (f.cps.toList.map fun c => (⟨#[c]⟩ : Str)).map D.str := by rw [List.map_map]; rfl
                rw [zz]
                refine ⟨by
                  show (List.zipWith (fun x y => D.tup [x, y]) _ ds).length ≤ sizeLine
                  rw [List.length_zipWith]; omega, ?_⟩
                walk_at "w"
                refine sum_parts L n nd m _ _ _ ds _ (fun k hkm => ?_) (fun d m => hp d (List.mem_cons_of_mem _ m)) (by rw [List.length_map, fl, hds]) fun bs hbs => ?_
                · obtain ⟨c, hc, rfl⟩ := List.mem_map.mp hkm
                  exact hk c hc
                · walk_at "w"
                  refine ⟨bs, rfl, ?_⟩
                  walk_at "w"
                  exact fin (by rw [isv, hbs]) ⟨trivial, trivial, trivial, outs_nil⟩
            · rw [hf]
              walk_at "w"
              rw [hno]
              walk_at "w"
              exact fin (show false = isT nd m (.str z :: ds) by rw [isT, hf]; rfl) ⟨trivial, trivial, trivial, outs_nil⟩
          | _ =>
            walk_at "w"
            walk_at "ei"
            exact fin (show false = isT nd m _ by rw [isT] <;> (intro z r e; cases e)) ⟨trivial, trivial, trivial, outs_nil⟩
    | _ =>
      walk_at "w"
      walk_at "ei"
      exact fin rfl ⟨trivial, trivial, trivial, outs_nil⟩⟩
theorem ok_is_sum (T : Txt K w mg) (L : Nat) : ∀ n : Nat, K_is_sum P w base T (2 * n + 2) (sp_is_sum L n)
  | 0 => sum_step T (no_is_part T)
  | n + 1 => sum_step T (ok_is_part T (by omega) (ok_is_sum T L n))
/-- a right sum of so many own numbers -/
def Sok (nd : List (Str × Str)) (own : Nat) (n : Nat) (d : D) : Prop := Wf 4 n d ∧ isS nd (own : Nat) d = true
theorem Sok.up {nd : List (Str × Str)} {own n m : Nat} {d : D} (h : Sok nd own n d) (l : n ≤ m) : Sok nd own m d := ⟨h.1.mono (Nat.le_refl _) l, h.2⟩
/-- a right condition -/
inductive Cok (nd : List (Str × Str)) (own S : Nat) : Nat → D → Prop
  | rel {n : Nat} {w : Str} {a b : D} (hw : w = "below" ∨ w = "same" ∨ w = "has") (ha : Sok nd own S a) (hb : Sok nd own S b) : Cok nd own S (n + 1) (.tup [.str w, a, b])
  | not {n : Nat} {c : D} (h : Cok nd own S n c) : Cok nd own S (n + 1) (.tup [.str "not", c])
  | two {n : Nat} {w : Str} {a b : D} (hw : w = "and" ∨ w = "or") (ha : Cok nd own S n a) (hb : Cok nd own S n b) : Cok nd own S (n + 1) (.tup [.str w, a, b])
/-- a right body -/
inductive Bok (nd : List (Str × Str)) (cn : List Nat) (S : Nat) : Nat → Nat → Nat → D → Prop
  | none {n own t : Nat} : Bok nd cn S (n + 1) own t (.tup [.str "none"])
  | gain {n own t : Nat} {s : D} (h : Sok nd own S s) : Bok nd cn S (n + 1) own t (.tup [.str "gain", s])
  | call {n own t g : Nat} {as : List D} (hg : cn[g]? = some as.length) (h : ∀ a ∈ as, Sok nd own S a) : Bok nd cn S (n + 1) own t (.tup [.str "call", .int (g : Nat), .tup as])
  | choose {n own t : Nat} {bs : List D} (h1 : 1 ≤ bs.length) (h4 : bs.length ≤ 4) (h : ∀ b ∈ bs, Bok nd cn S n own t b) : Bok nd cn S (n + 1) own t (.tup [.str "choose", .tup bs])
  | turn {n own t : Nat} {w : Str} {lo hi b : D} (hw : w = "each" ∨ w = "all") (ht : t < 2) (hl : Sok nd own S lo) (hh : Sok nd own S hi) (hb : Bok nd cn S n (own + 1) (t + 1) b) : Bok nd cn S (n + 1) own t (.tup [.str w, lo, hi, b])
  | both {n own t : Nat} {a b : D} (ha : Bok nd cn S n own t a) (hb : Bok nd cn S n own t b) : Bok nd cn S (n + 1) own t (.tup [.str "both", a, b])
  | ite {n own t : Nat} {c a b : D} (hc : Cok nd own S S c) (ha : Bok nd cn S n own t a) (hb : Bok nd cn S n own t b) : Bok nd cn S (n + 1) own t (.tup [.str "if", c, a, b])
def sp_is_cond (S n : Nat) : FSpec := fun cs Q => ∃ (d : D) (nd : List (Str × Str)) (m : Nat), cs = [.val d, .val (ndD nd), .val (.int (m : Nat))] ∧ Cok nd m S n d ∧ Q (.bl true) [.none, .none, .none]
def sp_ic (S : Nat) : Nat → FSpec
  | 0 => fun _ _ => False
  | n + 1 => sp_is_cond S n
theorem no_is_cond (T : Txt K w mg) : K_is_cond P w base T 1 (fun _ _ => False) := okD T.F_is_cond sc_is_cond fun _ _ _ _ _ _ _ _ _ _ _ hs => hs.elim
set_option maxHeartbeats 8000000 in
theorem cond_step (T : Txt K w mg) {k S n : Nat} (h2 : 2 * S + 2 ≤ k) (G : K_is_cond P w base T k (sp_ic S n)) : K_is_cond P w base T (k + 1) (sp_is_cond S n) :=
  okD T.F_is_cond sc_is_cond fun cdv A outer s H E B cs Q hr hl hs => ⟨_, d_is_cond T G (Nat.le_refl _) (ok_is_sum T 4 S) h2 hr, by
    obtain ⟨d, nd, m, rfl, wf, hq⟩ := hs
    have fin : ∀ {env : DEnv}, Outs env [.none, .none, .none] → ∃ cs' : List Cell, cs'.length = 3 ∧ Outs env cs' ∧ Q (.bl true) cs' := fun o => ⟨_, rfl, o, hq⟩
    cases wf with
    | @rel n w a c hw ha hc =>
      rcases hw with rfl | rfl | rfl
      all_goals
        walk_at "w"
        walk_at "ei"
        walk_at "mc"
        refine ⟨a, nd, m, rfl, ha.1, fun b hb => ?_⟩
        rw [ha.2] at hb
        subst hb
        walk_at "w"
        walk_at "mc"
        refine ⟨c, nd, m, rfl, hc.1, fun b hb => ?_⟩
        rw [hc.2] at hb
        subst hb
        walk_at "w"
        walk_at "mn"
        refine ⟨[true, true], rfl, ?_⟩
        exact fin ⟨trivial, trivial, trivial, outs_nil⟩
    | @not n c h =>
      walk_at "w"
      walk_at "ei"
      walk_at "mc"
      refine ⟨c, nd, m, rfl, h, ?_⟩
      walk_at "w"
      walk_at "mn"
      refine ⟨[true], rfl, ?_⟩
      exact fin ⟨trivial, trivial, trivial, outs_nil⟩
    | @two n w a c hw ha hc =>
      rcases hw with rfl | rfl
      all_goals
        walk_at "w"
        walk_at "ei"
        walk_at "mc"
        refine ⟨a, nd, m, rfl, ha, ?_⟩
        walk_at "w"
        walk_at "mc"
        refine ⟨c, nd, m, rfl, hc, ?_⟩
        walk_at "w"
        walk_at "mn"
        refine ⟨[true, true], rfl, ?_⟩
        exact fin ⟨trivial, trivial, trivial, outs_nil⟩⟩
theorem ok_is_cond (T : Txt K w mg) (S : Nat) : ∀ n : Nat, K_is_cond P w base T (2 * S + 3 + n) (sp_is_cond S n)
  | 0 => cond_step T (Nat.le_refl _) ((no_is_cond T).mono (show 1 ≤ 2 * S + 2 by omega))
  | n + 1 => cond_step T (show 2 * S + 2 ≤ 2 * S + 3 + n by omega) (ok_is_cond T S n)
def cD (cn : List Nat) : D := .lst (cn.map fun n => .int (n : Nat))
def hD (nd : List (Str × Str)) (cn : List Nat) : D := .tup [ndD nd, cD cn]
def sp_are_sums (S : Nat) : FSpec := fun cs Q => ∃ (ds : List D) (nd : List (Str × Str)) (own : Nat), cs = [.val (.tup ds), .val (.int (ds.length : Nat)), .val (ndD nd), .val (.int (own : Nat))] ∧ ds.length ≤ 3 ∧ (∀ d ∈ ds, Sok nd own S d) ∧ Q (.bl true) [.none, .none, .none, .none]
theorem all_tt {α : Type} (ds : List α) : (ds.map fun _ => true).all id = true := by
  rw [List.all_map, List.all_eq_true]
  intro x _; rfl
theorem map_tt {α : Type} (ds : List α) : (ds.map fun _ => D.bl true) = (ds.map fun _ => true).map D.bl := by rw [List.map_map]; rfl
set_option maxHeartbeats 4000000 in
theorem sums_comp (S own : Nat) (nd : List (Str × Str)) (c0 c1 : Cell) : ∀ (ds : List D) (Q : List D → DEnv → Prop), (∀ d ∈ ds, Sok nd own S d) → Q (ds.map fun _ => .bl true) [c0, c1, .val (ndD nd), .val (.int (own : Nat)), .none] →
    mapL [4] (gN 4) qYes (t_are_sums_1 (sp_is_sum 4 S)) ds [c0, c1, .val (ndD nd), .val (.int (own : Nat)), .none] Q
  | [], Q, hk, h => by
    walk_at "mn"
    exact h
  | d :: r, Q, hk, h => by
    walk_at "mc"
    refine ⟨d, nd, own, rfl, (hk d List.mem_cons_self).1, fun b hb => ?_⟩
    rw [(hk d List.mem_cons_self).2] at hb
    subst hb
    walk_at "w"
    exact sums_comp S own nd c0 c1 r _ (fun d m => hk d (List.mem_cons_of_mem _ m)) h
set_option maxHeartbeats 4000000 in
theorem ok_are_sums (T : Txt K w mg) (S : Nat) : K_are_sums P w base T (2 * S + 3) (sp_are_sums S) :=
  okD T.F_are_sums sc_are_sums fun cdv A outer s H E B cs Q hr hl hs => ⟨_, d_are_sums T (ok_is_sum T 4 S) (by omega) hr, by
    obtain ⟨ds, nd, own, rfl, hl3, hk, hq⟩ := hs
    walk_at "w"
    walk_at "ei"
    rw [decide_eq_true rfl]
    walk_at "w"
    refine ⟨Nat.le_trans hl3 (by decide), ?_⟩
    walk_at "w"
    refine sums_comp S own nd _ _ ds _ hk ?_
    walk_at "w"
    refine ⟨_, map_tt ds, ?_⟩
    rw [all_tt]
    exact ⟨[.none, .none, .none, .none], rfl, ⟨trivial, trivial, trivial, trivial, outs_nil⟩, hq⟩⟩
def sp_is_call (S : Nat) : FSpec := fun cs Q => ∃ (g : Nat) (as : List D) (nd : List (Str × Str)) (cn : List Nat) (own : Nat), cs = [.val (.tup [.str "call", .int (g : Nat), .tup as]), .val (hD nd cn), .val (.int (own : Nat))] ∧ cn[g]? = some as.length ∧ as.length ≤ 3 ∧ (∀ d ∈ as, Sok nd own S d) ∧
  Q (.bl true) [.none, .none, .none]
set_option maxHeartbeats 4000000 in
theorem ok_is_call (T : Txt K w mg) (S : Nat) : K_is_call P w base T (2 * S + 4) (sp_is_call S) :=
  okD T.F_is_call sc_is_call fun cdv A outer s H E B cs Q hr hl hs => ⟨_, d_is_call T (ok_is_whole T) (by omega) (ok_are_sums T S) (by omega) hr, by
    obtain ⟨g, as, nd, cn, own, rfl, hg, hl3, hk, hq⟩ := hs
    have lg : g < cn.length := (List.getElem?_eq_some_iff.mp hg).1
    walk_at "w"
    walk_at "ei"
    rename_i b hb
    have hb : b = true := hb
    subst hb
    have lc : ((cn.map fun n => D.int (n : Nat)).length : Int) = (cn.length : Int) := by rw [List.length_map]
    have e1 : decide ((0 : Int) ≤ (g : Nat)) = true := decide_eq_true (by omega)
    have e2 : decide (((g : Nat) : Int) < ((cn.map fun n => D.int (n : Nat)).length : Int)) = true := decide_eq_true (by omega)
    walk_at "w"
    walk_at "ei"
    rw [e2]
    walk_at "w"
    walk_at "ei"
    have ag : atI (cn.map fun n => D.int (n : Nat)) ((g : Nat) : Int) = some (.int (as.length : Nat)) := atI_nat (by rw [List.getElem?_map, hg]; rfl)
    refine ⟨_, ag, ?_⟩
    walk_at "w"
    refine ⟨as, nd, own, rfl, hl3, hk, ?_⟩
    walk_at "w"
    exact ⟨[.none, .none, .none], rfl, ⟨trivial, trivial, trivial, outs_nil⟩, hq⟩⟩
def sp_is_body (S n : Nat) : FSpec := fun cs Q => ∃ (d : D) (nd : List (Str × Str)) (cn : List Nat) (own t : Nat), cs = [.val d, .val (hD nd cn), .val (.int (own : Nat)), .val (.int (t : Nat))] ∧ (∀ c ∈ cn, c ≤ 3) ∧ Bok nd cn S n own t d ∧ Q (.bl true) [.none, .none, .none, .none]
def sp_ib (S : Nat) : Nat → FSpec
  | 0 => fun _ _ => False
  | n + 1 => sp_is_body S n
theorem no_is_body (T : Txt K w mg) : K_is_body P w base T 1 (fun _ _ => False) := okD T.F_is_body sc_is_body fun _ _ _ _ _ _ _ _ _ _ _ hs => hs.elim
def sp_is_choice (S n : Nat) : FSpec := fun cs Q => ∃ (bs : List D) (nd : List (Str × Str)) (cn : List Nat) (own t : Nat), cs = [.val (.tup [.str "choose", .tup bs]), .val (hD nd cn), .val (.int (own : Nat)), .val (.int (t : Nat))] ∧ (∀ c ∈ cn, c ≤ 3) ∧
  1 ≤ bs.length ∧ bs.length ≤ 4 ∧ (∀ b ∈ bs, Bok nd cn S n own t b) ∧ Q (.bl true) [.none, .none, .none, .none]
theorem no_is_choice (T : Txt K w mg) : K_is_choice P w base T 1 (fun _ _ => False) := okD T.F_is_choice sc_is_choice fun _ _ _ _ _ _ _ _ _ _ _ hs => hs.elim
theorem no_is_turned (T : Txt K w mg) : K_is_turned P w base T 1 (fun _ _ => False) := okD T.F_is_turned sc_is_turned fun _ _ _ _ _ _ _ _ _ _ _ hs => hs.elim
set_option maxHeartbeats 4000000 in
theorem choice_comp (S n own t : Nat) (nd : List (Str × Str)) (cn : List Nat) (hc : ∀ c ∈ cn, c ≤ 3) (c0 : Cell) : ∀ (ds : List D) (Q : List D → DEnv → Prop), (∀ d ∈ ds, Bok nd cn S n own t d) → Q (ds.map fun _ => .bl true) [c0, .val (hD nd cn), .val (.int (own : Nat)), .val (.int (t : Nat)), .none] →
    mapL [4] (gN 4) qYes (t_is_choice_1 (sp_is_body S n)) ds [c0, .val (hD nd cn), .val (.int (own : Nat)), .val (.int (t : Nat)), .none] Q
  | [], Q, hk, h => by
    walk_at "mn"
    exact h
  | d :: r, Q, hk, h => by
    walk_at "mc"
    refine ⟨d, nd, cn, own, t, rfl, hc, hk d List.mem_cons_self, ?_⟩
    walk_at "w"
    exact choice_comp S n own t nd cn hc c0 r _ (fun d m => hk d (List.mem_cons_of_mem _ m)) h
set_option maxHeartbeats 4000000 in
theorem ok_is_choice (T : Txt K w mg) {k S n : Nat} (G : K_is_body P w base T k (sp_is_body S n)) : K_is_choice P w base T (k + 1) (sp_is_choice S n) :=
  okD T.F_is_choice sc_is_choice fun cdv A outer s H E B cs Q hr hl hs => ⟨_, d_is_choice T G (Nat.le_refl _) hr, by
    obtain ⟨bs, nd, cn, own, t, rfl, hc, h1, h4, hk, hq⟩ := hs
    have e1 : decide ((1 : Int) ≤ (bs.length : Nat)) = true := decide_eq_true (by omega)
    have e2 : decide (((bs.length : Nat) : Int) ≤ 4) = true := decide_eq_true (by omega)
    walk_at "w"
    walk_at "ei"
    rw [e1]
    walk_at "w"
    walk_at "ei"
    rw [e2]
    walk_at "w"
    walk_at "ei"
    refine ⟨Nat.le_trans h4 (by decide), ?_⟩
    walk_at "w"
    refine choice_comp S n own t nd cn hc _ bs _ hk ?_
    walk_at "w"
    refine ⟨_, map_tt bs, ?_⟩
    rw [all_tt]
    exact ⟨[.none, .none, .none, .none], rfl, ⟨trivial, trivial, trivial, trivial, outs_nil⟩, hq⟩⟩
def sp_is_turned (S n : Nat) : FSpec := fun cs Q => ∃ (w : Str) (lo hi b : D) (nd : List (Str × Str)) (cn : List Nat) (own t : Nat), cs = [.val (.tup [.str w, lo, hi, b]), .val (hD nd cn), .val (.int (own : Nat)), .val (.int (t : Nat))] ∧ (∀ c ∈ cn, c ≤ 3) ∧
  t < 2 ∧ Sok nd own S lo ∧ Sok nd own S hi ∧ Bok nd cn S n (own + 1) (t + 1) b ∧ Q (.bl true) [.none, .none, .none, .none]
set_option maxHeartbeats 4000000 in
theorem ok_is_turned (T : Txt K w mg) {k S n : Nat} (h2 : 2 * S + 3 ≤ k) (G : K_is_body P w base T k (sp_is_body S n)) : K_is_turned P w base T (k + 1) (sp_is_turned S n) :=
  okD T.F_is_turned sc_is_turned fun cdv A outer s H E B cs Q hr hl hs => ⟨_, d_is_turned T (ok_are_sums T S) h2 G (Nat.le_refl _) hr, by
    obtain ⟨w, lo, hi, b, nd, cn, own, t, rfl, hc, ht, hlo, hhi, hb, hq⟩ := hs
    have e1 : decide (((t : Nat) : Int) = 2) = false := decide_eq_false (by omega)
    walk_at "w"
    walk_at "ei"
    rw [e1]
    walk_at "w"
    walk_at "ei"
    refine ⟨fun d m => ?_, ?_⟩
    · have m : d ∈ [lo, hi] := m
      rcases List.mem_cons.mp m with e | m
      · rw [e]; exact hlo
      · rw [List.mem_singleton.mp m]; exact hhi
    walk_at "w"
    refine ⟨b, atI_nat (j := 3) rfl, ?_⟩
    walk_at "w"
    refine ⟨b, nd, cn, own + 1, t + 1, rfl, hc, hb, ?_⟩
    walk_at "w"
    exact ⟨[.none, .none, .none, .none], rfl, ⟨trivial, trivial, trivial, trivial, outs_nil⟩, hq⟩⟩
set_option maxHeartbeats 4000000 in
theorem body_comp1 (S n own t : Nat) (nd : List (Str × Str)) (cn : List Nat) (hc : ∀ c ∈ cn, c ≤ 3) (s1 s2 s3 s4 s5 : FSpec) (c0 c4 : Cell) : ∀ (ds : List D) (Q : List D → DEnv → Prop), (∀ d ∈ ds, Bok nd cn S n own t d) → Q (ds.map fun _ => .bl true) [c0, .val (hD nd cn), .val (.int (own : Nat)), .val (.int (t : Nat)), c4, .none] →
    mapL [5] (gN 5) qYes (t_is_body_1 s1 s2 s3 s4 (sp_is_body S n) s5) ds [c0, .val (hD nd cn), .val (.int (own : Nat)), .val (.int (t : Nat)), c4, .none] Q
  | [], Q, hk, h => by
    walk_at "mn"
    exact h
  | d :: r, Q, hk, h => by
    walk_at "mc"
    refine ⟨d, nd, cn, own, t, rfl, hc, hk d List.mem_cons_self, ?_⟩
    walk_at "w"
    exact body_comp1 S n own t nd cn hc s1 s2 s3 s4 s5 c0 c4 r _ (fun d m => hk d (List.mem_cons_of_mem _ m)) h
set_option maxHeartbeats 4000000 in
theorem body_comp2 (S n own t : Nat) (nd : List (Str × Str)) (cn : List Nat) (hc : ∀ c ∈ cn, c ≤ 3) (s1 s2 s3 s4 s5 : FSpec) (c0 c4 : Cell) : ∀ (ds : List D) (Q : List D → DEnv → Prop), (∀ d ∈ ds, Bok nd cn S n own t d) → Q (ds.map fun _ => .bl true) [c0, .val (hD nd cn), .val (.int (own : Nat)), .val (.int (t : Nat)), c4, .none] →
    mapL [5] (gN 5) qYes (t_is_body_2 s1 s2 s3 s4 (sp_is_body S n) s5) ds [c0, .val (hD nd cn), .val (.int (own : Nat)), .val (.int (t : Nat)), c4, .none] Q
  | [], Q, hk, h => by
    walk_at "mn"
    exact h
  | d :: r, Q, hk, h => by
    walk_at "mc"
    refine ⟨d, nd, cn, own, t, rfl, hc, hk d List.mem_cons_self, ?_⟩
    walk_at "w"
    exact body_comp2 S n own t nd cn hc s1 s2 s3 s4 s5 c0 c4 r _ (fun d m => hk d (List.mem_cons_of_mem _ m)) h
set_option maxHeartbeats 8000000 in
theorem body_step (T : Txt K w mg) {k S n : Nat} {sc st : FSpec} (h2 : 3 * S + 4 ≤ k) (GC : K_is_choice P w base T k sc) (GT : K_is_turned P w base T k st) (G : K_is_body P w base T k (sp_ib S n)) (hs : n = 0 ∨ ∃ j, n = j + 1 ∧ sc = sp_is_choice S j ∧ st = sp_is_turned S j) : K_is_body P w base T (k + 1) (sp_is_body S n) :=
  okD T.F_is_body sc_is_body fun cdv A outer s H E B cs Q hr hl hs2 => ⟨_, d_is_body T (ok_are_sums T S) (by omega) (ok_is_call T S) (by omega) GC (Nat.le_refl _) GT (Nat.le_refl _) G (Nat.le_refl _) (ok_is_cond T S S) (by omega) hr, by
    obtain ⟨d, nd, cn, own, t, rfl, hc, wf, hq⟩ := hs2
    have fin : ∀ {env : DEnv}, Outs env [.none, .none, .none, .none] → ∃ cs' : List Cell, cs'.length = 4 ∧ Outs env cs' ∧ Q (.bl true) cs' := fun o => ⟨_, rfl, o, hq⟩
    cases wf with
    | none =>
      walk_at "w"
      walk_at "ei"
      exact fin ⟨trivial, trivial, trivial, trivial, outs_nil⟩
    | @gain n _ _ s h =>
      walk_at "w"
      walk_at "ei"
      refine ⟨fun d m => ?_, ?_⟩
      · rw [List.mem_singleton.mp (show d ∈ [s] from m)]; exact h
      walk_at "w"
      exact fin ⟨trivial, trivial, trivial, trivial, outs_nil⟩
    | @call n _ _ g as hg h =>
      have h3 : as.length ≤ 3 := hc _ (List.mem_of_getElem? hg)
      walk_at "w"
      walk_at "ei"
      refine ⟨g, as, nd, cn, own, rfl, hg, h3, h, ?_⟩
      walk_at "w"
      exact fin ⟨trivial, trivial, trivial, trivial, outs_nil⟩
    | @choose n _ _ bs h1 h4 h =>
      rcases hs with e | ⟨j, e, rfl, rfl⟩
      · cases e
      obtain rfl : n = j := Nat.succ.inj e
      walk_at "w"
      walk_at "ei"
      refine ⟨bs, nd, cn, own, t, rfl, hc, h1, h4, h, ?_⟩
      walk_at "w"
      exact fin ⟨trivial, trivial, trivial, trivial, outs_nil⟩
    | @turn n _ _ w lo hi b hw ht hlo hhi hb =>
      rcases hs with e | ⟨j, e, rfl, rfl⟩
      · cases e
      obtain rfl : n = j := Nat.succ.inj e
      rcases hw with rfl | rfl
      all_goals
        walk_at "w"
        walk_at "ei"
        refine ⟨_, lo, hi, b, nd, cn, own, t, rfl, hc, ht, hlo, hhi, hb, ?_⟩
        walk_at "w"
        exact fin ⟨trivial, trivial, trivial, trivial, outs_nil⟩
    | @both n _ _ a b ha hb =>
      walk_at "w"
      walk_at "ei"
      refine body_comp1 S n own t nd cn hc _ _ _ _ _ _ _ [a, b] _ (fun d m => ?_) ?_
      · rcases List.mem_cons.mp m with e | m
        · rw [e]; exact ha
        · rw [List.mem_singleton.mp m]; exact hb
      walk_at "w"
      refine ⟨[true, true], rfl, ?_⟩
      exact fin ⟨trivial, trivial, trivial, trivial, outs_nil⟩
    | @ite n _ _ c a b hcc ha hb =>
      walk_at "w"
      walk_at "ei"
      refine body_comp2 S n own t nd cn hc _ _ _ _ _ _ _ [a, b] _ (fun d m => ?_) ?_
      · rcases List.mem_cons.mp m with e | m
        · rw [e]; exact ha
        · rw [List.mem_singleton.mp m]; exact hb
      walk_at "w"
      refine ⟨[true, true], rfl, ?_⟩
      exact fin ⟨trivial, trivial, trivial, trivial, outs_nil⟩⟩
theorem ok_is_body (T : Txt K w mg) (S : Nat) : ∀ n : Nat, K_is_body P w base T (3 * S + 5 + 2 * n) (sp_is_body S n)
  | 0 => body_step T (Nat.le_refl _) ((no_is_choice T).mono (show 1 ≤ 3 * S + 4 by omega)) ((no_is_turned T).mono (show 1 ≤ 3 * S + 4 by omega)) ((no_is_body T).mono (show 1 ≤ 3 * S + 4 by omega)) (.inl rfl)
  | n + 1 => body_step T (show 3 * S + 4 ≤ 3 * S + 5 + 2 * n + 1 by omega) (ok_is_choice T (ok_is_body T S n)) (ok_is_turned T (show 2 * S + 3 ≤ 3 * S + 5 + 2 * n by omega) (ok_is_body T S n)) ((ok_is_body T S n).mono (show 3 * S + 5 + 2 * n ≤ 3 * S + 5 + 2 * n + 1 by omega)) (.inr ⟨n, rfl, rfl, rfl⟩)
/-- data of a bounded depth -/
def Ht : Nat → D → Prop
  | _, .atm _ => False
  | _, .lst _ => False
  | _, .scr _ => False
  | _, .dct _ => False
  | 0, .tup _ => False
  | n + 1, .tup ds => (0 < ds.length ∧ ds.length ≤ 1000) ∧ ∀ d ∈ ds, Ht n d
  | _, _ => True
theorem Ht.na {n : Nat} {d : D} (h : Ht n d) : noAtm d = true := by
  cases d with
  | atm v => cases n <;> exact h.elim
  | _ => rfl
theorem SmA_of {n : Nat} : ∀ {ds : List D}, (∀ d ∈ ds, Sm n d) → SmA n ds
  | [], _ => .nil
  | d :: r, h => .cons (h d List.mem_cons_self) (SmA_of fun d m => h d (List.mem_cons_of_mem _ m))
theorem Ht.sm : ∀ {n : Nat} {d : D}, Ht n d → Sm n d
  | 0, .tup ds, h => h.elim
  | n + 1, .tup ds, h => .tup (SmA_of fun d m => Ht.sm (h.2 d m))
  | n, .atm v, h => by cases n <;> exact h.elim
  | n, .scr v, h => by cases n <;> exact h.elim
  | n, .lst v, h => by cases n <;> exact h.elim
  | n, .dct v, h => by cases n <;> exact h.elim
  | n, .non, _ => .non
  | n, .bl _, _ => .bl _
  | n, .int _, _ => .int _
  | n, .str _, _ => .str _
def wrd : List D → Nat
  | .str _ :: _ => 1
  | _ => 0
mutual
/-- how many parts -/
def cnt : D → Nat
  | .tup ds => wrd ds + cnts ds
  | _ => 0
def cnts : List D → Nat
  | [] => 0
  | d :: r => cnt d + cnts r
end
mutual
/-- how deep -/
def dpt : D → Nat
  | .tup ds => wrd ds + dpts ds
  | _ => 0
def dpts : List D → Nat
  | [] => 0
  | d :: r => max (dpt d) (dpts r)
end
theorem cnt_tup (ds : List D) : cnt (.tup ds) = wrd ds + cnts ds := by rw [cnt]
theorem cnts_cons (d : D) (r : List D) : cnts (d :: r) = cnt d + cnts r := by rw [cnts]
theorem cnts_nil : cnts [] = 0 := by rw [cnts]
theorem dpt_tup (ds : List D) : dpt (.tup ds) = wrd ds + dpts ds := by rw [dpt]
theorem dpts_cons (d : D) (r : List D) : dpts (d :: r) = max (dpt d) (dpts r) := by rw [dpts]
theorem dpts_nil : dpts [] = 0 := by rw [dpts]
def sp_is_worded : FSpec := fun cs Q => ∃ (n : Nat) (ds : List D), cs = [.val (.tup ds)] ∧ (∀ d ∈ ds, Ht n d) ∧ ∀ b, b = decide (wrd ds = 1) → Q (.bl b) [.none]
set_option maxHeartbeats 4000000 in
theorem ok_is_worded (T : Txt K w mg) : K_is_worded P w base T 1 sp_is_worded :=
  okD T.F_is_worded sc_is_worded fun cdv A outer s H E B cs Q hr hl hs => ⟨_, d_is_worded T hr, by
    obtain ⟨n, ds, rfl, hk, hq⟩ := hs
    cases ds with
    | nil =>
      walk_at "w"
      walk_at "ei"
      exact ⟨[.none], rfl, ⟨trivial, outs_nil⟩, hq _ rfl⟩
    | cons x r =>
      have hx := (hk x List.mem_cons_self).na
      have e : decide ((0 : Int) < ((x :: r).length : Nat)) = true := decide_eq_true (by rw [List.length_cons]; omega)
      walk_at "w"
      walk_at "ei"
      rw [e]
      walk_at "w"
      refine ⟨x, atI_nat (j := 0) rfl, ?_⟩
      cases x with
      | atm v => cases hx
      | _ =>
        walk_at "w"
        walk_at "ei"
        exact ⟨[.none], rfl, ⟨trivial, outs_nil⟩, hq _ rfl⟩⟩
theorem wrd_int (ds : List D) : (if decide (wrd ds = 1) = true then (1 : Int) else 0) = (wrd ds : Nat) := by
  cases ds with
  | nil => rfl
  | cons x r => cases x <;> rfl
def sp_count_parts (n : Nat) : FSpec := fun cs Q => ∃ d : D, cs = [.val d] ∧ Ht n d ∧ ∀ v : Int, v = (cnt d : Nat) → Q (.int v) [.none]
theorem no_count_parts (T : Txt K w mg) : K_count_parts P w base T 1 (fun _ _ => False) := okD T.F_count_parts sc_count_parts fun _ _ _ _ _ _ _ _ _ _ _ hs => hs.elim
def sp_cp : Nat → FSpec
  | 0 => fun _ _ => False
  | n + 1 => sp_count_parts n
set_option maxHeartbeats 4000000 in
theorem count_comp (s1 : FSpec) (n : Nat) (c0 : Cell) : ∀ (ds : List D) (Q : List D → DEnv → Prop), (∀ d ∈ ds, Ht n d) → Q (ds.map fun d => .int (cnt d : Nat)) [c0, .none] →
    mapL [1] (gN 1) qYes (t_count_parts_1 s1 (sp_count_parts n)) ds [c0, .none] Q
  | [], Q, hk, h => by
    walk_at "mn"
    exact h
  | d :: r, Q, hk, h => by
    walk_at "mc"
    refine ⟨d, rfl, hk d List.mem_cons_self, fun v hv => ?_⟩
    subst hv
    walk_at "w"
    exact count_comp s1 n c0 r _ (fun d m => hk d (List.mem_cons_of_mem _ m)) h
theorem cnts_sum : ∀ ds : List D, (ds.map fun d => (cnt d : Int)).sum = (cnts ds : Nat)
  | [] => by rw [cnts_nil]; rfl
  | d :: r => by rw [List.map_cons, List.sum_cons, cnts_sum r, cnts_cons]; omega
set_option maxHeartbeats 4000000 in
theorem count_step (T : Txt K w mg) {k n : Nat} (h1 : 1 ≤ k) (G : K_count_parts P w base T k (sp_cp n)) : K_count_parts P w base T (k + 1) (sp_count_parts n) :=
  okD T.F_count_parts sc_count_parts fun cdv A outer s H E B cs Q hr hl hs => ⟨_, d_count_parts T (ok_is_worded T) h1 G (Nat.le_refl _) hr, by
    obtain ⟨d, rfl, hd, hq⟩ := hs
    have fin : ∀ {v : Int} {env : DEnv}, v = (cnt d : Nat) → Outs env [.none] → ∃ cs' : List Cell, cs'.length = 1 ∧ Outs env cs' ∧ Q (.int v) cs' := fun h o => ⟨_, rfl, o, hq _ h⟩
    cases d with
    | atm v => exact absurd hd.na (by intro h; cases h)
    | tup ds =>
      cases n with
      | zero => exact hd.elim
      | succ n =>
        obtain ⟨⟨l0, l1⟩, hk⟩ := hd
        walk_at "w"
        walk_at "ei"
        refine ⟨n, ds, rfl, hk, fun b hb => ?_⟩
        subst hb
        walk_at "w"
        walk_at "ei"
        refine ⟨Nat.le_trans l1 (by decide), ?_⟩
        walk_at "w"
        refine count_comp _ n _ ds _ hk ?_
        walk_at "w"
        refine ⟨ds.map fun d => (cnt d : Int), by rw [List.map_map]; rfl, ?_⟩
        walk_at "w"
        exact fin (by rw [wrd_int, cnts_sum, cnt_tup]; omega) ⟨trivial, outs_nil⟩
    | _ =>
      walk_at "w"
      walk_at "ei"
      exact fin (by rw [cnt] <;> first | rfl | (intro a e; cases e)) ⟨trivial, outs_nil⟩⟩
theorem ok_count_parts (T : Txt K w mg) : ∀ n : Nat, K_count_parts P w base T (n + 2) (sp_count_parts n)
  | 0 => count_step T (Nat.le_refl 1) (no_count_parts T)
  | n + 1 => count_step T (by omega) (ok_count_parts T n)
def sp_deepness (n : Nat) : FSpec := fun cs Q => ∃ d : D, cs = [.val d] ∧ Ht n d ∧ ∀ v : Int, v = (dpt d : Nat) → Q (.int v) [.none]
theorem no_deepness (T : Txt K w mg) : K_deepness P w base T 1 (fun _ _ => False) := okD T.F_deepness sc_deepness fun _ _ _ _ _ _ _ _ _ _ _ hs => hs.elim
def sp_dp : Nat → FSpec
  | 0 => fun _ _ => False
  | n + 1 => sp_deepness n
set_option maxHeartbeats 4000000 in
theorem deep_comp (s1 : FSpec) (n : Nat) (c0 : Cell) : ∀ (ds : List D) (Q : List D → DEnv → Prop), (∀ d ∈ ds, Ht n d) → Q (ds.map fun d => .int (dpt d : Nat)) [c0, .none] →
    mapL [1] (gN 1) qYes (t_deepness_1 s1 (sp_deepness n)) ds [c0, .none] Q
  | [], Q, hk, h => by
    walk_at "mn"
    exact h
  | d :: r, Q, hk, h => by
    walk_at "mc"
    refine ⟨d, rfl, hk d List.mem_cons_self, fun v hv => ?_⟩
    subst hv
    walk_at "w"
    exact deep_comp s1 n c0 r _ (fun d m => hk d (List.mem_cons_of_mem _ m)) h
theorem dpts_le : ∀ (ds : List D), ∀ d ∈ ds, dpt d ≤ dpts ds
  | e :: r, d, m => by
    rw [dpts_cons]
    rcases List.mem_cons.mp m with e | m
    · rw [e]; exact Nat.le_max_left _ _
    · exact Nat.le_trans (dpts_le r d m) (Nat.le_max_right _ _)
theorem dpts_in : ∀ (ds : List D), dpts ds = 0 ∨ ∃ d ∈ ds, dpt d = dpts ds
  | [] => .inl dpts_nil
  | e :: r => by
    rw [dpts_cons]
    rcases Nat.le_total (dpt e) (dpts r) with h | h
    · rw [Nat.max_eq_right h]
      rcases dpts_in r with z | ⟨d, m, z⟩
      · exact .inl z
      · exact .inr ⟨d, List.mem_cons_of_mem _ m, z⟩
    · rw [Nat.max_eq_left h]
      exact .inr ⟨e, List.mem_cons_self, rfl⟩
/-- the greatest of these is how deep they are -/
theorem dpts_max {ds : List D} {l : List Int} (hl : ∀ x ∈ l, x = 0) {m : Int} (hm : m ∈ (ds.map fun d => (dpt d : Int)) ++ l) (h : ∀ y ∈ (ds.map fun d => (dpt d : Int)) ++ l, y ≤ m) (hz : ds ≠ [] ∨ l ≠ []) : m = (dpts ds : Nat) := by
  have h1 : m ≤ (dpts ds : Nat) := by
    rcases List.mem_append.mp hm with a | a
    · obtain ⟨d, hd, rfl⟩ := List.mem_map.mp a
      have := dpts_le ds d hd
      omega
    · rw [hl m a]; omega
  have h0 : 0 ≤ m := by
    rcases List.mem_append.mp hm with a | a
    · obtain ⟨d, hd, rfl⟩ := List.mem_map.mp a
      omega
    · rw [hl m a]; omega
  rcases dpts_in ds with z | ⟨d, hd, z⟩
  · rw [z] at h1 ⊢; omega
  · have := h (dpt d : Nat) (List.mem_append_left _ (List.mem_map_of_mem (f := fun d => (dpt d : Int)) hd))
    omega
set_option maxHeartbeats 4000000 in
theorem deep_step (T : Txt K w mg) {k n : Nat} (h1 : 1 ≤ k) (G : K_deepness P w base T k (sp_dp n)) : K_deepness P w base T (k + 1) (sp_deepness n) :=
  okD T.F_deepness sc_deepness fun cdv A outer s H E B cs Q hr hl hs => ⟨_, d_deepness T (ok_is_worded T) h1 G (Nat.le_refl _) hr, by
    obtain ⟨d, rfl, hd, hq⟩ := hs
    have fin : ∀ {v : Int} {env : DEnv}, v = (dpt d : Nat) → Outs env [.none] → ∃ cs' : List Cell, cs'.length = 1 ∧ Outs env cs' ∧ Q (.int v) cs' := fun h o => ⟨_, rfl, o, hq _ h⟩
    cases d with
    | atm v => exact absurd hd.na (by intro h; cases h)
    | tup ds =>
      cases n with
      | zero => exact hd.elim
      | succ n =>
        obtain ⟨⟨l0, l1⟩, hk⟩ := hd
        walk_at "w"
        walk_at "ei"
        refine ⟨n, ds, rfl, hk, fun b hb => ?_⟩
        subst hb
        walk_at "w"
        walk_at "ei"
        refine ⟨Nat.le_trans l1 (by decide), ?_⟩
        walk_at "w"
        refine deep_comp _ n _ ds _ hk ?_
        walk_at "w"
        walk_at "ei"
        refine ⟨Nat.le_trans (show (ds.map fun d => D.int (dpt d : Nat)).length + 1 ≤ 1001 by rw [List.length_map]; omega) (by decide), ?_⟩
        walk_at "w"
        refine ⟨(ds.map fun d => (dpt d : Int)) ++ [0], by rw [List.map_append, List.map_map]; rfl, by rw [List.length_append]; exact Nat.succ_pos _, fun m hm hx => ?_⟩
        have e := dpts_max (ds := ds) (l := [0]) (fun x m => List.mem_singleton.mp m) hm hx (.inr (by simp))
        subst e
        walk_at "w"
        exact fin (by rw [wrd_int, dpt_tup]; omega) ⟨trivial, outs_nil⟩
    | _ =>
      walk_at "w"
      walk_at "ei"
      exact fin (by rw [dpt] <;> first | rfl | (intro a e; cases e)) ⟨trivial, outs_nil⟩⟩
theorem ok_deepness (T : Txt K w mg) : ∀ n : Nat, K_deepness P w base T (n + 2) (sp_deepness n)
  | 0 => deep_step T (Nat.le_refl 1) (no_deepness T)
  | n + 1 => deep_step T (by omega) (ok_deepness T n)
def letsL : List Nat := (match c_LETTERS with | .str l => l.cps.toList | _ => [])
def worL : List D := (match c_WORDS with | .tup ys => ys | _ => [])
/-- a right name -/
def nokB (s : Str) : Bool := (decide (2 ≤ s.length) && decide (s.length ≤ 8)) && (!(worL.any fun y => eqF y (.str s)) && s.cps.toList.all fun c => letsL.contains c)
def sp_is_name : FSpec := fun cs Q => ∃ s : Str, cs = [.val (.str s)] ∧ nokB s = true ∧ Q (.bl true) [.none]
set_option maxHeartbeats 4000000 in
theorem name_comp (c0 : Cell) : ∀ (cs : List Nat) (Q : List D → DEnv → Prop), (∀ c ∈ cs, c ∈ letsL) → Q (cs.map fun _ => .bl true) [c0, .none] →
    mapL [1] (gN 1) qYes t_is_name_1 (cs.map fun c => D.str ⟨#[c]⟩) [c0, .none] Q
  | [], Q, hk, h => by
    walk_at "mn"
    exact h
  | d :: r, Q, hk, h => by
    walk_at "mc"
    refine ⟨d, rfl, ?_⟩
    have e : decide (d ∈ letsL) = true := decide_eq_true (hk d List.mem_cons_self)
    show mapL [1] (gN 1) qYes t_is_name_1 (r.map fun c => D.str ⟨#[c]⟩) [c0, .none] fun xs env => Q (D.bl (decide (d ∈ letsL)) :: xs) env
    rw [e]
    exact name_comp c0 r _ (fun d m => hk d (List.mem_cons_of_mem _ m)) h
set_option maxHeartbeats 4000000 in
theorem ok_is_name (T : Txt K w mg) : K_is_name P w base T 1 sp_is_name :=
  okD T.F_is_name sc_is_name fun cdv A outer s H E B cs Q hr hl hs => ⟨_, d_is_name T hr, by
    obtain ⟨z, rfl, hz, hq⟩ := hs
    rw [nokB, Bool.and_eq_true, Bool.and_eq_true, Bool.and_eq_true, decide_eq_true_eq, decide_eq_true_eq, List.all_eq_true, Bool.not_eq_true'] at hz
    obtain ⟨⟨h2, h8⟩, hw, hlt⟩ := hz
    have sz : z.length ≤ sizeLine := Nat.le_trans h8 (by decide)
    walk_at "w"
    walk_at "ei"
    have e1 : decide ((2 : Int) ≤ (z.length : Nat)) = true := decide_eq_true (by omega)
    have e2 : decide (((z.length : Nat) : Int) ≤ 8) = true := decide_eq_true (by omega)
    walk_at "w"
    rw [e1]
    walk_at "w"
    walk_at "ei"
    rw [e2]
    walk_at "w"
    refine ⟨rfl, by decide +kernel, ?_⟩
    conv =>
      arg 1
      tactic => exact hw
    walk_at "w"
    refine ⟨by rw [List.length_map, Array.length_toList]; exact sz, ?_⟩
    walk_at "w"
    refine name_comp _ z.cps.toList _ (fun c m => by simpa using hlt c m) ?_
    walk_at "w"
    refine ⟨_, map_tt _, ?_⟩
    rw [all_tt]
    exact ⟨[.none], rfl, ⟨trivial, outs_nil⟩, hq⟩⟩
def KND : List Str := ["number", "row", "text", "tree"]
/-- right needs -/
structure Nds (nd : List (Str × Str)) : Prop where
  le : nd.length ≤ 6
  nm : ∀ p ∈ nd, nokB p.1 = true
  kd : ∀ p ∈ nd, p.2 ∈ KND
  nu : (nd.map fun p => p.1).Nodup
def sp_are_needs : FSpec := fun cs Q => ∃ nd : List (Str × Str), cs = [.val (ndD nd)] ∧ Nds nd ∧ Q (.bl true) [.none]
theorem nin_kinds {z : Str} (h : z ∈ KND) : ([D.str "number", .str "row", .str "text", .str "tree"].any fun y => eqF y (.str z)) = true := by
  have key : ∀ z ∈ KND, ([D.str "number", .str "row", .str "text", .str "tree"].any fun y => eqF y (.str z)) = true := by decide +kernel
  exact key z h
set_option maxHeartbeats 4000000 in
theorem needs_loop (c0 : Cell) (DD : DEnds) (h : ∀ c1, DD.nx [c0, c1]) : ∀ (nd : List (Str × Str)) (c1 : Cell), (∀ p ∈ nd, nokB p.1 = true) → (∀ p ∈ nd, p.2 ∈ KND) →
    forL (fun x DD env => gN 1 x env fun env2 => t_are_needs_1 sp_is_name DD env2) (nd.map nD) DD [c0, c1]
  | [], c1, _, _ => by
    walk_at "fn"
    exact h _
  | p :: r, c1, h1, h2 => by
    have ih := fun c1 => needs_loop c0 DD h r c1 (fun q m => h1 q (List.mem_cons_of_mem _ m)) (fun q m => h2 q (List.mem_cons_of_mem _ m))
    have np := h1 p List.mem_cons_self
    walk_at "fc"
    walk_at "ei"
    rw [nin_kinds (h2 p List.mem_cons_self)]
    walk_at "w"
    exact ih _
set_option maxHeartbeats 4000000 in
theorem needs_comp (c0 : Cell) : ∀ (nd : List (Str × Str)) (Q : List D → DEnv → Prop), Q (nd.map fun p => .str p.1) [c0, .none] →
    mapL [1] (gN 1) qYes (t_are_needs_2 sp_is_name) (nd.map nD) [c0, .none] Q
  | [], Q, h => by
    walk_at "mn"
    exact h
  | d :: r, Q, h => by
    walk_at "mc"
    refine ⟨_, atI_nat (j := 0) rfl, ?_⟩
    walk_at "w"
    exact needs_comp c0 r _ h
set_option maxHeartbeats 4000000 in
theorem ok_are_needs (T : Txt K w mg) : K_are_needs P w base T 2 sp_are_needs :=
  okD T.F_are_needs sc_are_needs fun cdv A outer s H E B cs Q hr hl hs => ⟨_, d_are_needs T (ok_is_name T) (by decide) hr, by
    obtain ⟨nd, rfl, ⟨h6, hn, hk, hu⟩, hq⟩ := hs
    have e1 : decide ((6 : Int) < ((nd.map nD).length : Nat)) = false := decide_eq_false (by rw [List.length_map]; omega)
    have sz : (nd.map nD).length ≤ sizeLine := by rw [List.length_map]; exact Nat.le_trans h6 (by decide)
    walk_at "w"
    walk_at "ei"
    rw [e1]
    walk_at "w"
    walk_at "ei"
    refine needs_loop _ _ (fun c1 => ?_) nd _ hn hk
    walk_at "w"
    walk_at "ei"
    refine needs_comp _ nd _ ?_
    walk_at "w"
    refine ⟨nd.map fun p => p.1, by rw [List.map_map]; rfl, hu, by rw [List.length_map]; omega, ?_⟩
    walk_at "w"
    have e2 : decide ((((nd.map fun p => p.1).length : Nat) : Int) = ((nd.map nD).length : Nat)) = true := decide_eq_true (by rw [List.length_map, List.length_map])
    rw [e2]
    exact ⟨[.none], rfl, ⟨trivial, outs_nil⟩, hq⟩⟩
theorem atI_in {xs : List D} {r : Int} (h0 : 0 ≤ r) (h1 : r < (xs.length : Int)) : ∃ x, atI xs r = some x ∧ x ∈ xs := by
  have h3 : r.toNat < xs.length := by omega
  refine ⟨xs[r.toNat], ?_, List.getElem_mem _⟩
  have := atI_nat (xs := xs) (List.getElem?_eq_getElem h3)
  rwa [Int.toNat_of_nonneg h0] at this
/-- all of a row -/
def AllP (p : D → Prop) : List D → Prop
  | [] => True
  | x :: xs => p x ∧ AllP p xs
theorem AllP.mem {p : D → Prop} : ∀ {xs : List D}, AllP p xs → ∀ x ∈ xs, p x
  | _ :: _, h, x, m => by
    rcases List.mem_cons.mp m with e | m
    · rw [e]; exact h.1
    · exact AllP.mem h.2 x m
theorem AllP.of {p : D → Prop} : ∀ {xs : List D}, (∀ x ∈ xs, p x) → AllP p xs
  | [], _ => trivial
  | _ :: _, h => ⟨h _ List.mem_cons_self, AllP.of fun x m => h x (List.mem_cons_of_mem _ m)⟩
/-- an item is picked -/
theorem pick {xs : List D} {r : Int} {G : D → Prop} (p : D → Prop) (h0 : 0 ≤ r) (h1 : r < (xs.length : Int)) (hp : AllP p xs) (k : ∀ x, p x → G x) : ∃ d, atI xs r = some d ∧ G d := by
  obtain ⟨x, hx, m⟩ := atI_in h0 h1
  exact ⟨x, hx, k x (hp.mem x m)⟩
def hdB : List D → Bool
  | .str z :: _ => HD.contains z
  | _ => true
/-- Wf, reckoned -/
def wfB (L : Nat) : Nat → D → Bool
  | _, .atm _ => false
  | _, .scr _ => false
  | 0, .tup _ => false
  | n + 1, .tup ds => decide (ds.length ≤ L) && (hdB ds && ds.all (wfB L n))
  | _, _ => true
theorem wfB_wf {L : Nat} : ∀ {n : Nat} {d : D}, wfB L n d = true → Wf L n d
  | 0, .tup ds, h => by cases h
  | n + 1, .tup ds, h => by
    have h : (decide (ds.length ≤ L) && (hdB ds && ds.all (wfB L n))) = true := h
    rw [Bool.and_eq_true, Bool.and_eq_true, decide_eq_true_eq, List.all_eq_true] at h
    exact ⟨h.1, fun z r e => by subst e; exact h.2.1, fun d m => wfB_wf (h.2.2 d m)⟩
  | n, .atm v, h => by cases n <;> cases h
  | n, .scr v, h => by cases n <;> cases h
  | n, .non, _ => by cases n <;> trivial
  | n, .bl _, _ => by cases n <;> trivial
  | n, .int _, _ => by cases n <;> trivial
  | n, .str _, _ => by cases n <;> trivial
  | n, .lst _, _ => by cases n <;> trivial
  | n, .dct _, _ => by cases n <;> trivial
theorem own_s {nd : List (Str × Str)} {r m : Int} (h0 : 0 ≤ r) (h1 : r < m) : isS nd m (.tup [.str "own", .int r]) = true := by
  show (true && ((decide (0 ≤ r) && decide (r < m)) && true)) = true
  rw [decide_eq_true h0, decide_eq_true h1]; rfl
theorem many_s {nd : List (Str × Str)} {m : Int} {a : D} (h : isS nd m a = true) : isS nd m (.tup [.str "many", a]) = true := by
  show (true && (isS nd m a && true)) = true
  rw [h]; rfl
theorem Wf.two {L n : Nat} {z : Str} {a b : D} (hL : 3 ≤ L) (hz : HD.contains z = true) (ha : Wf L n a) (hb : Wf L n b) : Wf L (n + 1) (.tup [.str z, a, b]) :=
  ⟨hL, fun z' r e => by cases e; exact hz, fun d m => by
    rcases List.mem_cons.mp m with e | m
    · rw [e]; cases n <;> trivial
    · rcases List.mem_cons.mp m with e | m
      · rw [e]; exact ha
      · rw [List.mem_singleton.mp m]; exact hb⟩
theorem Wf.one {L n : Nat} {z : Str} {a : D} (hL : 2 ≤ L) (hz : HD.contains z = true) (ha : Wf L n a) : Wf L (n + 1) (.tup [.str z, a]) :=
  ⟨hL, fun z' r e => by cases e; exact hz, fun d m => by
    rcases List.mem_cons.mp m with e | m
    · rw [e]; cases n <;> trivial
    · rw [List.mem_singleton.mp m]; exact ha⟩
/-! ### right sums, conditions, bodies: their depth -/
theorem Ht.mono : ∀ {n m : Nat} {d : D}, n ≤ m → Ht n d → Ht m d
  | 0, m, .tup ds, _, h => h.elim
  | n + 1, 0, .tup ds, l, _ => absurd l (Nat.not_succ_le_zero n)
  | n + 1, m + 1, .tup ds, l, h => ⟨h.1, fun d hd => Ht.mono (Nat.le_of_succ_le_succ l) (h.2 d hd)⟩
  | n, m, .atm v, _, h => by cases n <;> exact h.elim
  | n, m, .scr v, _, h => by cases n <;> exact h.elim
  | n, m, .lst v, _, h => by cases n <;> exact h.elim
  | n, m, .dct v, _, h => by cases n <;> exact h.elim
  | n, m, .non, _, _ => by cases m <;> trivial
  | n, m, .bl _, _, _ => by cases m <;> trivial
  | n, m, .int _, _, _ => by cases m <;> trivial
  | n, m, .str _, _, _ => by cases m <;> trivial
theorem Ht.int (n : Nat) (i : Int) : Ht n (.int i) := by cases n <;> trivial
theorem Ht.str (n : Nat) (z : Str) : Ht n (.str z) := by cases n <;> trivial
theorem Ht.wrd {n : Nat} {w : Str} {ds : List D} (l : ds.length < 1000) (h : ∀ d ∈ ds, Ht n d) : Ht (n + 1) (.tup (.str w :: ds)) :=
  ⟨⟨Nat.succ_pos _, l⟩, fun d m => by
    rcases List.mem_cons.mp m with e | m
    · rw [e]; exact Ht.str _ _
    · exact h d m⟩
theorem Ht.w1 {n : Nat} {w : Str} {a : D} (ha : Ht n a) : Ht (n + 1) (.tup [.str w, a]) := Ht.wrd (show 1 < 1000 by decide) fun d m => by rw [List.mem_singleton.mp m]; exact ha
theorem Ht.w2 {n : Nat} {w : Str} {a b : D} (ha : Ht n a) (hb : Ht n b) : Ht (n + 1) (.tup [.str w, a, b]) := Ht.wrd (show 2 < 1000 by decide) fun d m => by
  rcases List.mem_cons.mp m with e | m
  · rw [e]; exact ha
  · rw [List.mem_singleton.mp m]; exact hb
theorem Ht.w3 {n : Nat} {w : Str} {a b c : D} (ha : Ht n a) (hb : Ht n b) (hc : Ht n c) : Ht (n + 1) (.tup [.str w, a, b, c]) := Ht.wrd (show 3 < 1000 by decide) fun d m => by
  rcases List.mem_cons.mp m with e | m
  · rw [e]; exact ha
  · rcases List.mem_cons.mp m with e | m
    · rw [e]; exact hb
    · rw [List.mem_singleton.mp m]; exact hc
theorem kindN_str : ∀ (nd : List (Str × Str)) (d : D), kindN nd d ≠ "" → ∃ z, d = .str z
  | [], d, h => absurd rfl h
  | p :: r, d, h => by
    cases d with
    | str z => exact ⟨z, rfl⟩
    | _ => exact kindN_str r _ h
theorem leaf_ht {nd : List (Str × Str)} {own : Int} {k : Str} {d : D} (hk : k ∈ KS) (hs : k ≠ "s") (h : leafP nd own k d = true) (n : Nat) : Ht n d := by
  have hn : ∀ {d : D}, isW d = true → Ht n d := fun {d} h => by
    cases d with
    | int i => exact Ht.int _ _
    | _ => cases h
  have ho : ∀ {d : D}, isO own d = true → Ht n d := fun {d} h => by
    cases d with
    | int i => exact Ht.int _ _
    | _ => cases h
  have hx : kin k "" = false → kin k (kindN nd d) = true → Ht n d := fun e h => by
    obtain ⟨z, rfl⟩ := kindN_str nd d fun e2 => by rw [e2, e] at h; cases h
    exact Ht.str _ _
  rcases KS_cases hk with rfl | rfl | rfl | rfl | rfl | rfl | rfl
  · exact absurd rfl hs
  · exact hn h
  · exact ho h
  all_goals exact hx (by decide +kernel) h
theorem isPs_ht {nd : List (Str × Str)} {own : Int} {n : Nat} (rec : ∀ d, Wf 4 n d → isS nd own d = true → Ht n d) : ∀ (ds : List D) (ks : List Str), (∀ d ∈ ds, Wf 4 n d) → (∀ k ∈ ks, k ∈ KS) → isPs nd own ds ks = true → ∀ d ∈ ds, Ht n d
  | [], _, _, _, _, d, m => by cases m
  | _ :: _, [], _, _, h, _, _ => by rw [isPs] at h <;> first | cases h | (intros; simp_all)
  | e :: ds, k :: ks, hw, hk, h, d, m => by
    rw [isPs_cons, Bool.and_eq_true] at h
    rcases List.mem_cons.mp m with rfl | m
    · by_cases hs : k = "s"
      · subst hs
        exact rec d (hw d List.mem_cons_self) h.1
      · have h1 := h.1
        rw [partP, decide_eq_false hs] at h1
        exact leaf_ht (hk k List.mem_cons_self) hs h1 n
    · exact isPs_ht rec ds ks (fun d m => hw d (List.mem_cons_of_mem _ m)) (fun k m => hk k (List.mem_cons_of_mem _ m)) h.2 d m
theorem sum_ht {nd : List (Str × Str)} {own : Int} : ∀ (n : Nat) (d : D), Wf 4 n d → isS nd own d = true → Ht n d
  | 0, d, hw, h => by
    cases d with
    | tup ds => exact hw.elim
    | _ => cases h
  | n + 1, d, hw, h => by
    cases d with
    | tup ds =>
      cases ds with
      | nil =>
        have h : isT nd own [] = true := h
        rw [isT] at h
        · cases h
        · intro z r e; cases e
      | cons x ds =>
        have h : isT nd own (x :: ds) = true := h
        cases x with
        | str z =>
          rw [isT, Bool.and_eq_true] at h
          obtain ⟨hl, hh, hp⟩ := hw
          refine Ht.wrd (Nat.lt_of_lt_of_le (Nat.lt_of_lt_of_le (Nat.lt_succ_self _) hl) (by decide)) ?_
          refine isPs_ht (fun d => sum_ht n d) ds (formS z) (fun d m => hp d (List.mem_cons_of_mem _ m)) ?_ h.2
          rcases head_form (hh z ds rfl) with ⟨f, hf, hl3, hk⟩ | ⟨hf, hno⟩
          · intro k m
            rw [formS, hf] at m
            obtain ⟨c, hc, rfl⟩ := List.mem_map.mp m
            exact hk c hc
          · rw [hf] at h; cases h.1
        | _ =>
          rw [isT] at h
          · cases h
          · intro z r e; cases e
    | _ => cases h
theorem Sok.ht {nd : List (Str × Str)} {own S : Nat} {d : D} (h : Sok nd own S d) : Ht S d := sum_ht S d h.1 h.2
theorem Cok.ht {nd : List (Str × Str)} {own S n : Nat} {d : D} (h : Cok nd own S n d) : Ht (S + n) d := by
  induction h with
  | rel hw ha hb => exact Ht.w2 (ha.ht.mono (Nat.le_add_right _ _)) (hb.ht.mono (Nat.le_add_right _ _))
  | not h ih => exact Ht.w1 ih
  | two hw ha hb iha ihb => exact Ht.w2 iha ihb
theorem Bok.ht {nd : List (Str × Str)} {cn : List Nat} (hcn : ∀ c ∈ cn, 1 ≤ c ∧ c ≤ 3) {S n own t : Nat} {d : D} (h : Bok nd cn S n own t d) : Ht (2 * S + 2 * n) d := by
  induction h with
  | none => exact Ht.wrd (n := _) (show 0 < 1000 by decide) fun d m => by cases m
  | @gain n _ _ s h => exact Ht.w1 (n := 2 * S + 2 * n + 1) (h.ht.mono (by omega))
  | @call n _ _ g as hg h =>
    have hb := hcn _ (List.mem_of_getElem? hg)
    exact Ht.w2 (n := 2 * S + 2 * n + 1) (Ht.int _ _) ⟨⟨by omega, by omega⟩, fun d m => (h d m).ht.mono (by omega)⟩
  | @choose n _ _ bs h1 h4 h ih => exact Ht.w1 (n := 2 * S + 2 * n + 1) ⟨⟨h1, by omega⟩, fun d m => ih d m⟩
  | @turn n _ _ w lo hi b hw ht hl hh hb ih => exact Ht.w3 (n := 2 * S + 2 * n + 1) (hl.ht.mono (by omega)) (hh.ht.mono (by omega)) (ih.mono (by omega))
  | @both n _ _ a b ha hb iha ihb => exact Ht.w2 (n := 2 * S + 2 * n + 1) (iha.mono (by omega)) (ihb.mono (by omega))
  | @ite n _ _ c a b hc ha hb iha ihb => exact Ht.w3 (n := 2 * S + 2 * n + 1) (hc.ht.mono (by omega)) (iha.mono (by omega)) (ihb.mono (by omega))
/-! ### mosts -/
inductive Mok (nd : List (Str × Str)) : Nat → D → Prop
  | num {n : Nat} {i : Int} (h : 0 ≤ i) : Mok nd (n + 1) (.tup [.str "num", .int i])
  | need {n : Nat} {z : Str} (h : isS nd 0 (.tup [.str "need", .str z]) = true) : Mok nd (n + 1) (.tup [.str "need", .str z])
  | size {n : Nat} {z : Str} (h : isS nd 0 (.tup [.str "size", .str z]) = true) : Mok nd (n + 1) (.tup [.str "size", .str z])
  | full {n : Nat} {z : Str} (h : isS nd 0 (.tup [.str "size", .str z]) = true) : Mok nd (n + 1) (.tup [.str "full", .tup [.str "size", .str z]])
  | two {n : Nat} {w : Str} {a b : D} (hw : w = "plus" ∨ w = "less") (ha : Mok nd n a) (hb : Mok nd n b) : Mok nd (n + 1) (.tup [.str w, a, b])
theorem Wf.leaf {n : Nat} {w z : Str} (hw : HD.contains w = true) : Wf 4 (n + 1) (.tup [.str w, .str z]) := Wf.one (by decide) hw (by cases n <;> trivial)
theorem Mok.sok {nd : List (Str × Str)} {n : Nat} {d : D} (h : Mok nd n d) : Sok nd 0 (n + 1) d := by
  induction h with
  | @num n i h => exact ⟨Wf.one (by decide) (by decide +kernel) (by cases n <;> trivial), rfl⟩
  | need h => exact ⟨Wf.leaf (by decide +kernel), h⟩
  | size h => exact ⟨Wf.leaf (by decide +kernel), h⟩
  | full h => exact ⟨Wf.one (by decide) (by decide +kernel) (Wf.leaf (by decide +kernel)), show (true && (isS nd 0 (.tup [.str "size", .str _]) && true)) = true by rw [h]; rfl⟩
  | @two n w a b hw ha hb iha ihb =>
    rcases hw with rfl | rfl
    all_goals exact ⟨Wf.two (by decide) (by decide +kernel) iha.1 ihb.1, show (true && (isS nd 0 a && (isS nd 0 b && true))) = true by rw [show isS nd 0 a = true from iha.2, show isS nd 0 b = true from ihb.2]; rfl⟩
def sp_is_most (n : Nat) : FSpec := fun cs Q => ∃ (d : D) (nd : List (Str × Str)), cs = [.val d, .val (ndD nd)] ∧ Mok nd n d ∧ Q (.bl true) [.none, .none]
def sp_im : Nat → FSpec
  | 0 => fun _ _ => False
  | n + 1 => sp_is_most n
theorem no_is_most (T : Txt K w mg) : K_is_most P w base T 1 (fun _ _ => False) := okD T.F_is_most sc_is_most fun _ _ _ _ _ _ _ _ _ _ _ hs => hs.elim
set_option maxHeartbeats 8000000 in
theorem most_step (T : Txt K w mg) {k S n : Nat} (hS : n + 1 ≤ S) (h2 : 2 * S + 2 ≤ k) (G : K_is_most P w base T k (sp_im n)) : K_is_most P w base T (k + 1) (sp_is_most n) :=
  okD T.F_is_most sc_is_most fun cdv A outer s H E B cs Q hr hl hs => ⟨_, d_is_most T (ok_is_sum T 4 S) h2 G (Nat.le_refl _) hr, by
    obtain ⟨d, nd, rfl, hm, hq⟩ := hs
    have fin : ∀ {env : DEnv}, Outs env [.none, .none] → ∃ cs' : List Cell, cs'.length = 2 ∧ Outs env cs' ∧ Q (.bl true) cs' := fun o => ⟨_, rfl, o, hq⟩
    have hs := (hm.sok).up hS
    walk_at "w"
    refine ⟨d, nd, 0, rfl, hs.1, fun b hb => ?_⟩
    rw [show isS nd 0 d = true from hs.2] at hb
    subst hb
    cases hm with
    | @num n i h =>
      walk_at "w"
      walk_at "ei"
      rw [decide_eq_true h]
      exact fin ⟨trivial, trivial, outs_nil⟩
    | @need n z h =>
      walk_at "w"
      walk_at "ei"
      exact fin ⟨trivial, trivial, outs_nil⟩
    | @size n z h =>
      walk_at "w"
      walk_at "ei"
      exact fin ⟨trivial, trivial, outs_nil⟩
    | @full n z h =>
      walk_at "w"
      walk_at "ei"
      exact fin ⟨trivial, trivial, outs_nil⟩
    | @two n w a b hw ha hb =>
      rcases hw with rfl | rfl
      all_goals
        walk_at "w"
        walk_at "ei"
        exact fin ⟨trivial, trivial, outs_nil⟩⟩
theorem ok_is_most (T : Txt K w mg) (S : Nat) : ∀ n : Nat, n + 1 ≤ S → K_is_most P w base T (2 * S + 3 + n) (sp_is_most n)
  | 0, h => most_step T h (Nat.le_refl _) ((no_is_most T).mono (by omega))
  | n + 1, h => most_step T h (show 2 * S + 2 ≤ 2 * S + 3 + n by omega) (ok_is_most T S n (by omega))
/-! ### functions -/
structure Fn where
  nm : Str
  ms : List D
  bd : D
def fD (f : Fn) : D := .tup [.str f.nm, .tup f.ms, f.bd]
/-- a right function but for its body -/
structure Hok (nd : List (Str × Str)) (M : Nat) (f : Fn) : Prop where
  nk : nokB f.nm = true
  kn : kindN nd (.str f.nm) = ""
  m1 : 1 ≤ f.ms.length
  m3 : f.ms.length ≤ 3
  mo : ∀ d ∈ f.ms, Mok nd M d
  mc : ∀ d ∈ f.ms, cnt d ≤ 12
def sp_is_head (M : Nat) : FSpec := fun cs Q => ∃ (f : Fn) (nd : List (Str × Str)), cs = [.val (fD f), .val (ndD nd)] ∧ Hok nd M f ∧ Q (.bl true) [.none, .none]
set_option maxHeartbeats 4000000 in
theorem head_comp (M : Nat) (nd : List (Str × Str)) (c0 : Cell) : ∀ (ds : List D) (Q : List D → DEnv → Prop), (∀ d ∈ ds, Mok nd M d) → (∀ d ∈ ds, cnt d ≤ 12) → Q (ds.map fun _ => .bl true) [c0, .val (ndD nd), .none] →
    mapL [2] (gN 2) qYes (t_is_head_1 sp_is_name sp_kind_of (sp_is_most M) (sp_count_parts (M + 1))) ds [c0, .val (ndD nd), .none] Q
  | [], Q, _, _, h => by
    walk_at "mn"
    exact h
  | d :: r, Q, hm, hc, h => by
    have hd := hm d List.mem_cons_self
    walk_at "mc"
    refine ⟨d, nd, rfl, hd, ?_⟩
    walk_at "w"
    refine ⟨d, rfl, hd.sok.ht, fun v hv => ?_⟩
    subst hv
    have e : decide (((cnt d : Nat) : Int) ≤ 12) = true := decide_eq_true (by have := hc d List.mem_cons_self; omega)
    walk_at "w"
    rw [e]
    exact head_comp M nd c0 r _ (fun d m => hm d (List.mem_cons_of_mem _ m)) (fun d m => hc d (List.mem_cons_of_mem _ m)) h
set_option maxHeartbeats 4000000 in
theorem ok_is_head (T : Txt K w mg) (S M : Nat) (hM : M + 1 ≤ S) : K_is_head P w base T (3 * S + 3) (sp_is_head M) :=
  okD T.F_is_head sc_is_head fun cdv A outer s H E B cs Q hr hl hs => ⟨_, d_is_head T (ok_is_name T) (by omega) (ok_kind_of T) (by omega) (ok_is_most T S M hM) (by omega) (ok_count_parts T (M + 1)) (by omega) hr, by
    obtain ⟨f, nd, rfl, ⟨nk, kn, m1, m3, mo, mc⟩, hq⟩ := hs
    have e1 : decide ((1 : Int) ≤ (f.ms.length : Nat)) = true := decide_eq_true (by omega)
    have e2 : decide (((f.ms.length : Nat) : Int) ≤ 3) = true := decide_eq_true (by omega)
    have sz : f.ms.length ≤ sizeLine := Nat.le_trans m3 (by decide)
    walk_at "w"
    walk_at "ei"
    rename_i z hz
    rw [kn] at hz
    subst hz
    walk_at "w"
    walk_at "ei"
    rw [e1]
    walk_at "w"
    walk_at "ei"
    rw [e2]
    walk_at "w"
    walk_at "ei"
    refine head_comp M nd _ f.ms _ mo mc ?_
    walk_at "w"
    refine ⟨_, map_tt _, ?_⟩
    rw [all_tt]
    exact ⟨[.none, .none], rfl, ⟨trivial, trivial, outs_nil⟩, hq⟩⟩
/-- right functions -/
structure Fok (nd : List (Str × Str)) (M S n : Nat) (fs : List Fn) : Prop where
  l1 : 1 ≤ fs.length
  l4 : fs.length ≤ 4
  hd : ∀ f ∈ fs, Hok nd M f
  nu : (fs.map fun f => f.nm).Nodup
  bo : ∀ f ∈ fs, Bok nd (fs.map fun f => f.ms.length) S n f.ms.length 0 f.bd
  bc : ∀ f ∈ fs, cnt f.bd ≤ 60
  bd : ∀ f ∈ fs, dpt f.bd ≤ 12
def sp_are_functions (M S n : Nat) : FSpec := fun cs Q => ∃ (fs : List Fn) (nd : List (Str × Str)), cs = [.val (.tup (fs.map fD)), .val (ndD nd)] ∧ Fok nd M S n fs ∧ Q (.bl true) [.none, .none]
section
variable (s1 s2 s3 s4 : FSpec)
set_option maxHeartbeats 4000000 in
theorem fun_comp1 (M : Nat) (nd : List (Str × Str)) (c0 c2 c3 c4 c5 : Cell) : ∀ (fs : List Fn) (Q : List D → DEnv → Prop), (∀ f ∈ fs, Hok nd M f) → Q (fs.map fun _ => .bl true) [c0, .val (ndD nd), c2, c3, c4, c5, .none] →
    mapL [6] (gN 6) qYes (t_are_functions_1 (sp_is_head M) s2 s3 s4) (fs.map fD) [c0, .val (ndD nd), c2, c3, c4, c5, .none] Q
  | [], Q, _, h => by
    walk_at "mn"
    exact h
  | f :: r, Q, hm, h => by
    walk_at "mc"
    refine ⟨f, nd, rfl, hm f List.mem_cons_self, ?_⟩
    walk_at "w"
    exact fun_comp1 M nd c0 c2 c3 c4 c5 r _ (fun d m => hm d (List.mem_cons_of_mem _ m)) h
set_option maxHeartbeats 4000000 in
theorem fun_comp2 (c0 c1 c2 c3 c4 c5 : Cell) : ∀ (fs : List Fn) (Q : List D → DEnv → Prop), Q (fs.map fun f => .str f.nm) [c0, c1, c2, c3, c4, c5, .none] →
    mapL [6] (gN 6) qYes (t_are_functions_2 s1 s2 s3 s4) (fs.map fD) [c0, c1, c2, c3, c4, c5, .none] Q
  | [], Q, h => by
    walk_at "mn"
    exact h
  | f :: r, Q, h => by
    walk_at "mc"
    walk_at "ei"
    exact fun_comp2 c0 c1 c2 c3 c4 c5 r _ h
set_option maxHeartbeats 4000000 in
theorem fun_comp3 (c0 c1 c2 c3 c4 c5 : Cell) : ∀ (fs : List Fn) (Q : List D → DEnv → Prop), Q (fs.map fun f => .int (f.ms.length : Nat)) [c0, c1, c2, c3, c4, c5, .none] →
    mapL [6] (gN 6) qYes (t_are_functions_3 s1 s2 s3 s4) (fs.map fD) [c0, c1, c2, c3, c4, c5, .none] Q
  | [], Q, h => by
    walk_at "mn"
    exact h
  | f :: r, Q, h => by
    walk_at "mc"
    walk_at "ei"
    exact fun_comp3 c0 c1 c2 c3 c4 c5 r _ h
end
set_option maxHeartbeats 4000000 in
theorem fun_loop (S n : Nat) (s1 : FSpec) (nd : List (Str × Str)) (cn : List Nat) (hcn : ∀ c ∈ cn, 1 ≤ c ∧ c ≤ 3) (c0 c1 c6 : Cell) (DD : DEnds) (h : ∀ c3 c4 c5, DD.nx [c0, c1, .val (hD nd cn), c3, c4, c5, c6]) : ∀ (fs : List Fn) (c3 c4 c5 : Cell),
    (∀ f ∈ fs, Bok nd cn S n f.ms.length 0 f.bd) → (∀ f ∈ fs, cnt f.bd ≤ 60) → (∀ f ∈ fs, dpt f.bd ≤ 12) →
    forL (fun x DD env => gTupD 3 (gConsD (gN 3) (gConsD (gN 4) (gConsD (gN 5) gNilD))) x env fun env2 => t_are_functions_4 s1 (sp_is_body S n) (sp_count_parts (2 * S + 2 * n)) (sp_deepness (2 * S + 2 * n)) DD env2) (fs.map fD) DD [c0, c1, .val (hD nd cn), c3, c4, c5, c6]
  | [], c3, c4, c5, _, _, _ => by
    walk_at "fn"
    exact h _ _ _
  | f :: r, c3, c4, c5, hb, hc, hd => by
    have ih := fun c3 c4 c5 => fun_loop S n s1 nd cn hcn c0 c1 c6 DD h r c3 c4 c5 (fun f m => hb f (List.mem_cons_of_mem _ m)) (fun f m => hc f (List.mem_cons_of_mem _ m)) (fun f m => hd f (List.mem_cons_of_mem _ m))
    have b := hb f List.mem_cons_self
    have e1 : decide ((60 : Int) < (cnt f.bd : Nat)) = false := decide_eq_false (by have := hc f List.mem_cons_self; omega)
    have e2 : decide ((12 : Int) < (dpt f.bd : Nat)) = false := decide_eq_false (by have := hd f List.mem_cons_self; omega)
    walk_at "fc"
    walk_at "ei"
    refine ⟨f.bd, nd, cn, f.ms.length, 0, rfl, fun c m => (hcn c m).2, b, ?_⟩
    walk_at "w"
    refine ⟨f.bd, rfl, b.ht hcn, fun v hv => ?_⟩
    subst hv
    walk_at "w"
    rw [e1]
    walk_at "w"
    refine ⟨f.bd, rfl, b.ht hcn, fun v hv => ?_⟩
    subst hv
    walk_at "w"
    rw [e2]
    walk_at "w"
    exact ih _ _ _
def fL (S n : Nat) : Nat := 3 * S + 2 * n + 6
set_option maxHeartbeats 4000000 in
theorem ok_are_functions (T : Txt K w mg) (S M n : Nat) (hM : M + 1 ≤ S) : K_are_functions P w base T (fL S n) (sp_are_functions M S n) :=
  okD T.F_are_functions sc_are_functions fun cdv A outer s H E B cs Q hr hl hs => ⟨_, d_are_functions T (ok_is_head T S M hM) (show 3 * S + 3 ≤ 3 * S + 2 * n + 5 by omega) (ok_is_body T S n) (show 3 * S + 5 + 2 * n ≤ 3 * S + 2 * n + 5 by omega) (ok_count_parts T (2 * S + 2 * n)) (show 2 * S + 2 * n + 2 ≤ 3 * S + 2 * n + 5 by omega) (ok_deepness T (2 * S + 2 * n)) (show 2 * S + 2 * n + 2 ≤ 3 * S + 2 * n + 5 by omega) hr, by
    obtain ⟨fs, nd, rfl, hf, hq⟩ := hs
    have l1 := hf.l1
    have l4 := hf.l4
    have hd := hf.hd
    have nu := hf.nu
    have lm : (fs.map fD).length = fs.length := List.length_map ..
    have e1 : decide ((1 : Int) ≤ ((fs.map fD).length : Nat)) = true := decide_eq_true (by omega)
    have e2 : decide ((((fs.map fD).length : Nat) : Int) ≤ 4) = true := decide_eq_true (by omega)
    have sz : (fs.map fD).length ≤ sizeLine := by rw [lm]; exact Nat.le_trans l4 (by decide)
    walk_at "w"
    walk_at "ei"
    rw [e1]
    walk_at "w"
    walk_at "ei"
    rw [e2]
    walk_at "w"
    walk_at "ei"
    refine fun_comp1 _ _ _ M nd _ _ _ _ _ fs _ hd ?_
    walk_at "w"
    refine ⟨_, map_tt _, ?_⟩
    rw [all_tt]
    walk_at "w"
    walk_at "ei"
    refine fun_comp2 _ _ _ _ _ _ _ _ _ _ fs _ ?_
    walk_at "w"
    refine ⟨fs.map fun f => f.nm, by rw [List.map_map]; rfl, nu, by rw [List.length_map]; omega, ?_⟩
    walk_at "w"
    have e3 : decide ((((fs.map fun f => f.nm).length : Nat) : Int) = ((fs.map fD).length : Nat)) = true := decide_eq_true (by rw [List.length_map, List.length_map])
    rw [e3]
    walk_at "w"
    walk_at "ei"
    refine fun_comp3 _ _ _ _ _ _ _ _ _ _ fs _ ?_
    have ec : (fs.map fun f => D.int (f.ms.length : Nat)) = (fs.map fun f => f.ms.length).map fun n => D.int (n : Nat) := by rw [List.map_map]; rfl
    rw [ec]
    walk_at "w"
    walk_at "ei"
    refine fun_loop S n _ nd (fs.map fun f => f.ms.length) (fun c m => ?_) _ _ _ _ (fun c3 c4 c5 => ?_) fs _ _ _ hf.bo hf.bc hf.bd
    · obtain ⟨f, hfm, rfl⟩ := List.mem_map.mp m
      exact ⟨(hd f hfm).m1, (hd f hfm).m3⟩
    walk_at "w"
    exact ⟨[.none, .none], rfl, ⟨trivial, trivial, outs_nil⟩, hq⟩⟩
/-- a right program -/
def pgD (nd : List (Str × Str)) (fs : List Fn) : D := .tup [ndD nd, .tup (fs.map fD)]
def sp_program_of (M S n : Nat) : FSpec := fun cs Q => ∃ (fs : List Fn) (nd : List (Str × Str)), cs = [.val (ndD nd), .val (.tup (fs.map fD))] ∧ Nds nd ∧ Fok nd M S n fs ∧ Q (pgD nd fs) [.none, .none]
set_option maxHeartbeats 4000000 in
theorem ok_program_of (T : Txt K w mg) (S M n : Nat) (hM : M + 1 ≤ S) : K_program_of P w base T (fL S n + 1) (sp_program_of M S n) :=
  okD T.F_program_of sc_program_of fun cdv A outer s H E B cs Q hr hl hs => ⟨_, d_program_of T (ok_are_needs T) (show 2 ≤ fL S n by unfold fL; omega) (ok_are_functions T S M n hM) (Nat.le_refl _) hr, by
    obtain ⟨fs, nd, rfl, hn, hf, hq⟩ := hs
    walk_at "w"
    refine ⟨nd, rfl, hn, ?_⟩
    walk_at "w"
    refine ⟨fs, nd, rfl, hf, ?_⟩
    walk_at "w"
    walk_at "ei"
    exact ⟨[.none, .none], rfl, ⟨trivial, trivial, outs_nil⟩, hq⟩⟩
/-! ### generic: counts, rights -/
theorem cnt_w1 (w : Str) (a : D) : cnt (.tup [.str w, a]) = 1 + cnt a := by
  rw [cnt_tup, cnts_cons, cnts_cons, cnts_nil, show cnt (.str w) = 0 by rw [cnt] <;> (intros; simp_all)]
  show 1 + _ = _
  omega
theorem cnt_w2 (w : Str) (a b : D) : cnt (.tup [.str w, a, b]) = 1 + cnt a + cnt b := by
  rw [cnt_tup, cnts_cons, cnts_cons, cnts_cons, cnts_nil, show cnt (.str w) = 0 by rw [cnt] <;> (intros; simp_all)]
  show 1 + _ = _
  omega
theorem cnt_w3 (w : Str) (a b c : D) : cnt (.tup [.str w, a, b, c]) = 1 + cnt a + cnt b + cnt c := by
  rw [cnt_tup, cnts_cons, cnts_cons, cnts_cons, cnts_cons, cnts_nil, show cnt (.str w) = 0 by rw [cnt] <;> (intros; simp_all)]
  show 1 + _ = _
  omega
theorem dpt_w1 (w : Str) (a : D) : dpt (.tup [.str w, a]) = 1 + dpt a := by
  rw [dpt_tup, dpts_cons, dpts_cons, dpts_nil, show dpt (.str w) = 0 by rw [dpt] <;> (intros; simp_all)]
  show 1 + _ = _
  simp
theorem dpt_w2 (w : Str) (a b : D) : dpt (.tup [.str w, a, b]) = 1 + max (dpt a) (dpt b) := by
  rw [dpt_tup, dpts_cons, dpts_cons, dpts_cons, dpts_nil, show dpt (.str w) = 0 by rw [dpt] <;> (intros; simp_all)]
  show 1 + _ = _
  simp
theorem dpt_w3 (w : Str) (a b c : D) : dpt (.tup [.str w, a, b, c]) = 1 + max (dpt a) (max (dpt b) (dpt c)) := by
  rw [dpt_tup, dpts_cons, dpts_cons, dpts_cons, dpts_cons, dpts_nil, show dpt (.str w) = 0 by rw [dpt] <;> (intros; simp_all)]
  show 1 + _ = _
  simp
theorem cnt_str (w : Str) : cnt (.str w) = 0 := by rw [cnt] <;> (intros; simp_all)
theorem cnt_int (i : Int) : cnt (.int i) = 0 := by rw [cnt] <;> (intros; simp_all)
theorem dpt_str (w : Str) : dpt (.str w) = 0 := by rw [dpt] <;> (intros; simp_all)
theorem dpt_int (i : Int) : dpt (.int i) = 0 := by rw [dpt] <;> (intros; simp_all)
theorem Mok.up {nd : List (Str × Str)} {n : Nat} {d : D} (h : Mok nd n d) : ∀ {m : Nat}, n ≤ m → Mok nd m d := by
  induction h with
  | num h => intro m l; cases m with | zero => omega | succ m => exact .num h
  | need h => intro m l; cases m with | zero => omega | succ m => exact .need h
  | size h => intro m l; cases m with | zero => omega | succ m => exact .size h
  | full h => intro m l; cases m with | zero => omega | succ m => exact .full h
  | two hw ha hb iha ihb => intro m l; cases m with | zero => omega | succ m => exact .two hw (iha (by omega)) (ihb (by omega))
theorem Wf.three {L n : Nat} {z : Str} {a b c : D} (hL : 4 ≤ L) (hz : HD.contains z = true) (ha : Wf L n a) (hb : Wf L n b) (hc : Wf L n c) : Wf L (n + 1) (.tup [.str z, a, b, c]) :=
  ⟨hL, fun z' r e => by cases e; exact hz, fun d m => by
    rcases List.mem_cons.mp m with e | m
    · rw [e]; cases n <;> trivial
    · rcases List.mem_cons.mp m with e | m
      · rw [e]; exact ha
      · rcases List.mem_cons.mp m with e | m
        · rw [e]; exact hb
        · rw [List.mem_singleton.mp m]; exact hc⟩
theorem wf_str {L n : Nat} (x : Str) : Wf L n (.str x) := by cases n <;> trivial
theorem wf_int {L n : Nat} (x : Int) : Wf L n (.int x) := by cases n <;> trivial
theorem Sok.num {nd : List (Str × Str)} {own n : Nat} (i : Int) : Sok nd own (n + 1) (.tup [.str "num", .int i]) := ⟨Wf.one (by decide) rfl (wf_int i), rfl⟩
theorem Sok.own {nd : List (Str × Str)} {own n : Nat} {i : Int} (h0 : 0 ≤ i) (h1 : i < (own : Nat)) : Sok nd own (n + 1) (.tup [.str "own", .int i]) := ⟨Wf.one (by decide) rfl (wf_int i), own_s h0 h1⟩
theorem Sok.two {nd : List (Str × Str)} {own n : Nat} {w : Str} {a b : D} (hw : HD.contains w = true) (ha : Sok nd own n a) (hb : Sok nd own n b)
    (he : isS nd (own : Nat) (.tup [.str w, a, b]) = (true && (isS nd (own : Nat) a && (isS nd (own : Nat) b && true)))) : Sok nd own (n + 1) (.tup [.str w, a, b]) :=
  ⟨Wf.two (by decide) hw ha.1 hb.1, by rw [he, ha.2, hb.2]; rfl⟩
theorem Sok.one {nd : List (Str × Str)} {own n : Nat} {w : Str} {a : D} (hw : HD.contains w = true) (ha : Sok nd own n a)
    (he : isS nd (own : Nat) (.tup [.str w, a]) = (true && (isS nd (own : Nat) a && true))) : Sok nd own (n + 1) (.tup [.str w, a]) :=
  ⟨Wf.one (by decide) hw ha.1, by rw [he, ha.2]; rfl⟩
theorem Fok.ht {nd : List (Str × Str)} {M S n : Nat} {fs : List Fn} (hM : M + 1 ≤ 2 * S + 2 * n) (h : Fok nd M S n fs) : ∀ f ∈ fs, Sm (2 * S + 2 * n + 2) (fD f) := fun f m => by
  have hd := h.hd f m
  have hcn : ∀ c ∈ (fs.map fun f => f.ms.length), 1 ≤ c ∧ c ≤ 3 := fun c mc => by
    obtain ⟨g, hg, rfl⟩ := List.mem_map.mp mc
    exact ⟨(h.hd g hg).m1, (h.hd g hg).m3⟩
  have hb : Ht (2 * S + 2 * n + 1) f.bd := ((h.bo f m).ht hcn).mono (Nat.le_succ _)
  refine .tup (.cons (.str _) (.cons (.tup (SmA_of fun d md => ?_)) (.cons hb.sm .nil)))
  exact ((hd.mo d md).sok.ht.mono hM).sm
theorem pg_sm {nd : List (Str × Str)} {M S n : Nat} {fs : List Fn} (hM : M + 1 ≤ 2 * S + 2 * n) (h : Fok nd M S n fs) : Sm (2 * S + 2 * n + 4) (pgD nd fs) := by
  refine .tup (.cons (.tup (SmA_of fun d m => ?_)) (.cons (.tup (SmA_of fun d m => ?_)) .nil))
  · obtain ⟨p, _, rfl⟩ := List.mem_map.mp m
    exact .tup (.cons (.str _) (.cons (.str _) .nil))
  · obtain ⟨f, hf, rfl⟩ := List.mem_map.mp m
    exact h.ht hM f hf
theorem Cok.up {nd : List (Str × Str)} {own S n : Nat} {d : D} (h : Cok nd own S n d) : ∀ {m : Nat}, n ≤ m → Cok nd own S m d := by
  induction h with
  | rel hw ha hb => intro m l; cases m with | zero => omega | succ m => exact .rel hw ha hb
  | not h ih => intro m l; cases m with | zero => omega | succ m => exact .not (ih (by omega))
  | two hw ha hb iha ihb => intro m l; cases m with | zero => omega | succ m => exact .two hw (iha (by omega)) (ihb (by omega))
theorem Bok.up {nd : List (Str × Str)} {cn : List Nat} {S n own t : Nat} {d : D} (h : Bok nd cn S n own t d) : ∀ {m : Nat}, n ≤ m → Bok nd cn S m own t d := by
  induction h with
  | none => intro m l; cases m with | zero => omega | succ m => exact .none
  | gain h => intro m l; cases m with | zero => omega | succ m => exact .gain h
  | call hg h => intro m l; cases m with | zero => omega | succ m => exact .call hg h
  | choose h1 h4 h ih => intro m l; cases m with | zero => omega | succ m => exact .choose h1 h4 fun b hb => ih b hb (by omega)
  | turn hw ht hl hh hb ih => intro m l; cases m with | zero => omega | succ m => exact .turn hw ht hl hh (ih (by omega))
  | both ha hb iha ihb => intro m l; cases m with | zero => omega | succ m => exact .both (iha (by omega)) (ihb (by omega))
  | ite hc ha hb iha ihb => intro m l; cases m with | zero => omega | succ m => exact .ite hc (iha (by omega)) (ihb (by omega))
theorem cnt_none : cnt (.tup [.str "none"]) = 1 := by
  rw [cnt_tup, cnts_cons, cnts_nil, cnt_str]; rfl
theorem dpt_none : dpt (.tup [.str "none"]) = 1 := by
  rw [dpt_tup, dpts_cons, dpts_nil, dpt_str]; rfl
/-- a row of bits, the low one first, and what it is worth -/
def Bits (l : List Int) : Prop := ∀ b ∈ l, b = 0 ∨ b = 1
def bval : List Int → Int
  | [] => 0
  | b :: r => b + 2 * bval r
theorem Bits.tail {b : Int} {r : List Int} (h : Bits (b :: r)) : Bits r := fun x m => h x (List.mem_cons_of_mem _ m)
theorem Bits.head {b : Int} {r : List Int} (h : Bits (b :: r)) : b = 0 ∨ b = 1 := h b List.mem_cons_self
theorem bval_pos : ∀ {l : List Int}, Bits l → 0 ≤ bval l
  | [], _ => Int.le_refl _
  | b :: r, h => by
    have := bval_pos h.tail
    have := h.head
    show 0 ≤ b + 2 * bval r
    omega
theorem zero_sum : ∀ {l : List Int}, Bits l → bval l = 0 → l.sum = 0
  | [], _, _ => rfl
  | b :: r, h, e => by
    have e : b + 2 * bval r = 0 := e
    have := bval_pos h.tail
    have := h.head
    have hb : b = 0 := by omega
    have hr : bval r = 0 := by omega
    rw [List.sum_cons, zero_sum h.tail hr, hb]; rfl
theorem sum_uniq : ∀ {l m : List Int}, Bits l → Bits m → bval l = bval m → l.sum = m.sum
  | [], m, _, hm, e => (zero_sum hm e.symm).symm
  | b :: r, [], hl, _, e => zero_sum hl e
  | b :: r, c :: s, hl, hm, e => by
    have e : b + 2 * bval r = c + 2 * bval s := e
    have := hl.head
    have := hm.head
    have hb : b = c := by omega
    have hr : bval r = bval s := by omega
    rw [List.sum_cons, List.sum_cons, hb, sum_uniq hl.tail hm.tail hr]
theorem bit_at : ∀ {l : List Int} (k : Nat), Bits l → bval l / 2 ^ k % 2 = l.getD k 0
  | [], k, _ => by
    show (0 : Int) / 2 ^ k % 2 = _
    rw [Int.zero_ediv]; simp
  | b :: r, 0, h => by
    have := h.head
    show (b + 2 * bval r) / 2 ^ 0 % 2 = b
    rw [Int.pow_zero, Int.ediv_one]
    omega
  | b :: r, k + 1, h => by
    have hb := h.head
    have ih := bit_at k h.tail
    show (b + 2 * bval r) / 2 ^ (k + 1) % 2 = r.getD k 0
    have e : (b + 2 * bval r) / 2 = bval r := by omega
    rw [← ih, Int.pow_succ, Int.mul_comm (2 ^ k) 2, ← Int.ediv_ediv_of_nonneg (by decide), e]
theorem bval_app : ∀ (l m : List Int), bval (l ++ m) = bval l + 2 ^ l.length * bval m
  | [], m => by show bval m = 0 + 2 ^ 0 * bval m; rw [Int.pow_zero]; omega
  | b :: r, m => by
    show b + 2 * bval (r ++ m) = (b + 2 * bval r) + 2 ^ (r.length + 1) * bval m
    rw [bval_app r m, Int.pow_succ, Int.mul_add, Int.mul_comm (2 ^ r.length) 2, Int.mul_assoc]
    omega
theorem bval_zeros : ∀ n : Nat, bval (List.replicate n 0) = 0
  | 0 => rfl
  | n + 1 => by show 0 + 2 * bval (List.replicate n 0) = 0; rw [bval_zeros n]; rfl
theorem bval_ones : ∀ n : Nat, bval (List.replicate n 1) = 2 ^ n - 1
  | 0 => rfl
  | n + 1 => by show 1 + 2 * bval (List.replicate n 1) = 2 ^ (n + 1) - 1; rw [bval_ones n, Int.pow_succ]; omega
theorem bval_set : ∀ (l : List Int) (k : Nat) (c : Int), k < l.length → bval (l.set k c) = bval l + 2 ^ k * (c - l.getD k 0)
  | b :: r, 0, c, _ => by show c + 2 * bval r = (b + 2 * bval r) + 2 ^ 0 * (c - b); rw [Int.pow_zero]; omega
  | b :: r, k + 1, c, h => by
    have ih := bval_set r k c (Nat.lt_of_succ_lt_succ h)
    show b + 2 * bval (r.set k c) = (b + 2 * bval r) + 2 ^ (k + 1) * (c - r.getD k 0)
    rw [ih, Int.mul_add, Int.pow_succ, Int.mul_comm (2 ^ k) 2, Int.mul_assoc]
    omega
/-- each number from 0 on has a row of bits -/
theorem bits_of : ∀ (n x : Nat), x ≤ n → ∃ l, Bits l ∧ bval l = x
  | 0, x, h => ⟨[], fun _ m => absurd m (by simp), by rw [show x = 0 by omega]; rfl⟩
  | n + 1, x, h => by
    by_cases e : x = 0
    · exact ⟨[], fun _ m => absurd m (by simp), by rw [e]; rfl⟩
    · obtain ⟨l, hl, hv⟩ := bits_of n (x / 2) (by omega)
      refine ⟨((x % 2 : Nat) : Int) :: l, fun b m => ?_, ?_⟩
      · rcases List.mem_cons.mp m with e | m
        · rw [e]; omega
        · exact hl b m
      · show ((x % 2 : Nat) : Int) + 2 * bval l = x
        rw [hv]; omega
/-! ### sums, what is given, what they come to -/
def MO : Int := 10 ^ 60
theorem MO_lit : (1000000000000000000000000000000000000000000000000000000000000 : Int) = MO := by decide +kernel
theorem MO_pow : (10 : Int) ^ Int.toNat 60 = MO := rfl
def Bd60 (i : Int) : Prop := -MO < i ∧ i < MO
instance (i : Int) : Decidable (Bd60 i) := by unfold Bd60; infer_instance
theorem MO_pos : 1000000 < MO := by rw [← MO_lit]; decide
theorem MO_big : 10000000000000000000000000000000 < MO := by rw [← MO_lit]; decide
theorem bd_big {i : Int} (h1 : -10000000000000000000000000000000 ≤ i) (h2 : i ≤ 10000000000000000000000000000000) : Bd60 i := by
  have := MO_big
  unfold Bd60
  omega
/-- what it comes to -/
inductive Rs where
  | ok (i : Int) | bad (x : Str)
def Rs.toD : Rs → D
  | .ok i => .int i
  | .bad x => .str x
def great : Rs → Rs
  | .ok i => if Bd60 i then .ok i else .bad "great"
  | .bad x => .bad x
theorem great_bd {r : Rs} {i : Int} (h : great r = .ok i) : Bd60 i := by
  cases r with
  | bad x => cases h
  | ok j =>
    have h : (if Bd60 j then Rs.ok j else .bad "great") = .ok i := h
    split at h
    · cases h; assumption
    · cases h
/-- a thing that is given -/
inductive Th where
  | num (i : Int) | row (l : List Int) | text (l : List Nat) | tree (l : List Int)
def tx (l : List Nat) : Str := ⟨(l.map fun i => 97 + i).toArray⟩
theorem tx_len (l : List Nat) : (tx l).length = l.length := by
  show (l.map fun i => 97 + i).toArray.size = _
  rw [List.size_toArray, List.length_map]
def Th.toD : Th → D
  | .num i => .int i
  | .row l => .lst (l.map D.int)
  | .text l => .str (tx l)
  | .tree l => .tup (l.map D.int)
def Th.kd : Th → Str
  | .num _ => "number"
  | .row _ => "row"
  | .text _ => "text"
  | .tree _ => "tree"
inductive Th.Ok : Th → Prop
  | num {i : Int} (h : Bd60 i) : Th.Ok (.num i)
  | row {l : List Int} (h : l.length ≤ 12) (b : ∀ i ∈ l, Bd60 i) : Th.Ok (.row l)
  | text {l : List Nat} (h : l.length ≤ 12) (b : ∀ i ∈ l, i < 26) : Th.Ok (.text l)
  | tree {l : List Int} (h : l.length ≤ 11) (b : ∀ (k : Nat) (p : Int), l[k]? = some p → 0 ≤ p ∧ p ≤ k) : Th.Ok (.tree l)
/-- what is given: names with things -/
abbrev Giv := List (Str × Th)
def gn (g : Giv) : List (Str × Str) := g.map fun p => (p.1, p.2.kd)
def kvD (g : Giv) : List (Key × D) := g.map fun p => (Sum.inr p.1, p.2.toD)
def gvD (g : Giv) : D := .dct (kvD g)
def oD (o : List Int) : D := .lst (o.map D.int)
def gget : Giv → Str → Th
  | [], _ => .num 0
  | p :: r, x => if p.1 = x then p.2 else gget r x
structure Gok (g : Giv) : Prop where
  nu : (g.map fun p => p.1).Nodup
  le : g.length ≤ 6
  ok : ∀ p ∈ g, p.2.Ok
theorem gfind : ∀ {g : Giv} {x k : Str}, (x, k) ∈ gn g → ((kvD g).find? fun (kv : Key × D) => decide (kv.1 = Sum.inr x)).map (·.2) = some (gget g x).toD
  | [], x, k, h => by cases h
  | p :: r, x, k, h => by
    show (((Sum.inr p.1, p.2.toD) :: kvD r).find? fun (kv : Key × D) => decide (kv.1 = Sum.inr x)).map (·.2) = some (if p.1 = x then p.2 else gget r x).toD
    by_cases e : p.1 = x
    · rw [if_pos e, List.find?_cons_of_pos (by simp [e])]; rfl
    · rw [if_neg e, List.find?_cons_of_neg (by simp [e])]
      refine gfind (k := k) ?_
      rcases List.mem_cons.mp h with z | m
      · cases z; exact absurd rfl e
      · exact m
theorem gget_mem : ∀ {g : Giv} {x k : Str}, (x, k) ∈ gn g → (x, gget g x) ∈ g
  | [], x, k, h => by cases h
  | p :: r, x, k, h => by
    show (x, (if p.1 = x then p.2 else gget r x)) ∈ p :: r
    by_cases e : p.1 = x
    · rw [if_pos e, ← e]; exact List.mem_cons_self
    · rw [if_neg e]
      rcases List.mem_cons.mp h with z | m
      · cases z; exact absurd rfl e
      · exact List.mem_cons_of_mem _ (gget_mem m)
theorem gget_kd : ∀ {g : Giv} {x k : Str}, (g.map fun p => p.1).Nodup → (x, k) ∈ gn g → (gget g x).kd = k
  | [], x, k, _, h => by cases h
  | p :: r, x, k, nu, h => by
    rw [List.map_cons, List.nodup_cons] at nu
    show (if p.1 = x then p.2 else gget r x).kd = k
    by_cases e : p.1 = x
    · rw [if_pos e]
      rcases List.mem_cons.mp h with z | m
      · cases z; rfl
      · exfalso
        apply nu.1
        rw [e]
        obtain ⟨q, hq, z⟩ := List.mem_map.mp m
        have z1 : q.1 = x := congrArg Prod.fst z
        rw [← z1]
        exact List.mem_map_of_mem (f := fun p : Str × Th => p.1) hq
    · rw [if_neg e]
      rcases List.mem_cons.mp h with z | m
      · cases z; exact absurd rfl e
      · exact gget_kd nu.2 m
theorem gget_ok {g : Giv} (hg : Gok g) {x k : Str} (h : (x, k) ∈ gn g) : (gget g x).Ok := hg.ok _ (gget_mem h)
/-- a sum -/
inductive Ex where
  | num (i : Int) | own (k : Nat) | need (x : Str) | size (x : Str) | plc (x : Str) (e : Ex) | kids (x : Str) (e : Ex) | kid (x : Str) (e f : Ex) | un (w : Str) (a : Ex) | bin (w : Str) (a b : Ex)
def Ex.toL : Ex → List D
  | .num i => [.str "num", .int i]
  | .own k => [.str "own", .int (k : Nat)]
  | .need x => [.str "need", .str x]
  | .size x => [.str "size", .str x]
  | .plc x e => [.str "at", .str x, .tup e.toL]
  | .kids x e => [.str "kids", .str x, .tup e.toL]
  | .kid x e f => [.str "kid", .str x, .tup e.toL, .tup f.toL]
  | .un w a => [.str w, .tup a.toL]
  | .bin w a b => [.str w, .tup a.toL, .tup b.toL]
def Ex.toD (t : Ex) : D := .tup t.toL
def Ex.dep : Ex → Nat
  | .plc _ e => e.dep + 1
  | .kids _ e => e.dep + 1
  | .kid _ e f => max e.dep f.dep + 1
  | .un _ a => a.dep + 1
  | .bin _ a b => max a.dep b.dep + 1
  | _ => 0
def unW : List Str := ["full", "many", "half"]
def biW : List Str := ["with", "without", "plus", "less", "times", "rest", "lesser", "greater"]
inductive Ex.Ok (nd : List (Str × Str)) (m : Nat) : Ex → Prop
  | num {i : Int} (h : Bd60 i) : Ex.Ok nd m (.num i)
  | own {k : Nat} (h : k < m) : Ex.Ok nd m (.own k)
  | need {x : Str} (h : (x, ("number" : Str)) ∈ nd) : Ex.Ok nd m (.need x)
  | size {x k : Str} (h : (x, k) ∈ nd) (hk : k = "row" ∨ k = "text" ∨ k = "tree") : Ex.Ok nd m (.size x)
  | plc {x k : Str} {e : Ex} (h : (x, k) ∈ nd) (hk : k = "row" ∨ k = "text") (he : Ex.Ok nd m e) : Ex.Ok nd m (.plc x e)
  | kids {x : Str} {e : Ex} (h : (x, ("tree" : Str)) ∈ nd) (he : Ex.Ok nd m e) : Ex.Ok nd m (.kids x e)
  | kid {x : Str} {e f : Ex} (h : (x, ("tree" : Str)) ∈ nd) (he : Ex.Ok nd m e) (hf : Ex.Ok nd m f) : Ex.Ok nd m (.kid x e f)
  | un {w : Str} {a : Ex} (hw : w ∈ unW) (ha : Ex.Ok nd m a) : Ex.Ok nd m (.un w a)
  | bin {w : Str} {a b : Ex} (hw : w ∈ biW) (ha : Ex.Ok nd m a) (hb : Ex.Ok nd m b) : Ex.Ok nd m (.bin w a b)
noncomputable def pop (i : Int) : Int := (Classical.choose (bits_of i.toNat i.toNat (Nat.le_refl _))).sum
theorem pop_of {l : List Int} (h : Bits l) : l.sum = pop (bval l) := by
  have c := Classical.choose_spec (bits_of (bval l).toNat (bval l).toNat (Nat.le_refl _))
  refine sum_uniq h c.1 ?_
  rw [c.2]
  have := bval_pos h
  omega
theorem sum_le : ∀ {l : List Int}, Bits l → 0 ≤ l.sum ∧ l.sum ≤ bval l
  | [], _ => ⟨Int.le_refl _, Int.le_refl _⟩
  | b :: r, h => by
    have := sum_le h.tail
    have := h.head
    have := bval_pos h.tail
    rw [List.sum_cons]
    show _ ∧ _ ≤ b + 2 * bval r
    omega
theorem bits_ex {i : Int} (h : 0 ≤ i) : ∃ l, Bits l ∧ bval l = i := by
  obtain ⟨l, h1, h2⟩ := bits_of i.toNat i.toNat (Nat.le_refl _)
  exact ⟨l, h1, by rw [h2]; omega⟩
theorem pop_step {i : Int} (h : 0 < i) : pop i = i % 2 + pop (i / 2) := by
  obtain ⟨l, h1, h2⟩ := bits_ex (show 0 ≤ i / 2 by omega)
  have hb : Bits (i % 2 :: l) := fun b m => by
    rcases List.mem_cons.mp m with e | m
    · rw [e]; omega
    · exact h1 b m
  have e : bval (i % 2 :: l) = i := by show i % 2 + 2 * bval l = i; rw [h2]; omega
  have := pop_of hb
  rw [e, List.sum_cons, pop_of h1, h2] at this
  exact this.symm
theorem pop_zero : pop 0 = 0 := by
  have := pop_of (l := []) (fun _ m => absurd m (by simp))
  exact this.symm
noncomputable def un1 (w : Str) (i : Int) : Rs :=
  if w = "full" then (if 0 ≤ i ∧ i ≤ 12 then .ok (2 ^ i.toNat - 1) else .bad "place")
  else if w = "many" then (if 0 ≤ i then .ok (pop i) else .bad "place") else .ok (i / 2)
def isB (i j : Int) : Prop := 0 ≤ i ∧ 0 ≤ j ∧ j ≤ 12
instance (i j : Int) : Decidable (isB i j) := by unfold isB; infer_instance
def two (w : Str) (i j : Int) : Rs :=
  if w = "plus" then .ok (i + j) else if w = "less" then .ok (i - j) else if w = "times" then .ok (i * j)
  else if w = "lesser" then .ok (if j < i then j else i) else if w = "greater" then .ok (if i < j then j else i)
  else if w = "rest" then (if j < 1 then .bad "nought" else .ok (i % j))
  else if isB i j then (if w = "with" then .ok (i + 2 ^ j.toNat * (1 - i / 2 ^ j.toNat % 2)) else .ok (i + 2 ^ j.toNat * (0 - i / 2 ^ j.toNat % 2))) else .bad "place"
/-- the children of a knot, the first one's number ahead -/
def chs (i : Int) : Int → List Int → List Int
  | _, [] => []
  | k, p :: r => if p = i then k :: chs i (k + 1) r else chs i (k + 1) r
def place (l : List Int) (i : Int) : Rs := if 0 ≤ i ∧ i < l.length then .ok (l.getD i.toNat 0) else .bad "place"
def codes (l : List Nat) : List Int := l.map fun (i : Nat) => (i : Int)
def Th.size : Th → Int
  | .num _ => 0
  | .row l => l.length
  | .text l => l.length
  | .tree l => l.length + 1
def Th.plc : Th → Int → Rs
  | .row l, i => place l i
  | .text l, i => place (codes l) i
  | _, _ => .bad "place"
def Th.par : Th → List Int
  | .tree l => l
  | _ => []
def Th.nm : Th → Int
  | .num i => i
  | _ => 0
def kidsR (l : List Int) (i : Int) : Rs := if 0 ≤ i ∧ i ≤ l.length then .ok (chs i 1 l).length else .bad "place"
def kidR (l : List Int) (i j : Int) : Rs := if 0 ≤ i ∧ i ≤ l.length then place (chs i 1 l) j else .bad "place"
def bnd (r : Rs) (f : Int → Rs) : Rs := match r with
  | .bad e => .bad e
  | .ok i => f i
theorem bnd_bad {r : Rs} {f : Int → Rs} {e : Str} (h : r = .bad e) : bnd r f = .bad e := by rw [h]; rfl
theorem bnd_ok {r : Rs} {f : Int → Rs} {i : Int} (h : r = .ok i) : bnd r f = f i := by rw [h]; rfl
noncomputable def Ex.val (g : Giv) (o : List Int) : Ex → Rs
  | .num i => .ok i
  | .own k => .ok (o.getD k 0)
  | .need x => .ok (gget g x).nm
  | .size x => .ok (gget g x).size
  | .plc x e => bnd (e.val g o) (gget g x).plc
  | .kids x e => bnd (e.val g o) (kidsR (gget g x).par)
  | .kid x e f => bnd (e.val g o) fun i => bnd (f.val g o) fun j => kidR (gget g x).par i j
  | .un w a => bnd (a.val g o) fun i => great (un1 w i)
  | .bin w a b => bnd (a.val g o) fun i => bnd (b.val g o) fun j => great (two w i j)
theorem bnd_inv {r : Rs} {f : Int → Rs} {v : Int} (h : bnd r f = .ok v) : ∃ i, r = .ok i ∧ f i = .ok v := by
  cases r with
  | bad e => cases h
  | ok i => exact ⟨i, rfl, h⟩
theorem chs_len (i : Int) : ∀ (l : List Int) (k : Int), (chs i k l).length ≤ l.length
  | [], k => Nat.le_refl _
  | p :: r, k => by
    have := chs_len i r (k + 1)
    unfold chs
    split
    · rw [List.length_cons, List.length_cons]; omega
    · rw [List.length_cons]; omega
theorem chs_mem (i : Int) : ∀ (l : List Int) (k : Int), ∀ x ∈ chs i k l, k ≤ x ∧ x < k + l.length
  | [], k, x, m => absurd m (by unfold chs; simp)
  | p :: r, k, x, m => by
    have ih := chs_mem i r (k + 1) x
    unfold chs at m
    rw [List.length_cons]
    split at m
    · rcases List.mem_cons.mp m with e | m
      · omega
      · have := ih m; omega
    · have := ih m; omega
theorem place_ok {l : List Int} {i v : Int} (h : place l i = .ok v) : v ∈ l := by
  unfold place at h
  split at h
  · rename_i c
    cases h
    have : i.toNat < l.length := by omega
    rw [List.getD_eq_getElem?_getD, List.getElem?_eq_getElem this]
    exact List.getElem_mem _
  · cases h
theorem getD_bd {o : List Int} (h : ∀ i ∈ o, Bd60 i) (k : Nat) : Bd60 (o.getD k 0) := by
  rw [List.getD_eq_getElem?_getD]
  by_cases e : k < o.length
  · rw [List.getElem?_eq_getElem e]; exact h _ (List.getElem_mem _)
  · rw [List.getElem?_eq_none (by omega)]
    exact bd_big (i := 0) (by decide) (by decide)
theorem size_bd {t : Th} (h : t.Ok) : 0 ≤ t.size ∧ t.size ≤ 13 := by
  cases h with
  | num h => exact ⟨Int.le_refl _, show (0 : Int) ≤ 13 by decide⟩
  | @row l h b => show (0 : Int) ≤ l.length ∧ (l.length : Int) ≤ 13; omega
  | @text l h b => show (0 : Int) ≤ l.length ∧ (l.length : Int) ≤ 13; omega
  | @tree l h b => show (0 : Int) ≤ (l.length : Int) + 1 ∧ (l.length : Int) + 1 ≤ 13; omega
theorem par_len {t : Th} (h : t.Ok) : t.par.length ≤ 11 := by
  cases h with
  | @tree l h b => exact h
  | _ => exact Nat.zero_le _
theorem bd_sm {i : Int} (h1 : -1000 ≤ i) (h2 : i ≤ 1000) : Bd60 i := bd_big (by omega) (by omega)
theorem val_bd {g : Giv} {o : List Int} {t : Ex} (hg : Gok g) (ho : ∀ i ∈ o, Bd60 i) (h : t.Ok (gn g) o.length) : ∀ i, t.val g o = .ok i → Bd60 i := by
  induction h with
  | num h => intro j e; cases e; exact h
  | own h => intro j e; cases e; exact getD_bd ho _
  | @need x h =>
    intro j e; cases e
    have := gget_ok hg h
    generalize gget g x = t at *
    cases this with
    | num h => exact h
    | _ => exact bd_sm (i := 0) (by decide) (by decide)
  | @size x k h hk =>
    intro j e; cases e
    have := size_bd (gget_ok hg h)
    exact bd_sm (by omega) (by omega)
  | @plc x k e h hk he ih =>
    intro j e1
    obtain ⟨i, h1, h2⟩ := bnd_inv e1
    have := gget_ok hg h
    generalize gget g x = t at *
    cases this with
    | @row l h b => exact b _ (place_ok h2)
    | @text l h b =>
      obtain ⟨n, hn, rfl⟩ := List.mem_map.mp (place_ok (l := codes l) h2)
      have := b n hn
      exact bd_sm (by omega) (by omega)
    | num h => cases h2
    | tree h b => cases h2
  | @kids x e h he ih =>
    intro j e1
    obtain ⟨i, h1, h2⟩ := bnd_inv e1
    have := par_len (gget_ok hg h)
    unfold kidsR at h2
    split at h2
    · cases h2
      have := chs_len i (gget g x).par 1
      exact bd_sm (by omega) (by omega)
    · cases h2
  | @kid x e f h he hf ih1 ih2 =>
    intro j e1
    obtain ⟨i, h1, h2⟩ := bnd_inv e1
    obtain ⟨k, h3, h4⟩ := bnd_inv h2
    have := par_len (gget_ok hg h)
    unfold kidR at h4
    split at h4
    · have := chs_mem _ _ _ _ (place_ok h4)
      exact bd_sm (by omega) (by omega)
    · cases h4
  | @un w a hw ha ih =>
    intro j e1
    obtain ⟨i, h1, h2⟩ := bnd_inv e1
    exact great_bd h2
  | @bin w a b hw ha hb ih1 ih2 =>
    intro j e1
    obtain ⟨i, h1, h2⟩ := bnd_inv e1
    obtain ⟨k, h3, h4⟩ := bnd_inv h2
    exact great_bd h4
theorem kindN_mem : ∀ {nd : List (Str × Str)}, (nd.map fun p => p.1).Nodup → ∀ p ∈ nd, kindN nd (.str p.1) = p.2
  | q :: r, hn, p, hp => by
    rw [List.map_cons, List.nodup_cons] at hn
    rcases List.mem_cons.mp hp with e | m
    · subst e
      have : hitN p.1 (.str p.1) = true := decide_eq_true rfl
      rw [kindN, this]
    · have ne : ¬ q.1 = p.1 := fun e => hn.1 (by rw [e]; exact List.mem_map_of_mem (f := fun p : Str × Str => p.1) m)
      have : hitN q.1 (.str p.1) = false := decide_eq_false ne
      rw [kindN, this]
      exact kindN_mem hn.2 p m
theorem kindN_not : ∀ {nd : List (Str × Str)} {z : Str}, z ∉ (nd.map fun p => p.1) → kindN nd (.str z) = ""
  | [], z, h => rfl
  | q :: r, z, h => by
    have ne : ¬ q.1 = z := fun e => h (by rw [← e]; exact List.mem_cons_self)
    have : hitN q.1 (.str z) = false := decide_eq_false ne
    rw [kindN, this]
    exact kindN_not fun m => h (List.mem_cons_of_mem _ m)
theorem kin_of {k κ : Str} {ks : List Str} (e : tabGet y_KINDS k = some (.tup (ks.map D.str))) (h : κ ∈ ks) : kin k κ = true := by
  unfold kin
  rw [e]
  show ((ks.map D.str).any fun y => eqF y (.str κ)) = true
  rw [any_str]
  simpa using h
/-- the name of a need of the right kind -/
theorem named_s {nd : List (Str × Str)} (hn : Nds nd) {x κ : Str} (hx : (x, κ) ∈ nd) {k : Str} {ks : List Str} (e : tabGet y_KINDS k = some (.tup (ks.map D.str))) (h : κ ∈ ks) : kin k (kindN nd (.str x)) = true := by
  have := kindN_mem hn.nu _ hx
  rw [this]
  exact kin_of e h
/-! ### right sums are sums; how many parts, how deep (generic) -/
theorem ex_wf {nd : List (Str × Str)} {m : Nat} {t : Ex} (h : Ex.Ok nd m t) : ∀ {n : Nat}, t.dep + 1 ≤ n → Wf 4 n t.toD := by
  induction h with
  | num h => intro n l; cases n with | zero => omega | succ n => exact Wf.one (by decide) rfl (wf_int _)
  | own h => intro n l; cases n with | zero => omega | succ n => exact Wf.one (by decide) rfl (wf_int _)
  | need h => intro n l; cases n with | zero => omega | succ n => exact Wf.one (by decide) rfl (wf_str _)
  | size h hk => intro n l; cases n with | zero => omega | succ n => exact Wf.one (by decide) rfl (wf_str _)
  | @plc x k e h hk he ih => intro n l; have l : e.dep + 1 + 1 ≤ n := l; cases n with | zero => omega | succ n => exact Wf.two (by decide) rfl (wf_str _) (ih (by omega))
  | @kids x e h he ih => intro n l; have l : e.dep + 1 + 1 ≤ n := l; cases n with | zero => omega | succ n => exact Wf.two (by decide) rfl (wf_str _) (ih (by omega))
  | @kid x e f h he hf ih1 ih2 => intro n l; have l : max e.dep f.dep + 1 + 1 ≤ n := l; cases n with | zero => omega | succ n => exact Wf.three (by decide) rfl (wf_str _) (ih1 (by omega)) (ih2 (by omega))
  | @un w a hw ha ih =>
    intro n l
    have l : a.dep + 1 + 1 ≤ n := l
    have hd : ∀ w ∈ unW, HD.contains w = true := by decide
    cases n with
    | zero => omega
    | succ n => exact Wf.one (by decide) (hd w hw) (ih (by omega))
  | @bin w a b hw ha hb ih1 ih2 =>
    intro n l
    have l : max a.dep b.dep + 1 + 1 ≤ n := l
    have hd : ∀ w ∈ biW, HD.contains w = true := by decide
    cases n with
    | zero => omega
    | succ n => exact Wf.two (by decide) (hd w hw) (ih1 (by omega)) (ih2 (by omega))
theorem ex_is {nd : List (Str × Str)} (hn : Nds nd) {m : Nat} {t : Ex} (h : Ex.Ok nd m t) : isS nd (m : Nat) t.toD = true := by
  induction h with
  | num h => rfl
  | own h => exact own_s (by omega) (by omega)
  | @need x h => rw [show isS nd (m : Nat) (Ex.need x).toD = (true && (kin "x" (kindN nd (.str x)) && true)) from rfl, named_s hn h (ks := ["number"]) rfl (by decide)]; rfl
  | @size x k h hk => rw [show isS nd (m : Nat) (Ex.size x).toD = (true && (kin "z" (kindN nd (.str x)) && true)) from rfl, named_s hn h (ks := ["row", "text", "tree"]) rfl (by rcases hk with rfl | rfl | rfl <;> decide)]; rfl
  | @plc x k e h hk he ih => rw [show isS nd (m : Nat) (Ex.plc x e).toD = (true && (kin "l" (kindN nd (.str x)) && (isS nd (m : Nat) e.toD && true))) from rfl, named_s hn h (ks := ["row", "text"]) rfl (by rcases hk with rfl | rfl <;> decide), ih]; rfl
  | @kids x e h he ih => rw [show isS nd (m : Nat) (Ex.kids x e).toD = (true && (kin "t" (kindN nd (.str x)) && (isS nd (m : Nat) e.toD && true))) from rfl, named_s hn h (ks := ["tree"]) rfl (by decide), ih]; rfl
  | @kid x e f h he hf ih1 ih2 => rw [show isS nd (m : Nat) (Ex.kid x e f).toD = (true && (kin "t" (kindN nd (.str x)) && (isS nd (m : Nat) e.toD && (isS nd (m : Nat) f.toD && true)))) from rfl, named_s hn h (ks := ["tree"]) rfl (by decide), ih1, ih2]; rfl
  | @un w a hw ha ih =>
    simp only [unW, List.mem_cons, List.not_mem_nil, or_false] at hw
    rcases hw with rfl | rfl | rfl
    · rw [show isS nd (m : Nat) (Ex.un "full" a).toD = (true && (isS nd (m : Nat) a.toD && true)) from rfl, ih]; rfl
    · rw [show isS nd (m : Nat) (Ex.un "many" a).toD = (true && (isS nd (m : Nat) a.toD && true)) from rfl, ih]; rfl
    · rw [show isS nd (m : Nat) (Ex.un "half" a).toD = (true && (isS nd (m : Nat) a.toD && true)) from rfl, ih]; rfl
  | @bin w a b hw ha hb ih1 ih2 =>
    simp only [biW, List.mem_cons, List.not_mem_nil, or_false] at hw
    rcases hw with rfl | rfl | rfl | rfl | rfl | rfl | rfl | rfl
    · rw [show isS nd (m : Nat) (Ex.bin "with" a b).toD = (true && (isS nd (m : Nat) a.toD && (isS nd (m : Nat) b.toD && true))) from rfl, ih1, ih2]; rfl
    · rw [show isS nd (m : Nat) (Ex.bin "without" a b).toD = (true && (isS nd (m : Nat) a.toD && (isS nd (m : Nat) b.toD && true))) from rfl, ih1, ih2]; rfl
    · rw [show isS nd (m : Nat) (Ex.bin "plus" a b).toD = (true && (isS nd (m : Nat) a.toD && (isS nd (m : Nat) b.toD && true))) from rfl, ih1, ih2]; rfl
    · rw [show isS nd (m : Nat) (Ex.bin "less" a b).toD = (true && (isS nd (m : Nat) a.toD && (isS nd (m : Nat) b.toD && true))) from rfl, ih1, ih2]; rfl
    · rw [show isS nd (m : Nat) (Ex.bin "times" a b).toD = (true && (isS nd (m : Nat) a.toD && (isS nd (m : Nat) b.toD && true))) from rfl, ih1, ih2]; rfl
    · rw [show isS nd (m : Nat) (Ex.bin "rest" a b).toD = (true && (isS nd (m : Nat) a.toD && (isS nd (m : Nat) b.toD && true))) from rfl, ih1, ih2]; rfl
    · rw [show isS nd (m : Nat) (Ex.bin "lesser" a b).toD = (true && (isS nd (m : Nat) a.toD && (isS nd (m : Nat) b.toD && true))) from rfl, ih1, ih2]; rfl
    · rw [show isS nd (m : Nat) (Ex.bin "greater" a b).toD = (true && (isS nd (m : Nat) a.toD && (isS nd (m : Nat) b.toD && true))) from rfl, ih1, ih2]; rfl
theorem ex_sok {nd : List (Str × Str)} (hn : Nds nd) {m n : Nat} {t : Ex} (h : Ex.Ok nd m t) (l : t.dep + 1 ≤ n) : Sok nd m n t.toD := ⟨ex_wf h l, ex_is hn h⟩
/-- how many parts -/
def Ex.sz : Ex → Nat
  | .plc _ e => e.sz + 1
  | .kids _ e => e.sz + 1
  | .kid _ e f => e.sz + f.sz + 1
  | .un _ a => a.sz + 1
  | .bin _ a b => a.sz + b.sz + 1
  | _ => 1
theorem ex_cnt (t : Ex) : cnt t.toD = t.sz := by
  induction t with
  | num i => exact (cnt_w1 _ _).trans (by rw [cnt_int]; rfl)
  | own k => exact (cnt_w1 _ _).trans (by rw [cnt_int]; rfl)
  | need x => exact (cnt_w1 _ _).trans (by rw [cnt_str]; rfl)
  | size x => exact (cnt_w1 _ _).trans (by rw [cnt_str]; rfl)
  | plc x e ih => exact (cnt_w2 _ _ _).trans (by rw [cnt_str, show cnt (.tup e.toL) = e.sz from ih]; show 1 + 0 + e.sz = e.sz + 1; omega)
  | kids x e ih => exact (cnt_w2 _ _ _).trans (by rw [cnt_str, show cnt (.tup e.toL) = e.sz from ih]; show 1 + 0 + e.sz = e.sz + 1; omega)
  | kid x e f ih1 ih2 => exact (cnt_w3 _ _ _ _).trans (by rw [cnt_str, show cnt (.tup e.toL) = e.sz from ih1, show cnt (.tup f.toL) = f.sz from ih2]; show 1 + 0 + e.sz + f.sz = e.sz + f.sz + 1; omega)
  | un w a ih => exact (cnt_w1 _ _).trans (by rw [show cnt (.tup a.toL) = a.sz from ih]; show 1 + a.sz = a.sz + 1; omega)
  | bin w a b ih1 ih2 => exact (cnt_w2 _ _ _).trans (by rw [show cnt (.tup a.toL) = a.sz from ih1, show cnt (.tup b.toL) = b.sz from ih2]; show 1 + a.sz + b.sz = a.sz + b.sz + 1; omega)
theorem ex_dpt (t : Ex) : dpt t.toD = t.dep + 1 := by
  induction t with
  | num i => exact (dpt_w1 _ _).trans (by rw [dpt_int]; rfl)
  | own k => exact (dpt_w1 _ _).trans (by rw [dpt_int]; rfl)
  | need x => exact (dpt_w1 _ _).trans (by rw [dpt_str]; rfl)
  | size x => exact (dpt_w1 _ _).trans (by rw [dpt_str]; rfl)
  | plc x e ih => exact (dpt_w2 _ _ _).trans (by rw [dpt_str, show dpt (.tup e.toL) = e.dep + 1 from ih]; show 1 + max 0 (e.dep + 1) = e.dep + 1 + 1; omega)
  | kids x e ih => exact (dpt_w2 _ _ _).trans (by rw [dpt_str, show dpt (.tup e.toL) = e.dep + 1 from ih]; show 1 + max 0 (e.dep + 1) = e.dep + 1 + 1; omega)
  | kid x e f ih1 ih2 => exact (dpt_w3 _ _ _ _).trans (by rw [dpt_str, show dpt (.tup e.toL) = e.dep + 1 from ih1, show dpt (.tup f.toL) = f.dep + 1 from ih2]; show 1 + max 0 (max (e.dep + 1) (f.dep + 1)) = max e.dep f.dep + 1 + 1; omega)
  | un w a ih => exact (dpt_w1 _ _).trans (by rw [show dpt (.tup a.toL) = a.dep + 1 from ih]; show 1 + (a.dep + 1) = a.dep + 1 + 1; omega)
  | bin w a b ih1 ih2 => exact (dpt_w2 _ _ _).trans (by rw [show dpt (.tup a.toL) = a.dep + 1 from ih1, show dpt (.tup b.toL) = b.dep + 1 from ih2]; show 1 + max (a.dep + 1) (b.dep + 1) = max a.dep b.dep + 1 + 1; omega)
/-! ### texts of letters (generic) -/
theorem tx_join (l : List Nat) : Txt.join "" (l.map fun i => (⟨#[97 + i]⟩ : Str)) = tx l := by
  have e1 : (l.map fun i => (⟨#[97 + i]⟩ : Str)) = (l.map fun i => [97 + i]).map SX.S := by rw [List.map_map]; rfl
  have e2 : ("" : Str) = SX.S [] := rfl
  rw [e1, e2, SX.join_S]
  have e3 : ∀ l : List Nat, TL.joinL [] (l.map fun i => [97 + i]) = l.map fun i => 97 + i := by
    intro l
    induction l with
    | nil => rfl
    | cons x r ih =>
      cases r with
      | nil => rfl
      | cons y r =>
        rw [List.map_cons, List.map_cons, TL.joinL, List.map_cons, ← ih]; rfl
  rw [e3]; rfl
theorem ones_sum (l : List Nat) : (l.map fun _ => 1).sum = l.length := by
  induction l with
  | nil => rfl
  | cons x r ih => rw [List.map_cons, List.sum_cons, ih, List.length_cons]; omega
theorem letter_at {i : Nat} (h : i < 26) : atI (("abcdefghijklmnopqrstuvwxyz" : Str).cps.toList) (i : Int) = some (97 + i) := by
  have key : ∀ i < 26, (("abcdefghijklmnopqrstuvwxyz" : Str).cps.toList)[i]? = some (97 + i) := by decide +kernel
  exact atI_nat (key i h)
/-! ### one promise of many (generic) -/
theorem fn_ex {k : Nat} {f : Addr} {fd : FuncData} {ps : List Str} {n : Nat} {ι : Type} {A : ι → FSpec} (i0 : ι) (F : ∀ i, FnOk P w K mg base CX0 k f fd ps (spD K n (A i))) : FnOk P w K mg base CX0 k f fd ps (spD K n fun cs Q => ∃ i, A i cs Q) := by
  refine ⟨fun vs H Q E q => ?_, fun B outer s H args us vs Q E hr he hb hv hs => ?_⟩
  · obtain ⟨F0, M, cs, h1, h2, Qd, ⟨i, h3⟩, h4⟩ := q
    exact (F i).len vs H Q E ⟨F0, M, cs, h1, h2, Qd, h3, h4⟩
  · obtain ⟨F0, M, cs, h1, h2, Qd, ⟨i, h3⟩, h4⟩ := hs
    exact (F i).run B outer s H args us vs Q E hr he hb hv ⟨F0, M, cs, h1, h2, Qd, h3, h4⟩
/-! ### conditions and bodies (generic) -/
inductive Co where
  | rel (w : Str) (a b : Ex) | not (c : Co) | two (w : Str) (a b : Co)
def Co.toL : Co → List D
  | .rel w a b => [.str w, .tup a.toL, .tup b.toL]
  | .not c => [.str "not", .tup c.toL]
  | .two w a b => [.str w, .tup a.toL, .tup b.toL]
def Co.toD (c : Co) : D := .tup c.toL
def Co.sz : Co → Nat
  | .rel _ a b => 1 + a.sz + b.sz
  | .not c => 1 + c.sz
  | .two _ a b => 1 + a.sz + b.sz
def Co.dp : Co → Nat
  | .rel _ a b => 1 + max (a.dep + 1) (b.dep + 1)
  | .not c => 1 + c.dp
  | .two _ a b => 1 + max a.dp b.dp
theorem Co.cnt (c : Co) : Y.cnt c.toD = c.sz := by
  induction c with
  | rel w a b => exact (cnt_w2 _ _ _).trans (by rw [show Y.cnt (.tup a.toL) = a.sz from ex_cnt a, show Y.cnt (.tup b.toL) = b.sz from ex_cnt b]; rfl)
  | not c ih => exact (cnt_w1 _ _).trans (by rw [show Y.cnt (.tup c.toL) = c.sz from ih]; rfl)
  | two w a b ih1 ih2 => exact (cnt_w2 _ _ _).trans (by rw [show Y.cnt (.tup a.toL) = a.sz from ih1, show Y.cnt (.tup b.toL) = b.sz from ih2]; rfl)
theorem Co.dpt (c : Co) : Y.dpt c.toD = c.dp := by
  induction c with
  | rel w a b => exact (dpt_w2 _ _ _).trans (by rw [show Y.dpt (.tup a.toL) = a.dep + 1 from ex_dpt a, show Y.dpt (.tup b.toL) = b.dep + 1 from ex_dpt b]; rfl)
  | not c ih => exact (dpt_w1 _ _).trans (by rw [show Y.dpt (.tup c.toL) = c.dp from ih]; rfl)
  | two w a b ih1 ih2 => exact (dpt_w2 _ _ _).trans (by rw [show Y.dpt (.tup a.toL) = a.dp from ih1, show Y.dpt (.tup b.toL) = b.dp from ih2]; rfl)
/-- a right sum, not too deep -/
def SE (nd : List (Str × Str)) (own S : Nat) (t : Ex) : Prop := Ex.Ok nd own t ∧ t.dep + 1 ≤ S
theorem SE.sok {nd : List (Str × Str)} (hn : Nds nd) {own S : Nat} {t : Ex} (h : SE nd own S t) : Sok nd own S t.toD := ex_sok hn h.1 h.2
inductive Co.Ok (nd : List (Str × Str)) (own S : Nat) : Nat → Co → Prop
  | rel {n : Nat} {w : Str} {a b : Ex} (hw : w = "below" ∨ w = "same" ∨ w = "has") (ha : SE nd own S a) (hb : SE nd own S b) : Co.Ok nd own S (n + 1) (.rel w a b)
  | not {n : Nat} {c : Co} (h : Co.Ok nd own S n c) : Co.Ok nd own S (n + 1) (.not c)
  | two {n : Nat} {w : Str} {a b : Co} (hw : w = "and" ∨ w = "or") (ha : Co.Ok nd own S n a) (hb : Co.Ok nd own S n b) : Co.Ok nd own S (n + 1) (.two w a b)
theorem Co.Ok.cok {nd : List (Str × Str)} (hn : Nds nd) {own S n : Nat} {c : Co} (h : Co.Ok nd own S n c) : Cok nd own S n c.toD := by
  induction h with
  | rel hw ha hb => exact .rel hw (ha.sok hn) (hb.sok hn)
  | not h ih => exact .not ih
  | two hw ha hb iha ihb => exact .two hw iha ihb
theorem Co.Ok.up {nd : List (Str × Str)} {own S n : Nat} {c : Co} (h : Co.Ok nd own S n c) : ∀ {m : Nat}, n ≤ m → Co.Ok nd own S m c := by
  induction h with
  | rel hw ha hb => intro m l; cases m with | zero => omega | succ m => exact .rel hw ha hb
  | not h ih => intro m l; cases m with | zero => omega | succ m => exact .not (ih (by omega))
  | two hw ha hb iha ihb => intro m l; cases m with | zero => omega | succ m => exact .two hw (iha (by omega)) (ihb (by omega))
inductive Bo where
  | none | gain (s : Ex) | call (g : Nat) (as : List Ex) | choose (bs : List Bo) | turn (w : Str) (lo hi : Ex) (b : Bo) | both (a b : Bo) | ite (c : Co) (a b : Bo)
mutual
def Bo.toL : Bo → List D
  | .none => [.str "none"]
  | .gain s => [.str "gain", .tup s.toL]
  | .call g as => [.str "call", .int (g : Nat), .tup (as.map Ex.toD)]
  | .choose bs => [.str "choose", .tup (Bo.toDs bs)]
  | .turn w lo hi b => [.str w, .tup lo.toL, .tup hi.toL, .tup b.toL]
  | .both a b => [.str "both", .tup a.toL, .tup b.toL]
  | .ite c a b => [.str "if", .tup c.toL, .tup a.toL, .tup b.toL]
def Bo.toDs : List Bo → List D
  | [] => []
  | b :: r => .tup b.toL :: Bo.toDs r
end
def Bo.toD (b : Bo) : D := .tup b.toL
theorem Bo.toDs_eq : ∀ bs : List Bo, Bo.toDs bs = bs.map Bo.toD
  | [] => rfl
  | b :: r => by rw [Bo.toDs, Bo.toDs_eq r]; rfl
mutual
def Bo.sz : Bo → Nat
  | .none => 1
  | .gain s => 1 + s.sz
  | .call _ as => 1 + (as.map Ex.sz).sum
  | .choose bs => 1 + Bo.szs bs
  | .turn _ lo hi b => 1 + lo.sz + hi.sz + b.sz
  | .both a b => 1 + a.sz + b.sz
  | .ite c a b => 1 + c.sz + a.sz + b.sz
def Bo.szs : List Bo → Nat
  | [] => 0
  | b :: r => b.sz + Bo.szs r
end
def mxL : List Nat → Nat
  | [] => 0
  | x :: r => max x (mxL r)
mutual
def Bo.dp : Bo → Nat
  | .none => 1
  | .gain s => 1 + (s.dep + 1)
  | .call _ as => 1 + mxL (as.map fun t => t.dep + 1)
  | .choose bs => 1 + Bo.dps bs
  | .turn _ lo hi b => 1 + max (lo.dep + 1) (max (hi.dep + 1) b.dp)
  | .both a b => 1 + max a.dp b.dp
  | .ite c a b => 1 + max c.dp (max a.dp b.dp)
def Bo.dps : List Bo → Nat
  | [] => 0
  | b :: r => max b.dp (Bo.dps r)
end
theorem wrd_toDs (bs : List Bo) : wrd (Bo.toDs bs) = 0 := by cases bs <;> rfl
theorem wrd_exs (as : List Ex) : wrd (as.map Ex.toD) = 0 := by
  cases as with
  | nil => rfl
  | cons t r => cases t <;> rfl
theorem cnts_exs (as : List Ex) : cnts (as.map Ex.toD) = (as.map Ex.sz).sum := by
  induction as with
  | nil => exact cnts_nil
  | cons t r ih => rw [List.map_cons, cnts_cons, ih, ex_cnt, List.map_cons, List.sum_cons]
theorem dpts_exs (as : List Ex) : dpts (as.map Ex.toD) = mxL (as.map fun t => t.dep + 1) := by
  induction as with
  | nil => exact dpts_nil
  | cons t r ih => rw [List.map_cons, dpts_cons, ih, ex_dpt, List.map_cons, mxL]
theorem ch_cnt1 (w : Str) (ds : List D) (h : wrd ds = 0) : cnt (.tup [.str w, .tup ds]) = 1 + cnts ds := by rw [cnt_w1, cnt_tup, h]; omega
theorem ch_dpt1 (w : Str) (ds : List D) (h : wrd ds = 0) : dpt (.tup [.str w, .tup ds]) = 1 + dpts ds := by rw [dpt_w1, dpt_tup, h]; omega
theorem ca_cnt1 (w : Str) (i : Int) (ds : List D) (h : wrd ds = 0) : cnt (.tup [.str w, .int i, .tup ds]) = 1 + cnts ds := by rw [cnt_w2, cnt_tup, h, cnt_int]; omega
theorem ca_dpt1 (w : Str) (i : Int) (ds : List D) (h : wrd ds = 0) : dpt (.tup [.str w, .int i, .tup ds]) = 1 + dpts ds := by rw [dpt_w2, dpt_tup, h, dpt_int]; omega
mutual
theorem Bo.cnt : ∀ b : Bo, Y.cnt (.tup b.toL) = b.sz
  | .none => cnt_none
  | .gain s => (cnt_w1 _ _).trans (by rw [show Y.cnt (.tup s.toL) = s.sz from ex_cnt s]; rfl)
  | .call g as => (ca_cnt1 _ _ _ (wrd_exs as)).trans (by rw [cnts_exs]; rfl)
  | .choose bs => (ch_cnt1 _ _ (wrd_toDs bs)).trans (by rw [Bo.cnts bs]; rfl)
  | .turn w lo hi b => (cnt_w3 _ _ _ _).trans (by rw [show Y.cnt (.tup lo.toL) = lo.sz from ex_cnt lo, show Y.cnt (.tup hi.toL) = hi.sz from ex_cnt hi, Bo.cnt b]; rfl)
  | .both a b => (cnt_w2 _ _ _).trans (by rw [Bo.cnt a, Bo.cnt b]; rfl)
  | .ite c a b => (cnt_w3 _ _ _ _).trans (by rw [show Y.cnt (.tup c.toL) = c.sz from Co.cnt c, Bo.cnt a, Bo.cnt b]; rfl)
theorem Bo.cnts : ∀ bs : List Bo, Y.cnts (Bo.toDs bs) = Bo.szs bs
  | [] => cnts_nil
  | b :: r => (cnts_cons _ _).trans (by rw [Bo.cnt b, Bo.cnts r]; rfl)
end
mutual
theorem Bo.dpt : ∀ b : Bo, Y.dpt (.tup b.toL) = b.dp
  | .none => dpt_none
  | .gain s => (dpt_w1 _ _).trans (by rw [show Y.dpt (.tup s.toL) = s.dep + 1 from ex_dpt s]; rfl)
  | .call g as => (ca_dpt1 _ _ _ (wrd_exs as)).trans (by rw [dpts_exs]; rfl)
  | .choose bs => (ch_dpt1 _ _ (wrd_toDs bs)).trans (by rw [Bo.dpts bs]; rfl)
  | .turn w lo hi b => (dpt_w3 _ _ _ _).trans (by rw [show Y.dpt (.tup lo.toL) = lo.dep + 1 from ex_dpt lo, show Y.dpt (.tup hi.toL) = hi.dep + 1 from ex_dpt hi, Bo.dpt b]; rfl)
  | .both a b => (dpt_w2 _ _ _).trans (by rw [Bo.dpt a, Bo.dpt b]; rfl)
  | .ite c a b => (dpt_w3 _ _ _ _).trans (by rw [show Y.dpt (.tup c.toL) = c.dp from Co.dpt c, Bo.dpt a, Bo.dpt b]; rfl)
theorem Bo.dpts : ∀ bs : List Bo, Y.dpts (Bo.toDs bs) = Bo.dps bs
  | [] => dpts_nil
  | b :: r => (dpts_cons _ _).trans (by rw [Bo.dpt b, Bo.dpts r]; rfl)
end
inductive Bo.Ok (nd : List (Str × Str)) (cn : List Nat) (S : Nat) : Nat → Nat → Nat → Bo → Prop
  | none {n own t : Nat} : Bo.Ok nd cn S (n + 1) own t .none
  | gain {n own t : Nat} {s : Ex} (h : SE nd own S s) : Bo.Ok nd cn S (n + 1) own t (.gain s)
  | call {n own t g : Nat} {as : List Ex} (hg : cn[g]? = some as.length) (h : ∀ a ∈ as, SE nd own S a) : Bo.Ok nd cn S (n + 1) own t (.call g as)
  | choose {n own t : Nat} {bs : List Bo} (h1 : 1 ≤ bs.length) (h4 : bs.length ≤ 4) (h : ∀ b ∈ bs, Bo.Ok nd cn S n own t b) : Bo.Ok nd cn S (n + 1) own t (.choose bs)
  | turn {n own t : Nat} {w : Str} {lo hi : Ex} {b : Bo} (hw : w = "each" ∨ w = "all") (ht : t < 2) (hl : SE nd own S lo) (hh : SE nd own S hi) (hb : Bo.Ok nd cn S n (own + 1) (t + 1) b) : Bo.Ok nd cn S (n + 1) own t (.turn w lo hi b)
  | both {n own t : Nat} {a b : Bo} (ha : Bo.Ok nd cn S n own t a) (hb : Bo.Ok nd cn S n own t b) : Bo.Ok nd cn S (n + 1) own t (.both a b)
  | ite {n own t : Nat} {c : Co} {a b : Bo} (hc : Co.Ok nd own S S c) (ha : Bo.Ok nd cn S n own t a) (hb : Bo.Ok nd cn S n own t b) : Bo.Ok nd cn S (n + 1) own t (.ite c a b)
theorem Bo.Ok.bok {nd : List (Str × Str)} (hn : Nds nd) {cn : List Nat} {S n own t : Nat} {b : Bo} (h : Bo.Ok nd cn S n own t b) : Bok nd cn S n own t b.toD := by
  induction h with
  | none => exact .none
  | gain h => exact .gain (h.sok hn)
  | call hg h =>
    refine .call (by rw [List.length_map]; exact hg) fun d m => ?_
    obtain ⟨t, mt, rfl⟩ := List.mem_map.mp m
    exact (h t mt).sok hn
  | @choose n own t bs h1 h4 h ih =>
    show Bok nd cn S (n + 1) own t (.tup [.str "choose", .tup (Bo.toDs bs)])
    rw [Bo.toDs_eq]
    exact .choose (by rw [List.length_map]; exact h1) (by rw [List.length_map]; exact h4) fun d m => by
      obtain ⟨b, mb, rfl⟩ := List.mem_map.mp m
      exact ih b mb
  | turn hw ht hl hh hb ih => exact .turn hw ht (hl.sok hn) (hh.sok hn) ih
  | both ha hb iha ihb => exact .both iha ihb
  | ite hc ha hb iha ihb => exact .ite (hc.cok hn) iha ihb
theorem Bo.Ok.up {nd : List (Str × Str)} {cn : List Nat} {S n own t : Nat} {b : Bo} (h : Bo.Ok nd cn S n own t b) : ∀ {m : Nat}, n ≤ m → Bo.Ok nd cn S m own t b := by
  induction h with
  | none => intro m l; cases m with | zero => omega | succ m => exact .none
  | gain h => intro m l; cases m with | zero => omega | succ m => exact .gain h
  | call hg h => intro m l; cases m with | zero => omega | succ m => exact .call hg h
  | choose h1 h4 h ih => intro m l; cases m with | zero => omega | succ m => exact .choose h1 h4 fun b hb => ih b hb (by omega)
  | turn hw ht hl hh hb ih => intro m l; cases m with | zero => omega | succ m => exact .turn hw ht hl hh (ih (by omega))
  | both ha hb iha ihb => intro m l; cases m with | zero => omega | succ m => exact .both (iha (by omega)) (ihb (by omega))
  | ite hc ha hb iha ihb => intro m l; cases m with | zero => omega | succ m => exact .ite hc (iha (by omega)) (ihb (by omega))
/-- a function that was made -/
structure Fm where
  nm : Str
  ms : List Ex
  bd : Bo
def Fm.fn (f : Fm) : Fn := ⟨f.nm, f.ms.map Ex.toD, f.bd.toD⟩
def fmD (f : Fm) : D := .tup [.str f.nm, .tup (f.ms.map Ex.toD), f.bd.toD]
def fmL (fs : List Fm) : D := .tup (fs.map fmD)
/-- a program that was made -/
def pmD (nd : List (Str × Str)) (fs : List Fm) : D := .tup [ndD nd, fmL fs]
def cnF (fs : List Fm) : List Nat := fs.map fun f => f.ms.length
/-! ### drawn names -/
def W12 : List Str := ["num", "own", "at", "call", "each", "all", "if", "none", "many", "row", "text", "tree"]
def nmW (f k : Nat) : Str := (W12.getD ((f + k) % 12) "") ++ "q"
theorem nmW_ok {f : Nat} (hf : f < 26) : ((List.range 8).map (nmW f)).all nokB = true ∧ ((List.range 8).map (nmW f)).Nodup := by
  have key : ((List.range 26).all fun f => ((List.range 8).map (nmW f)).all nokB && decide ((List.range 8).map (nmW f)).Nodup) = true := by decide +kernel
  rw [List.all_eq_true] at key
  have h := key f (List.mem_range.mpr hf)
  rw [Bool.and_eq_true] at h
  exact ⟨h.1, of_decide_eq_true h.2⟩
def nameL (c : Nat) (l : List Nat) : Str := ⟨((97 + c) :: 113 :: l.map fun i => 97 + i).toArray⟩
theorem nameL_eq (c : Nat) (l : List Nat) : (⟨#[97 + c]⟩ : Str) ++ ("q" ++ tx l) = nameL c l := by
  show (⟨#[97 + c] ++ (("q" : Str).cps ++ (tx l).cps)⟩ : Str) = _
  have e : ("q" : Str).cps = #[113] := by decide +kernel
  rw [e]
  unfold nameL tx
  congr 1
  apply Array.ext'
  simp
theorem worL_q : ∀ y ∈ worL, ∀ s : Str, y = .str s → s.cps.toList[1]? ≠ some 113 := by
  have key : (worL.all fun y => match y with | .str s => !decide (s.cps.toList[1]? = some 113) | _ => true) = true := by decide +kernel
  rw [List.all_eq_true] at key
  intro y m s e
  have := key y m
  rw [e] at this
  have this : (!decide (s.cps.toList[1]? = some 113)) = true := this
  intro z
  rw [decide_eq_true z] at this
  cases this
theorem nameL_ok {c : Nat} {l : List Nat} (hc : c < 26) (hl : l.length ≤ 6) (hb : ∀ i ∈ l, i < 26) : nokB (nameL c l) = true := by
  have len : (nameL c l).length = l.length + 2 := by
    show ((97 + c) :: 113 :: l.map fun i => 97 + i).toArray.size = _
    simp
  have cps : (nameL c l).cps.toList = (97 + c) :: 113 :: l.map fun i => 97 + i := by unfold nameL; simp
  have lets : ∀ i, i < 26 → 97 + i ∈ letsL := by decide +kernel
  have q : 113 ∈ letsL := by decide +kernel
  unfold nokB
  rw [len, decide_eq_true (show 2 ≤ l.length + 2 by omega), decide_eq_true (show l.length + 2 ≤ 8 by omega), cps]
  have h1 : (worL.any fun y => eqF y (.str (nameL c l))) = false := by
    rw [List.any_eq_false]
    intro y m
    cases y with
    | str s =>
      have : ¬ s = nameL c l := fun e => worL_q _ m s rfl (by rw [e, cps]; rfl)
      show ¬ (decide (s = nameL c l)) = true
      rw [decide_eq_false this]; decide
    | _ => intro z; cases z
  have h2 : ((97 + c) :: 113 :: l.map fun i => 97 + i).all (fun c => letsL.contains c) = true := by
    rw [List.all_eq_true]
    intro x m
    rw [List.contains_iff_mem]
    rcases List.mem_cons.mp m with e | m
    · rw [e]; exact lets c hc
    · rcases List.mem_cons.mp m with e | m
      · rw [e]; exact q
      · obtain ⟨i, hi, rfl⟩ := List.mem_map.mp m
        exact lets i (hb i hi)
  rw [h1, h2]; rfl
theorem nameL_inj {c d : Nat} {l r : List Nat} (h : nameL c l = nameL d r) : c = d := by
  have := congrArg (fun s : Str => s.cps.toList) h
  simp [nameL] at this
  omega
/-- so many right names, all unlike -/
structure Nam (n : Nat) (ns : List Str) : Prop where
  le : ns.length = n
  ok : ∀ z ∈ ns, nokB z = true
  nu : ns.Nodup
def sp_l_names : FSpec := fun cs Q => ∃ n : Nat, cs = [.opq false PenQ, .val (.int (n : Nat))] ∧ n ≤ 8 ∧ ∀ ns, Nam n ns → Q (.lst (ns.map .str)) [.opq false PenQ, .none]
theorem fives {f : Nat} (hf : f < 26) {i j : Nat} (hi : i < 8) (hj : j < 8) (ne : i ≠ j) : (f + 5 * i) % 26 ≠ (f + 5 * j) % 26 := by omega
theorem W12_at {i : Nat} (h : i < 12) : atI (W12.map D.str) (i : Nat) = some (.str (W12.getD i "")) := by
  refine atI_nat ?_
  rw [List.getElem?_map, List.getD_eq_getElem?_getD, List.getElem?_eq_getElem (show i < W12.length from h)]; rfl
theorem W12_len : ∀ i < 12, (W12.getD i "").length ≤ 4 := by decide +kernel
set_option maxHeartbeats 8000000 in
theorem wnames_comp (f : Nat) (s1 : FSpec) (c0 c1 c2 c5 : Cell) : ∀ (j k : Nat) (Q : List D → DEnv → Prop), Q ((List.range' k j).map fun k => .str (nmW f k)) [c0, c1, c2, .val (.lst (W12.map D.str)), .val (.int (f : Nat)), c5, .none] →
    mapL [6] (gN 6) qYes (t_l_names_1 s1) (rgD (k : Int) j) [c0, c1, c2, .val (.lst (W12.map D.str)), .val (.int (f : Nat)), c5, .none] Q
  | 0, k, Q, h => by
    rw [rgD_nil]
    walk_at "mn"
    exact h
  | j + 1, k, Q, h => by
    have e1 : ((f : Nat) : Int) + (k : Nat) = ((f + k : Nat) : Int) := by omega
    have lt : (f + k) % 12 < 12 := Nat.mod_lt _ (by decide)
    rw [rgD_cons]
    walk_at "mc"
    walk_at "ei"
    rw [e1, show (((f + k : Nat) : Int) % 12) = (((f + k) % 12 : Nat) : Int) by omega]
    refine ⟨_, W12_at lt, ?_⟩
    walk_at "w"
    refine ⟨Nat.le_trans (show (W12.getD ((f + k) % 12) "").length + ("q" : Str).length ≤ 10 by have := W12_len _ lt; have e : ("q" : Str).length = 1 := rfl; omega) (by decide), ?_⟩
    walk_at "w"
    exact wnames_comp f s1 c0 c1 c2 c5 j (k + 1) _ h
set_option maxHeartbeats 8000000 in
theorem letters_draw (c1 c3 c4 c5 : Cell) : ∀ (ds : List D) (Q : List D → DEnv → Prop), (∀ l : List Nat, l.length = ds.length → (∀ i ∈ l, i < 26) → Q (l.map fun i => .str ⟨#[97 + i]⟩) [.opq false PenQ, c1, .val (.str "abcdefghijklmnopqrstuvwxyz"), c3, c4, c5, .none]) →
    mapL [6] (gN 6) qYes (t_l_names_2 sp_l_take) ds [.opq false PenQ, c1, .val (.str "abcdefghijklmnopqrstuvwxyz"), c3, c4, c5, .none] Q
  | [], Q, h => by
    walk_at "mn"
    exact h [] rfl fun i m => by cases m
  | d :: r, Q, h => by
    walk_at "mc"
    walk_at "ei"
    rename_i i i0 i1
    obtain ⟨i, rfl⟩ := Int.eq_ofNat_of_zero_le i0
    refine ⟨97 + i, letter_at (by omega), ?_⟩
    walk_at "w"
    refine letters_draw c1 c3 c4 c5 r _ fun l hl hb => ?_
    refine h (i :: l) (by rw [List.length_cons, List.length_cons, hl]) fun j m => ?_
    rcases List.mem_cons.mp m with e | m
    · rw [e]; omega
    · exact hb j m
set_option maxHeartbeats 8000000 in
theorem lnames_comp (f : Nat) (l : List Nat) (hl : l.length ≤ 6) (s1 : FSpec) (c0 c1 c3 : Cell) : ∀ (j k : Nat) (Q : List D → DEnv → Prop), Q ((List.range' k j).map fun k => .str (nameL ((f + 5 * k) % 26) l)) [c0, c1, .val (.str "abcdefghijklmnopqrstuvwxyz"), c3, .val (.int (f : Nat)), .val (.str ("q" ++ tx l)), .none] → k + j ≤ 8 →
    mapL [6] (gN 6) qYes (t_l_names_3 s1) (rgD (k : Int) j) [c0, c1, .val (.str "abcdefghijklmnopqrstuvwxyz"), c3, .val (.int (f : Nat)), .val (.str ("q" ++ tx l)), .none] Q
  | 0, k, Q, h, hk => by
    rw [rgD_nil]
    walk_at "mn"
    exact h
  | j + 1, k, Q, h, hk => by
    have e1 : ((f : Nat) : Int) + 5 * (k : Nat) = ((f + 5 * k : Nat) : Int) := by omega
    have lt : (f + 5 * k) % 26 < 26 := Nat.mod_lt _ (by decide)
    rw [rgD_cons]
    walk_at "mc"
    walk_at "ei"
    rw [e1, show (((f + 5 * k : Nat) : Int) % 26) = (((f + 5 * k) % 26 : Nat) : Int) by omega]
    refine ⟨_, letter_at lt, ?_⟩
    walk_at "w"
    have lq : ("q" ++ tx l : Str).length ≤ 7 := by rw [PySem.Str.length_append, tx_len]; have e : ("q" : Str).length = 1 := rfl; omega
    refine ⟨Nat.le_trans (show (⟨#[97 + (f + 5 * k) % 26]⟩ : Str).length + ("q" ++ tx l : Str).length ≤ 10 by have e : (⟨#[97 + (f + 5 * k) % 26]⟩ : Str).length = 1 := rfl; omega) (by decide), ?_⟩
    rw [nameL_eq]
    exact lnames_comp f l hl s1 c0 c1 c3 j (k + 1) _ h (by omega)
theorem nodup_map_range {n : Nat} (hn : n ≤ 8) (g : Nat → Str) (h : ∀ i j, i < 8 → j < 8 → g i = g j → i = j) : ((List.range' 0 n).map g).Nodup := by
  refine List.pairwise_iff_getElem.mpr fun i j hi hj hij e => ?_
  rw [List.length_map, List.length_range'] at hi hj
  rw [List.getElem_map, List.getElem_map, List.getElem_range', List.getElem_range'] at e
  have := h _ _ (by omega) (by omega) e
  omega
set_option maxHeartbeats 8000000 in
theorem ok_l_names (T : Txt K w mg) : K_l_names P w base T 2 sp_l_names :=
  okD T.F_l_names sc_l_names fun cdv A outer s H E B cs Q hr hl hs => ⟨_, d_l_names T (ok_l_take T) (by decide) hr, by
    obtain ⟨n, rfl, hn, hq⟩ := hs
    have fin : ∀ {ns : List Str} {env : DEnv}, Nam n ns → Outs env [.opq false PenQ, .none] → ∃ cs' : List Cell, cs'.length = 2 ∧ Outs env cs' ∧ Q (.lst (ns.map .str)) cs' := fun h o => ⟨_, rfl, o, hq _ h⟩
    have ln : (rgD 0 n).length = n := rgD_len
    walk_at "w"
    walk_at "ei"
    rename_i f f0 f1 r r0 r1
    obtain ⟨f, rfl⟩ := Int.eq_ofNat_of_zero_le f0
    have hf : f < 26 := by omega
    walk_at "sp"
    · walk_at "ei"
      rw [Int.toNat_natCast]
      refine ⟨Nat.le_trans (show (rgD 0 n).length ≤ 8 by omega) (by decide), ?_⟩
      walk_at "w"
      refine wnames_comp f _ _ _ _ _ n 0 _ ?_
      walk_at "w"
      have e : ((List.range' 0 n).map fun k => D.str (nmW f k)) = (((List.range 8).map (nmW f)).take n).map D.str := by
        obtain e | e | e | e | e | e | e | e | e : n = 0 ∨ n = 1 ∨ n = 2 ∨ n = 3 ∨ n = 4 ∨ n = 5 ∨ n = 6 ∨ n = 7 ∨ n = 8 := by omega
        all_goals (rw [e]; rfl)
      obtain ⟨k1, k2⟩ := nmW_ok hf
      rw [List.all_eq_true] at k1
      rw [e]
      exact fin ⟨by rw [List.length_take, List.length_map, List.length_range]; omega, fun z m => k1 z (List.mem_of_mem_take m), k2.sublist (List.take_sublist _ _)⟩ ⟨fun _ h => h, trivial, outs_nil⟩
    · walk_at "ei"
      rename_i t t0 t1
      have lt : (rgD 0 t.toNat).length = t.toNat := rgD_len
      refine ⟨Nat.le_trans (show (rgD 0 t.toNat).length ≤ 8 by omega) (by decide), ?_⟩
      walk_at "w"
      refine letters_draw _ _ _ _ _ _ fun l ll lb => ?_
      rw [lt] at ll
      have l6 : l.length ≤ 6 := by omega
      have lx : (tx l).length = l.length := tx_len l
      have s1 : ((l.map fun i => (⟨#[97 + i]⟩ : Str)).map fun x => x.length).sum = l.length := by
        rw [List.map_map]
        exact ones_sum l
      have s2 : ("" : Str).length = 0 := rfl
      walk_at "w"
      refine ⟨l.map fun i => (⟨#[97 + i]⟩ : Str), by rw [List.map_map]; rfl, ?_⟩
      rw [tx_join]
      refine ⟨by rw [s1, s2, Nat.mul_zero]; omega, ?_⟩
      walk_at "w"
      refine ⟨Nat.le_trans (show ("q" : Str).length + (tx l).length ≤ 10 by have e : ("q" : Str).length = 1 := rfl; omega) (by decide), ?_⟩
      walk_at "w"
      rw [Int.toNat_natCast]
      refine ⟨⟨by omega, by omega⟩, ?_⟩
      walk_at "w"
      refine ⟨Nat.le_trans (show (rgD 0 n).length ≤ 8 by omega) (by decide), ?_⟩
      walk_at "w"
      refine lnames_comp f l l6 _ _ _ _ n 0 _ ?_ (by omega)
      walk_at "w"
      have e : ((List.range' 0 n).map fun k => D.str (nameL ((f + 5 * k) % 26) l)) = ((List.range' 0 n).map fun k => nameL ((f + 5 * k) % 26) l).map D.str := by rw [List.map_map]; rfl
      rw [e]
      refine fin ⟨by rw [List.length_map, List.length_range'], fun z m => ?_, nodup_map_range hn _ fun i j hi hj e => ?_⟩ ⟨fun _ h => h, trivial, outs_nil⟩
      · obtain ⟨k, _, rfl⟩ := List.mem_map.mp m
        exact nameL_ok (Nat.mod_lt _ (by decide)) l6 lb
      · exact Decidable.byContradiction fun ne => fives hf hi hj ne (nameL_inj e)⟩
/-! ### given_of -/
theorem gget_of : ∀ {g : Giv} {p : Str × Th}, (g.map fun p => p.1).Nodup → p ∈ g → gget g p.1 = p.2
  | [], p, _, h => by cases h
  | q :: r, p, nu, h => by
    rw [List.map_cons, List.nodup_cons] at nu
    show (if q.1 = p.1 then q.2 else gget r p.1) = p.2
    rcases List.mem_cons.mp h with e | m
    · rw [e, if_pos rfl]
    · rw [if_neg fun e => nu.1 (by rw [e]; exact List.mem_map_of_mem (f := fun p : Str × Th => p.1) m)]
      exact gget_of nu.2 m
theorem gn_mem {g : Giv} {p : Str × Th} (h : p ∈ g) : (p.1, p.2.kd) ∈ gn g := List.mem_map_of_mem (f := fun p : Str × Th => (p.1, p.2.kd)) h
theorem kv_any : ∀ {g : Giv} {p : Str × Th}, p ∈ g → ((kvD g).any fun kv => decide (kv.1 = Sum.inr p.1)) = true
  | q :: r, p, h => by
    show (decide ((Sum.inr q.1 : Key) = Sum.inr p.1) || (kvD r).any fun kv => decide (kv.1 = Sum.inr p.1)) = true
    rcases List.mem_cons.mp h with e | m
    · rw [e, decide_eq_true rfl]; rfl
    · rw [kv_any m, Bool.or_true]
theorem pairs_kv : ∀ g : Giv, pairsD (g.map fun p => .tup [.str p.1, p.2.toD]) = some (kvD g)
  | [] => rfl
  | p :: r => by
    show (match keyD (.str p.1), pairsD (r.map fun p => D.tup [.str p.1, p.2.toD]) with
      | some key, some kvs => some ((key, p.2.toD) :: kvs)
      | _, _ => none) = _
    rw [pairs_kv r]
    rfl
theorem merge_kv {g : Giv} (nu : (g.map fun p => p.1).Nodup) : mergeD [] (kvD g) = kvD g := by
  refine mergeD_nd (kvs := []) (more := kvD g) ?_
  rw [List.nil_append]
  have e : (kvD g).map (·.1) = (g.map fun p => p.1).map (Sum.inr : Str → Key) := by
    rw [kvD, List.map_map, List.map_map]; rfl
  rw [e]
  exact nu.map _ fun a b n z => n (Sum.inr.inj z)
set_option maxHeartbeats 4000000 in
theorem tree_comp (c0 : Cell) : ∀ (l : List Int) (n : Nat) (Q : List D → DEnv → Prop), (∀ (k : Nat) (p : Int), l[k]? = some p → 0 ≤ p ∧ p ≤ ((n + k : Nat) : Int)) → Q (l.map fun _ => .bl true) [c0, .none, .none] →
    mapL [1, 2] (gTupD 2 (gConsD (gN 1) (gConsD (gN 2) gNilD))) qYes (t_is_tree_1 sp_is_whole) (enumD n (l.map D.int)) [c0, .none, .none] Q
  | [], n, Q, hk, h => by
    walk_at "mn"
    exact h
  | p :: r, n, Q, hk, h => by
    have h0 := hk 0 p rfl
    walk_at "mc"
    walk_at "ei"
    rename_i b hb
    have hb : b = true := hb
    subst hb
    walk_at "w"
    have e1 : decide (0 ≤ p) = true := decide_eq_true h0.1
    have e2 : decide (p ≤ (n : Nat)) = true := decide_eq_true h0.2
    rw [e1]
    walk_at "w"
    rw [e2]
    refine tree_comp c0 r (n + 1) _ (fun k q hq => ?_) h
    have := hk (k + 1) q (by simpa using hq)
    rw [show n + 1 + k = n + (k + 1) by omega]
    exact this
def sp_is_tree : FSpec := fun cs Q => ∃ l : List Int, cs = [.val (.tup (l.map D.int))] ∧ (Th.tree l).Ok ∧ Q (.bl true) [.none]
set_option maxHeartbeats 4000000 in
theorem ok_is_tree (T : Txt K w mg) : K_is_tree P w base T 2 sp_is_tree :=
  okD T.F_is_tree sc_is_tree fun cdv A outer s H E B cs Q hr hl hs => ⟨_, d_is_tree T (ok_is_whole T) (by decide) hr, by
    obtain ⟨l, rfl, ok, hq⟩ := hs
    have lk : l.length ≤ 11 := par_len ok
    have hk : ∀ (k : Nat) (p : Int), l[k]? = some p → 0 ≤ p ∧ p ≤ ((0 + k : Nat) : Int) := by
      cases ok with
      | tree h b => intro k p e; rw [Nat.zero_add]; exact b k p e
    have e1 : decide ((12 : Int) ≤ ((l.map D.int).length : Nat)) = false := decide_eq_false (by rw [List.length_map]; omega)
    walk_at "w"
    walk_at "ei"
    rw [e1]
    walk_at "w"
    refine ⟨by rw [enumD_len, List.length_map]; exact Nat.le_trans lk (by decide), ?_⟩
    walk_at "w"
    refine tree_comp _ l 0 _ hk ?_
    walk_at "w"
    refine ⟨_, map_tt l, ?_⟩
    rw [all_tt]
    exact ⟨[.none], rfl, ⟨trivial, outs_nil⟩, hq⟩⟩
set_option maxHeartbeats 4000000 in
theorem row_comp (s2 : FSpec) (c0 c1 c2 : Cell) : ∀ (l : List Int) (Q : List D → DEnv → Prop), Q (l.map fun _ => .bl true) [c0, c1, c2, .none] →
    mapL [3] (gN 3) qYes (t_is_of_1 sp_is_whole s2) (l.map D.int) [c0, c1, c2, .none] Q
  | [], Q, h => by
    walk_at "mn"
    exact h
  | p :: r, Q, h => by
    walk_at "mc"
    walk_at "ei"
    rename_i b hb
    have hb : b = true := hb
    subst hb
    exact row_comp s2 c0 c1 c2 r _ h
set_option maxHeartbeats 4000000 in
theorem text_comp (s1 s2 : FSpec) (c0 c1 c3 : Cell) : ∀ (cs : List Nat) (Q : List D → DEnv → Prop), (∀ c ∈ cs, c ∈ letsL) → Q (cs.map fun _ => .bl true) [c0, c1, .none, c3] →
    mapL [2] (gN 2) qYes (t_is_of_2 s1 s2) (cs.map fun c => D.str ⟨#[c]⟩) [c0, c1, .none, c3] Q
  | [], Q, hk, h => by
    walk_at "mn"
    exact h
  | d :: r, Q, hk, h => by
    walk_at "mc"
    refine ⟨d, rfl, ?_⟩
    have e : decide (d ∈ letsL) = true := decide_eq_true (hk d List.mem_cons_self)
    show mapL [2] (gN 2) qYes (t_is_of_2 s1 s2) (r.map fun c => D.str ⟨#[c]⟩) [c0, c1, .none, c3] fun xs env => Q (D.bl (decide (d ∈ letsL)) :: xs) env
    rw [e]
    exact text_comp s1 s2 c0 c1 c3 r _ (fun d m => hk d (List.mem_cons_of_mem _ m)) h
theorem lets_in {i : Nat} (h : i < 26) : 97 + i ∈ letsL := by
  have key : ∀ i, i < 26 → 97 + i ∈ letsL := by decide +kernel
  exact key i h
def sp_is_of : FSpec := fun cs Q => ∃ t : Th, cs = [.val (.str t.kd), .val t.toD] ∧ t.Ok ∧ Q (.bl true) [.none, .none]
set_option maxHeartbeats 4000000 in
theorem ok_is_of (T : Txt K w mg) : K_is_of P w base T 3 sp_is_of :=
  okD T.F_is_of sc_is_of fun cdv A outer s H E B cs Q hr hl hs => ⟨_, d_is_of T (ok_is_whole T) (by decide) (ok_is_tree T) (by decide) hr, by
    obtain ⟨t, rfl, ok, hq⟩ := hs
    have fin : ∀ {env : DEnv}, Outs env [.none, .none] → ∃ cs' : List Cell, cs'.length = 2 ∧ Outs env cs' ∧ Q (.bl true) cs' := fun o => ⟨_, rfl, o, hq⟩
    cases ok with
    | @num i h =>
      walk_at "w"
      walk_at "ei"
      rename_i b hb
      have hb : b = true := hb
      subst hb
      exact fin ⟨trivial, trivial, outs_nil⟩
    | @row l lh lb =>
      have e1 : decide (((l.map D.int).length : Int) ≤ 12) = true := decide_eq_true (by rw [List.length_map]; omega)
      walk_at "w"
      walk_at "ei"
      rw [e1]
      walk_at "w"
      refine ⟨by rw [List.length_map]; exact Nat.le_trans lh (by decide), ?_⟩
      walk_at "w"
      refine row_comp _ _ _ _ l _ ?_
      walk_at "w"
      refine ⟨_, map_tt l, ?_⟩
      rw [all_tt]
      exact fin ⟨trivial, trivial, outs_nil⟩
    | @text l lh lb =>
      have ls : (tx l).length ≤ 12 := by rw [tx_len]; exact lh
      have e1 : decide (((tx l).length : Int) ≤ 12) = true := decide_eq_true (by omega)
      walk_at "w"
      walk_at "ei"
      refine ⟨Nat.le_trans ls (by decide), ?_⟩
      walk_at "w"
      rw [e1]
      walk_at "w"
      refine ⟨by rw [List.length_map, Array.length_toList]; exact Nat.le_trans ls (by decide), ?_⟩
      walk_at "w"
      refine text_comp _ _ _ _ _ (tx l).cps.toList _ (fun c m => ?_) ?_
      · have m : c ∈ (l.map fun i => 97 + i).toArray.toList := m
        rw [List.toList_toArray] at m
        obtain ⟨i, hi, rfl⟩ := List.mem_map.mp m
        exact lets_in (lb i hi)
      walk_at "w"
      refine ⟨_, map_tt _, ?_⟩
      rw [all_tt]
      exact fin ⟨trivial, trivial, outs_nil⟩
    | @tree l lh lb =>
      walk_at "w"
      walk_at "ei"
      refine ⟨.tree lh lb, ?_⟩
      walk_at "w"
      exact fin ⟨trivial, trivial, outs_nil⟩⟩
def sp_copied : FSpec := fun cs Q => ∃ t : Th, cs = [.val t.toD] ∧ t.Ok ∧ Q t.toD [.none]
set_option maxHeartbeats 4000000 in
theorem ok_copied (T : Txt K w mg) : K_copied P w base T 1 sp_copied :=
  okD T.F_copied sc_copied fun cdv A outer s H E B cs Q hr hl hs => ⟨_, d_copied T hr, by
    obtain ⟨t, rfl, ok, hq⟩ := hs
    cases ok
    all_goals
      walk_at "w"
      walk_at "ei"
      exact ⟨[.none], rfl, ⟨trivial, outs_nil⟩, hq⟩⟩
def sp_given_of : FSpec := fun cs Q => ∃ (g : Giv) (d : D), cs = [.val (.tup [ndD (gn g), d]), .val (gvD g)] ∧ Gok g ∧ Q (gvD g) [.none, .none]
set_option maxHeartbeats 4000000 in
theorem given_loop (g : Giv) (hg : Gok g) (c0 c2 : Cell) (DD : DEnds) (hx : ∀ c3 c4, DD.nx [c0, .val (gvD g), c2, c3, c4]) : ∀ (r : Giv) (c3 c4 : Cell), (∀ p ∈ r, p ∈ g) →
    forL (fun x DD env => gTupD 2 (gConsD (gN 3) (gConsD (gN 4) gNilD)) x env fun env2 => t_given_of_1 sp_is_of sp_copied DD env2) ((gn r).map nD) DD [c0, .val (gvD g), c2, c3, c4]
  | [], c3, c4, hk => by
    walk_at "fn"
    exact hx _ _
  | p :: r, c3, c4, hk => by
    have hp := hk p List.mem_cons_self
    have gf := gfind (gn_mem hp)
    rw [gget_of hg.nu hp] at gf
    have ha := kv_any hp
    walk_at "fc"
    walk_at "ei"
    rw [ha]
    walk_at "w"
    refine ⟨_, gf, ?_⟩
    walk_at "w"
    refine ⟨p.2, rfl, hg.ok p hp, ?_⟩
    walk_at "w"
    exact given_loop g hg c0 c2 DD hx r _ _ fun q m => hk q (List.mem_cons_of_mem _ m)
set_option maxHeartbeats 4000000 in
theorem given_comp (g : Giv) (hg : Gok g) (c0 c2 : Cell) : ∀ (r : Giv) (Q : List D → DEnv → Prop), (∀ p ∈ r, p ∈ g) → Q (r.map fun p => .tup [.str p.1, p.2.toD]) [c0, .val (gvD g), c2, .none, .none] →
    mapL [3, 4] (gTupD 2 (gConsD (gN 3) (gConsD (gN 4) gNilD))) qYes (t_given_of_2 sp_is_of sp_copied) ((gn r).map nD) [c0, .val (gvD g), c2, .none, .none] Q
  | [], Q, hk, h => by
    walk_at "mn"
    exact h
  | p :: r, Q, hk, h => by
    have hp := hk p List.mem_cons_self
    have gf := gfind (gn_mem hp)
    rw [gget_of hg.nu hp] at gf
    walk_at "mc"
    walk_at "ei"
    refine ⟨_, gf, ?_⟩
    walk_at "w"
    refine ⟨p.2, rfl, hg.ok p hp, ?_⟩
    walk_at "w"
    refine ⟨show 2 ≤ sizeLine by decide, ?_⟩
    walk_at "w"
    refine given_comp g hg c0 c2 r _ (fun q m => hk q (List.mem_cons_of_mem _ m)) ?_
    exact h
set_option maxHeartbeats 4000000 in
theorem ok_given_of (T : Txt K w mg) : K_given_of P w base T 4 sp_given_of :=
  okD T.F_given_of sc_given_of fun cdv A outer s H E B cs Q hr hl hs => ⟨_, d_given_of T (ok_is_of T) (by decide) (ok_copied T) (by decide) hr, by
    obtain ⟨g, d, rfl, hg, hq⟩ := hs
    have ll : ((kvD g).length : Int) = (((gn g).map nD).length : Nat) := by rw [kvD, gn, List.length_map, List.length_map, List.length_map]
    have e1 : decide (((kvD g).length : Int) = (((gn g).map nD).length : Nat)) = true := decide_eq_true ll
    walk_at "w"
    walk_at "ei"
    rw [e1]
    walk_at "w"
    have sz : ((gn g).map nD).length ≤ sizeLine := by rw [gn, List.length_map, List.length_map]; exact Nat.le_trans hg.le (by decide)
    walk_at "ei"
    refine given_loop g hg _ _ _ (fun c3 c4 => ?_) g _ _ fun p m => m
    walk_at "w"
    walk_at "ei"
    refine given_comp g hg _ _ g _ (fun p m => m) ?_
    walk_at "w"
    refine ⟨_, pairs_kv g, ?_⟩
    rw [merge_kv hg.nu]
    walk_at "w"
    exact ⟨[.none, .none], rfl, ⟨trivial, trivial, outs_nil⟩, hq⟩⟩
/-! ### the calls of a body, generic -/
mutual
/-- the calls of a body, from left to right -/
inductive Cin : Nat → D → List D → List D → Prop
  | none {n : Nat} {ts : List D} : Cin (n + 1) (.tup [.str "none"]) ts []
  | gain {n : Nat} {ts : List D} {s : D} : Cin (n + 1) (.tup [.str "gain", s]) ts []
  | call {n : Nat} {ts : List D} {g a : D} : Cin (n + 1) (.tup [.str "call", g, a]) ts [.tup [g, a, .lst ts]]
  | turn {n : Nat} {ts r : List D} {w : Str} {lo hi b : D} (hw : w = "each" ∨ w = "all") (hl : ts.length ≤ 100) (hb : Cin n b (ts ++ [.tup [lo, hi]]) r) : Cin (n + 1) (.tup [.str w, lo, hi, b]) ts r
  | both {n : Nat} {ts r : List D} {a b : D} (h : CinL n [a, b] ts r) : Cin (n + 1) (.tup [.str "both", a, b]) ts r
  | choose {n : Nat} {ts r bs : List D} (hl : bs.length ≤ 100) (h : CinL n bs ts r) : Cin (n + 1) (.tup [.str "choose", .tup bs]) ts r
  | ite {n : Nat} {ts r : List D} {c a b : D} (h : CinL n [a, b] ts r) : Cin (n + 1) (.tup [.str "if", c, a, b]) ts r
inductive CinL : Nat → List D → List D → List D → Prop
  | nil {n : Nat} {ts : List D} : CinL n [] ts []
  | cons {n : Nat} {ts r s : List D} {b : D} {bs : List D} (h : Cin n b ts r) (t : CinL n bs ts s) : CinL n (b :: bs) ts (r ++ s)
end
def sp_calls_in (n : Nat) : FSpec := fun cs Q => ∃ (b : D) (ts r : List D), cs = [.val b, .val (.lst ts)] ∧ Cin n b ts r ∧ r.length ≤ 1000 ∧ Q (.lst r) [.none, .none]
theorem no_calls_in (T : Txt K w mg) : K_calls_in P w base T 1 (fun _ _ => False) := okD T.F_calls_in sc_calls_in fun _ _ _ _ _ _ _ _ _ _ _ hs => hs.elim
def sp_ci : Nat → FSpec
  | 0 => fun _ _ => False
  | n + 1 => sp_calls_in n
set_option maxHeartbeats 4000000 in
theorem calls_loop (n : Nat) (ts : List D) (DD : DEnds) (c0 c2 c3 : Cell) : ∀ (bs r acc : List D) (c5 : Cell), CinL n bs ts r → acc.length + r.length ≤ 1000 → (∀ c5, DD.nx [c0, .val (.lst ts), c2, c3, .own true (.lst (acc ++ r)), c5]) →
    forL (fun d DD env => gN 5 d env fun env2 => t_calls_in_1 (sp_calls_in n) DD env2) bs DD [c0, .val (.lst ts), c2, c3, .own true (.lst acc), c5]
  | [], r, acc, c5, hc, hl, h => by
    cases hc
    walk_at "fn"
    rw [List.append_nil] at h
    exact h c5
  | b :: bs, r, acc, c5, hc, hl, h => by
    cases hc with
    | @cons _ _ r1 s _ _ hb ht =>
      rw [List.length_append] at hl
      have ih := calls_loop n ts DD c0 c2 c3 bs s (acc ++ r1)
      walk_at "fc"
      refine ⟨b, ts, r1, rfl, hb, by omega, ?_⟩
      walk_at "w"
      refine ⟨Nat.le_trans (show acc.length + r1.length ≤ 1000 by omega) (by decide), ?_⟩
      walk_at "w"
      exact ih _ ht (by rw [List.length_append]; omega) fun c5 => by rw [List.append_assoc]; exact h c5
set_option maxHeartbeats 8000000 in
theorem calls_step (T : Txt K w mg) {k n : Nat} (G : K_calls_in P w base T k (sp_ci n)) : K_calls_in P w base T (k + 1) (sp_calls_in n) :=
  okD T.F_calls_in sc_calls_in fun cdv A outer s H E B cs Q hr hl hs => ⟨_, d_calls_in T G (Nat.le_refl _) hr, by
    obtain ⟨b, ts, r, rfl, hc, hr1, hq⟩ := hs
    have fin : ∀ {env : DEnv}, Outs env [.none, .none] → ∃ cs' : List Cell, cs'.length = 2 ∧ Outs env cs' ∧ Q (.lst r) cs' := fun o => ⟨_, rfl, o, hq⟩
    cases hc with
    | none =>
      walk_at "w"
      walk_at "ei"
      walk_at "fn"
      exact fin ⟨trivial, trivial, outs_nil⟩
    | gain =>
      walk_at "w"
      walk_at "ei"
      walk_at "fn"
      exact fin ⟨trivial, trivial, outs_nil⟩
    | call =>
      walk_at "w"
      walk_at "ei"
      exact fin ⟨trivial, trivial, outs_nil⟩
    | @turn n _ _ w lo hi bd hw hl hb =>
      rcases hw with rfl | rfl
      all_goals
        walk_at "w"
        walk_at "ei"
        refine ⟨Nat.le_trans (show ts.length + 1 ≤ 1000 by omega) (by decide), ?_⟩
        walk_at "w"
        refine ⟨bd, ts ++ [.tup [lo, hi]], r, rfl, hb, hr1, ?_⟩
        walk_at "w"
        exact fin ⟨trivial, trivial, outs_nil⟩
    | @both n _ _ a c h =>
      walk_at "w"
      walk_at "ei"
      refine calls_loop n ts _ _ _ _ [a, c] r [] _ h (by rw [List.length_nil]; omega) fun c5 => ?_
      walk_at "w"
      exact fin ⟨trivial, trivial, outs_nil⟩
    | @choose n _ _ bs hl h =>
      walk_at "w"
      walk_at "ei"
      refine calls_loop n ts _ _ _ _ bs r [] _ h (by rw [List.length_nil]; omega) fun c5 => ?_
      walk_at "w"
      exact fin ⟨trivial, trivial, outs_nil⟩
    | @ite n _ _ c a d h =>
      walk_at "w"
      walk_at "ei"
      refine calls_loop n ts _ _ _ _ [a, d] r [] _ h (by rw [List.length_nil]; omega) fun c5 => ?_
      walk_at "w"
      exact fin ⟨trivial, trivial, outs_nil⟩⟩
theorem ok_calls_in (T : Txt K w mg) : ∀ n : Nat, K_calls_in P w base T (n + 2) (sp_calls_in n)
  | 0 => calls_step T (no_calls_in T)
  | n + 1 => calls_step T (ok_calls_in T n)
/-! ### == of sums: they may be compared -/
theorem nok_str {s : Str} (h : nokB s = true) : PyData.strOk s = true := by
  have key : ∀ c ∈ letsL, c < 0x110000 := by decide
  unfold nokB at h
  rw [Bool.and_eq_true] at h
  have h2 := (Bool.and_eq_true _ _).mp h.2
  rw [List.all_eq_true] at h2
  show s.cps.all (· < 0x110000) = true
  rw [Array.all_eq_true']
  intro c m
  exact decide_eq_true (key c (List.contains_iff_mem.mp (h2.2 c (Array.mem_toList_iff.mpr m))))
def LayD (n : Nat) (d : D) : Prop := d.pl = true ∧ PyData.canLay0 d.py = true ∧ PyData.depth d.py ≤ n
theorem layA : ∀ {n : Nat} {ds : List D}, (∀ d ∈ ds, LayD n d) → D.pls ds = true ∧ PyData.canLayAll0 (D.pys ds) = true ∧ PyData.depthAll (D.pys ds) ≤ n
  | n, [], _ => ⟨rfl, rfl, Nat.zero_le _⟩
  | n, d :: r, h => by
    obtain ⟨h0, h1, h2⟩ := layA fun e m => h e (List.mem_cons_of_mem _ m)
    obtain ⟨a0, a1, a2⟩ := h d List.mem_cons_self
    rw [D.pys, D.pls, PyData.canLayAll0, PyData.depthAll, h0, h1, a0, a1]
    exact ⟨rfl, rfl, by omega⟩
theorem layT {n : Nat} {ds : List D} (h : ∀ d ∈ ds, LayD n d) : LayD (n + 1) (.tup ds) := by
  obtain ⟨h0, h1, h2⟩ := layA h
  refine ⟨by rw [D.pl]; exact h0, by rw [D.py, PyData.canLay0]; exact h1, ?_⟩
  rw [D.py, PyData.depth]; omega
theorem layS {n : Nat} {s : Str} (h : PyData.strOk s = true) : LayD n (.str s) := ⟨rfl, h, Nat.zero_le _⟩
theorem layI {n : Nat} (i : Int) : LayD n (.int i) := ⟨rfl, rfl, Nat.zero_le _⟩
theorem LayD.up {n m : Nat} {d : D} (h : LayD n d) (l : n ≤ m) : LayD m d := ⟨h.1, h.2.1, Nat.le_trans h.2.2 l⟩
theorem lay2 {n : Nat} {a b : D} (ha : LayD n a) (hb : LayD n b) : LayD (n + 1) (.tup [a, b]) := layT fun d m => by
  rcases List.mem_cons.mp m with e | m
  · rw [e]; exact ha
  · rw [List.mem_singleton.mp m]; exact hb
theorem lay3 {n : Nat} {a b c : D} (ha : LayD n a) (hb : LayD n b) (hc : LayD n c) : LayD (n + 1) (.tup [a, b, c]) := layT fun d m => by
  rcases List.mem_cons.mp m with e | m
  · rw [e]; exact ha
  · rcases List.mem_cons.mp m with e | m
    · rw [e]; exact hb
    · rw [List.mem_singleton.mp m]; exact hc
theorem lay4 {n : Nat} {a b c e : D} (ha : LayD n a) (hb : LayD n b) (hc : LayD n c) (he : LayD n e) : LayD (n + 1) (.tup [a, b, c, e]) := layT fun d m => by
  rcases List.mem_cons.mp m with z | m
  · rw [z]; exact ha
  · rcases List.mem_cons.mp m with z | m
    · rw [z]; exact hb
    · rcases List.mem_cons.mp m with z | m
      · rw [z]; exact hc
      · rw [List.mem_singleton.mp m]; exact he
theorem deep_of {a b : D} (ha : LayD 60 a) (hb : LayD 60 b) : deepOk a b := by
  have sh : ∀ {d : D}, LayD 60 d → SeqAt.shaped d.py = true := fun h => by
    unfold SeqAt.shaped
    rw [h.2.1, Bool.true_and]
    exact decide_eq_true (Nat.le_trans h.2.2 (by decide))
  exact ⟨ha.1, hb.1, sh ha, sh hb⟩
/-- the names of needs -/
def Nmo (nd : List (Str × Str)) : Prop := ∀ p ∈ nd, PyData.strOk p.1 = true
theorem Nds.nmo {nd : List (Str × Str)} (h : Nds nd) : Nmo nd := fun p m => nok_str (h.nm p m)
theorem wds_ok : ∀ w ∈ (["num", "own", "need", "size", "at", "kids", "kid"] : List Str), PyData.strOk w = true := by decide +kernel
theorem ex_lay {nd : List (Str × Str)} (hn : Nmo nd) {m : Nat} {t : Ex} (h : Ex.Ok nd m t) : LayD (t.dep + 1) t.toD := by
  induction h with
  | num h => exact lay2 (layS (wds_ok _ (by decide))) (layI _)
  | own h => exact lay2 (layS (wds_ok _ (by decide))) (layI _)
  | need h => exact lay2 (layS (wds_ok _ (by decide))) (layS (hn _ h))
  | size h hk => exact lay2 (layS (wds_ok _ (by decide))) (layS (hn _ h))
  | plc h hk he ih => exact lay3 (layS (wds_ok _ (by decide))) (layS (hn _ h)) ih
  | kids h he ih => exact lay3 (layS (wds_ok _ (by decide))) (layS (hn _ h)) ih
  | @kid x e f h he hf ih1 ih2 =>
    show LayD (max e.dep f.dep + 1 + 1) _
    exact lay4 (layS (wds_ok _ (by decide))) (layS (hn _ h)) (ih1.up (by omega)) (ih2.up (by omega))
  | un hw ha ih =>
    have : ∀ w ∈ unW, PyData.strOk w = true := by decide +kernel
    exact lay2 (layS (this _ hw)) ih
  | @bin w a b hw ha hb ih1 ih2 =>
    have : ∀ w ∈ biW, PyData.strOk w = true := by decide +kernel
    show LayD (max a.dep b.dep + 1 + 1) _
    exact lay3 (layS (this _ hw)) (ih1.up (by omega)) (ih2.up (by omega))
/-! ### programs with a number, a row, a text and a tree -/
def nd4 (a b c d : Str) : List (Str × Str) := [(a, "number"), (b, "row"), (c, "text"), (d, "tree")]
/-- what is given -/
structure G4 (a b c d : Str) (g : Giv) : Prop where
  ex : ∃ (i : Int) (l : List Int) (x : List Nat) (p : List Int), g = [(a, .num i), (b, .row l), (c, .text x), (d, .tree p)] ∧ l.length ≤ 5 ∧ x.length ≤ 5 ∧ p.length ≤ 5
  ok : Gok g
theorem G4.nd {a b c d : Str} {g : Giv} (h : G4 a b c d g) : gn g = nd4 a b c d := by
  obtain ⟨i, l, x, p, rfl, _⟩ := h.ex
  rfl
theorem se_num {nd : List (Str × Str)} {own S : Nat} {i : Int} (h0 : -1000 ≤ i) (h1 : i ≤ 1000) : SE nd own (S + 1) (.num i) := ⟨.num (bd_big (by omega) (by omega)), by show 0 + 1 ≤ S + 1; omega⟩
theorem se_own {nd : List (Str × Str)} {own S k : Nat} (h : k < own) : SE nd own (S + 1) (.own k) := ⟨.own h, by show 0 + 1 ≤ S + 1; omega⟩
theorem se_need {a b c d : Str} {own S : Nat} : SE (nd4 a b c d) own (S + 1) (.need a) := ⟨.need (by simp [nd4]), by show 0 + 1 ≤ S + 1; omega⟩
theorem se_szb {a b c d : Str} {own S : Nat} : SE (nd4 a b c d) own (S + 1) (.size b) := ⟨.size (k := "row") (by simp [nd4]) (.inl rfl), by show 0 + 1 ≤ S + 1; omega⟩
theorem se_szc {a b c d : Str} {own S : Nat} : SE (nd4 a b c d) own (S + 1) (.size c) := ⟨.size (k := "text") (by simp [nd4]) (.inr (.inl rfl)), by show 0 + 1 ≤ S + 1; omega⟩
theorem se_szd {a b c d : Str} {own S : Nat} : SE (nd4 a b c d) own (S + 1) (.size d) := ⟨.size (k := "tree") (by simp [nd4]) (.inr (.inr rfl)), by show 0 + 1 ≤ S + 1; omega⟩
theorem se_plc {a b c d : Str} {own S : Nat} {e : Ex} (h : SE (nd4 a b c d) own S e) : SE (nd4 a b c d) own (S + 1) (.plc b e) := ⟨.plc (k := "row") (by simp [nd4]) (.inl rfl) h.1, by have := h.2; show e.dep + 1 + 1 ≤ S + 1; omega⟩
theorem se_kids {a b c d : Str} {own S : Nat} {e : Ex} (h : SE (nd4 a b c d) own S e) : SE (nd4 a b c d) own (S + 1) (.kids d e) := ⟨.kids (by simp [nd4]) h.1, by have := h.2; show e.dep + 1 + 1 ≤ S + 1; omega⟩
theorem se_kid {a b c d : Str} {own S : Nat} {e f : Ex} (h : SE (nd4 a b c d) own S e) (h2 : SE (nd4 a b c d) own S f) : SE (nd4 a b c d) own (S + 1) (.kid d e f) := ⟨.kid (by simp [nd4]) h.1 h2.1, by have := h.2; have := h2.2; show max e.dep f.dep + 1 + 1 ≤ S + 1; omega⟩
theorem se_bin {nd : List (Str × Str)} {own S : Nat} {w : Str} {a b : Ex} (hw : w ∈ biW) (ha : SE nd own S a) (hb : SE nd own S b) : SE nd own (S + 1) (.bin w a b) := ⟨.bin hw ha.1 hb.1, by have := ha.2; have := hb.2; show max a.dep b.dep + 1 + 1 ≤ S + 1; omega⟩
theorem se_un {nd : List (Str × Str)} {own S : Nat} {w : Str} {a : Ex} (hw : w ∈ unW) (ha : SE nd own S a) : SE nd own (S + 1) (.un w a) := ⟨.un hw ha.1, by have := ha.2; show a.dep + 1 + 1 ≤ S + 1; omega⟩
theorem one_of {p : Ex → Prop} {a : Ex} (h : p a) : ∀ t ∈ [a], p t := fun t m => by rw [List.mem_singleton.mp m]; exact h
theorem two_of {p : Ex → Prop} {a b : Ex} (h : p a) (h2 : p b) : ∀ t ∈ [a, b], p t := fun t m => by
  rcases List.mem_cons.mp m with e | m
  · rw [e]; exact h
  · rw [List.mem_singleton.mp m]; exact h2
theorem three_of {p : Ex → Prop} {a b c : Ex} (h : p a) (h2 : p b) (h3 : p c) : ∀ t ∈ [a, b, c], p t := fun t m => by
  rcases List.mem_cons.mp m with e | m
  · rw [e]; exact h
  · exact two_of h2 h3 t m
theorem bone_of {p : Bo → Prop} {a : Bo} (h : p a) : ∀ t ∈ [a], p t := fun t m => by rw [List.mem_singleton.mp m]; exact h
theorem btwo_of {p : Bo → Prop} {a b : Bo} (h : p a) (h2 : p b) : ∀ t ∈ [a, b], p t := fun t m => by
  rcases List.mem_cons.mp m with e | m
  · rw [e]; exact h
  · rw [List.mem_singleton.mp m]; exact h2
theorem bthree_of {p : Bo → Prop} {a b c : Bo} (h : p a) (h2 : p b) (h3 : p c) : ∀ t ∈ [a, b, c], p t := fun t m => by
  rcases List.mem_cons.mp m with e | m
  · rw [e]; exact h
  · exact btwo_of h2 h3 t m
theorem szs_le {k : Nat} : ∀ {bs : List Bo}, (∀ b ∈ bs, b.sz ≤ k) → Bo.szs bs ≤ k * bs.length
  | [], _ => Nat.le_refl _
  | b :: r, h => by
    have h1 := h b List.mem_cons_self
    have h2 := szs_le (bs := r) fun b m => h b (List.mem_cons_of_mem _ m)
    rw [Bo.szs, List.length_cons, Nat.mul_succ]; omega
theorem dps_le {k : Nat} : ∀ {bs : List Bo}, (∀ b ∈ bs, b.dp ≤ k) → Bo.dps bs ≤ k
  | [], _ => Nat.zero_le _
  | b :: r, h => by
    have h1 := h b List.mem_cons_self
    have h2 := dps_le (bs := r) fun b m => h b (List.mem_cons_of_mem _ m)
    rw [Bo.dps]; omega
theorem exs_sz {k : Nat} : ∀ {as : List Ex}, (∀ t ∈ as, t.sz ≤ k) → (as.map Ex.sz).sum ≤ k * as.length
  | [], _ => Nat.le_refl _
  | b :: r, h => by
    have h1 := h b List.mem_cons_self
    have h2 := exs_sz (as := r) fun b m => h b (List.mem_cons_of_mem _ m)
    rw [List.map_cons, List.sum_cons, List.length_cons, Nat.mul_succ]; omega
theorem exs_dp {k : Nat} : ∀ {as : List Ex}, (∀ t ∈ as, t.dep + 1 ≤ k) → mxL (as.map fun t => t.dep + 1) ≤ k
  | [], _ => Nat.zero_le _
  | b :: r, h => by
    have h1 := h b List.mem_cons_self
    have h2 := exs_dp (as := r) fun b m => h b (List.mem_cons_of_mem _ m)
    rw [List.map_cons, mxL]; omega
/-- a most, a small one -/
inductive Mz (nd : List (Str × Str)) : Ex → Prop
  | num {i : Int} (h0 : 0 ≤ i) (h1 : i ≤ 1000) : Mz nd (.num i)
  | size {x k : Str} (h : (x, k) ∈ nd) (hk : k = "row" ∨ k = "text" ∨ k = "tree") : Mz nd (.size x)
  | full {x k : Str} (h : (x, k) ∈ nd) (hk : k = "row" ∨ k = "text" ∨ k = "tree") : Mz nd (.un "full" (.size x))
  | less {x k : Str} (h : (x, k) ∈ nd) (hk : k = "row" ∨ k = "text" ∨ k = "tree") : Mz nd (.bin "less" (.size x) (.num 1))
theorem Mz.ok {nd : List (Str × Str)} {m : Nat} {t : Ex} (h : Mz nd t) : Ex.Ok nd m t := by
  cases h with
  | num h0 h => exact .num (bd_big (by omega) (by omega))
  | size h hk => exact .size h hk
  | full h hk => exact .un (by decide) (.size h hk)
  | less h hk => exact .bin (by decide) (.size h hk) (.num (bd_big (by decide) (by decide)))
theorem Mz.dep {nd : List (Str × Str)} {t : Ex} (h : Mz nd t) : t.dep ≤ 1 := by
  cases h <;> exact Nat.le_of_ble_eq_true rfl
theorem Mz.sz {nd : List (Str × Str)} {t : Ex} (h : Mz nd t) : t.sz ≤ 3 := by
  cases h <;> exact Nat.le_of_ble_eq_true rfl
theorem Mz.mok {nd : List (Str × Str)} (hn : Nds nd) {t : Ex} (h : Mz nd t) : Mok nd 2 t.toD := by
  have sz : ∀ {x k : Str}, (x, k) ∈ nd → (k = "row" ∨ k = "text" ∨ k = "tree") → isS nd 0 (.tup [.str "size", .str x]) = true := fun h hk => ex_is hn (m := 0) (.size h hk)
  cases h with
  | num h0 h => exact .num h0
  | size h hk => exact .size (sz h hk)
  | full h hk => exact .full (sz h hk)
  | less h hk => exact .two (.inr rfl) (.size (sz h hk)) (.num (by decide))
/-- a function that is drawn: its mosts, its body, what its mosts come to -/
structure Dt where
  ms : List Ex
  bd : Bo
  li : List Int
def Dt.toD (f : Dt) : D := .tup [.tup (f.ms.map Ex.toD), f.bd.toD, .tup (f.li.map D.int)]
structure Dok (g : Giv) (cn : List Nat) (f : Dt) : Prop where
  m1 : 1 ≤ f.ms.length
  m3 : f.ms.length ≤ 3
  mz : ∀ t ∈ f.ms, Mz (gn g) t
  bo : Bo.Ok (gn g) cn 3 6 f.ms.length 0 f.bd
  sz : f.bd.sz ≤ 60
  dp : f.bd.dp ≤ 12
  li : f.ms.map (Ex.val g []) = f.li.map Rs.ok
def cnT (fs : List Dt) : List Nat := fs.map fun f => f.ms.length
structure Dsh (g : Giv) (fs : List Dt) : Prop where
  l1 : 1 ≤ fs.length
  l4 : fs.length ≤ 4
  ok : ∀ f ∈ fs, Dok g (cnT fs) f
def ns4 (a b c d : Str) (r : List Str) : D := .lst ((a :: b :: c :: d :: r).map .str)
def sp_shape : FSpec := fun cs Q => ∃ (a b c d : Str) (r : List Str) (g : Giv), cs = [.opq false PenQ, .val (ns4 a b c d r), .val (gvD g)] ∧ G4 a b c d g ∧ ∀ fs : List Dt, Dsh g fs → Q (.lst (fs.map Dt.toD)) [.opq false PenQ, .none, .none]
theorem Dsh.one {g : Giv} {f : Dt} (h : Dok g [f.ms.length] f) : Dsh g [f] := ⟨Nat.le_refl _, Nat.le_of_ble_eq_true rfl, fun x m => by rw [List.mem_singleton.mp m]; exact h⟩
/-! ### what is given -/
def sp_l_things : FSpec := fun cs Q => ∃ (a b c d : Str) (r : List Str), cs = [.opq false PenQ, .val (ns4 a b c d r)] ∧ [a, b, c, d].Nodup ∧ ∀ g, G4 a b c d g → Q (gvD g) [.opq false PenQ, .none]
set_option maxHeartbeats 4000000 in
theorem row_draw (c1 c2 c3 c4 c5 c6 : Cell) : ∀ (ds : List D) (Q : List D → DEnv → Prop), (∀ l : List Int, l.length = ds.length → (∀ i ∈ l, -3 ≤ i ∧ i ≤ 10) → Q (l.map D.int) [.opq false PenQ, c1, c2, c3, c4, c5, c6, .none]) →
    mapL [7] (gN 7) qYes (t_l_things_1 sp_l_take) ds [.opq false PenQ, c1, c2, c3, c4, c5, c6, .none] Q
  | [], Q, h => by
    walk_at "mn"
    exact h [] rfl fun i m => by cases m
  | d :: r, Q, h => by
    walk_at "mc"
    walk_at "ei"
    rename_i i i0 i1
    refine row_draw c1 c2 c3 c4 c5 c6 r _ fun l ll lb => ?_
    refine h ((i - 3) :: l) (by rw [List.length_cons, List.length_cons, ll]) fun j m => ?_
    rcases List.mem_cons.mp m with e | m
    · omega
    · exact lb j m
set_option maxHeartbeats 4000000 in
theorem text_draw (c1 c3 c4 c5 c6 : Cell) : ∀ (ds : List D) (Q : List D → DEnv → Prop), (∀ l : List Nat, l.length = ds.length → (∀ i ∈ l, i < 26) → Q (l.map fun i => .str ⟨#[97 + i]⟩) [.opq false PenQ, c1, .val (.str "abcdefghijklmnopqrstuvwxyz"), c3, c4, c5, c6, .none]) →
    mapL [7] (gN 7) qYes (t_l_things_2 sp_l_take) ds [.opq false PenQ, c1, .val (.str "abcdefghijklmnopqrstuvwxyz"), c3, c4, c5, c6, .none] Q
  | [], Q, h => by
    walk_at "mn"
    exact h [] rfl fun i m => by cases m
  | d :: r, Q, h => by
    walk_at "mc"
    walk_at "ei"
    rename_i i i0 i1
    obtain ⟨i, rfl⟩ := Int.eq_ofNat_of_zero_le i0
    refine ⟨97 + i, letter_at (by omega), ?_⟩
    walk_at "w"
    refine text_draw c1 c3 c4 c5 c6 r _ fun l hl hb => ?_
    refine h (i :: l) (by rw [List.length_cons, List.length_cons, hl]) fun j m => ?_
    rcases List.mem_cons.mp m with e | m
    · rw [e]; omega
    · exact hb j m
set_option maxHeartbeats 4000000 in
theorem tree_draw (c1 c2 c3 c4 c5 c6 : Cell) : ∀ (j k : Nat) (Q : List D → DEnv → Prop), (∀ l : List Int, l.length = j → (∀ (n : Nat) (p : Int), l[n]? = some p → 0 ≤ p ∧ p ≤ ((k + n : Nat) : Int)) → Q (l.map D.int) [.opq false PenQ, c1, c2, c3, c4, c5, c6, .none]) → k + j ≤ 100 →
    mapL [7] (gN 7) qYes (t_l_things_3 sp_l_take) (rgD (k : Int) j) [.opq false PenQ, c1, c2, c3, c4, c5, c6, .none] Q
  | 0, k, Q, h, hk => by
    rw [rgD_nil]
    walk_at "mn"
    exact h [] rfl fun n p e => by simp at e
  | j + 1, k, Q, h, hk => by
    rw [rgD_cons]
    walk_at "mc"
    walk_at "ei"
    rename_i i i0 i1
    refine tree_draw c1 c2 c3 c4 c5 c6 j (k + 1) _ (fun l ll lb => ?_) (by omega)
    refine h (i :: l) (by rw [List.length_cons, ll]) fun n p e => ?_
    cases n with
    | zero => rw [List.getElem?_cons_zero] at e; cases e; exact ⟨i0, by omega⟩
    | succ n =>
      rw [List.getElem?_cons_succ] at e
      have := lb n p e
      exact ⟨this.1, by omega⟩
local macro_rules | `(tactic| walk_at "se") => `(tactic| repeat' (first | exact se_own (by omega) | exact se_num (by omega) (by omega) | exact se_need | exact se_szb | exact se_szc | exact se_szd | refine se_plc ?_ | refine se_kids ?_ | refine se_kid ?_ ?_ | refine se_bin (by decide) ?_ ?_ | refine se_un (by decide) ?_))
local macro_rules | `(tactic| walk_at "bo") => `(tactic| repeat' (first | assumption | exact Bo.Ok.none | refine Bo.Ok.gain ?_ | refine Bo.Ok.call rfl ?_ | refine Bo.Ok.call (by assumption) ?_ | refine Bo.Ok.choose (Nat.le_of_ble_eq_true rfl) (Nat.le_of_ble_eq_true rfl) ?_ | refine Bo.Ok.turn (by first | exact .inl rfl | exact .inr rfl | assumption) (by omega) ?_ ?_ ?_ | refine Bo.Ok.both ?_ ?_ | refine Bo.Ok.ite ?_ ?_ ?_ | refine Co.Ok.rel (by first | exact .inl rfl | exact .inr (.inl rfl) | exact .inr (.inr rfl)) ?_ ?_ | refine Co.Ok.not ?_ | refine Co.Ok.two (by first | exact .inl rfl | exact .inr rfl) ?_ ?_ | refine one_of ?_ | refine two_of ?_ ?_ | refine three_of ?_ ?_ ?_ | refine bone_of ?_ | refine btwo_of ?_ ?_ | refine bthree_of ?_ ?_ ?_ | exact se_own (by omega) | exact se_num (by omega) (by omega) | exact se_need | exact se_szb | exact se_szc | exact se_szd | refine se_plc ?_ | refine se_kids ?_ | refine se_kid ?_ ?_ | refine se_bin (by decide) ?_ ?_ | refine se_un (by decide) ?_))
set_option maxHeartbeats 8000000 in
theorem ok_l_things (T : Txt K w mg) : K_l_things P w base T 2 sp_l_things :=
  okD T.F_l_things sc_l_things fun cdv A outer s H E B cs Q hr hl hs => ⟨_, d_l_things T (ok_l_take T) (by decide) hr, by
    obtain ⟨a, b, c, d, r, rfl, nd, hq⟩ := hs
    have p29 : (10 : Int) ^ Int.toNat 29 = 100000000000000000000000000000 := rfl
    have fin : ∀ {g : Giv} {env : DEnv}, G4 a b c d g → Outs env [.opq false PenQ, .none] → ∃ cs' : List Cell, cs'.length = 2 ∧ Outs env cs' ∧ Q (gvD g) cs' := fun h o => ⟨_, rfl, o, hq _ h⟩
    walk_at "w"
    walk_at "ei"
    rename_i x x0 x1 y y0 y1 z z0 z1
    rw [p29]
    refine pick (r := z / 5) (fun d => ∃ i : Int, d = .int i ∧ (-1000000000000000000000000000000 : Int) ≤ i ∧ i ≤ 1000000000000000000000000000000) (by omega) (by show z / 5 < 2; omega) ?_ fun d hd => ?_
    · exact ⟨⟨_, rfl, by omega, by omega⟩, ⟨_, rfl, by omega, by omega⟩, trivial⟩
    obtain ⟨i, rfl, i0, i1⟩ := hd
    walk_at "w"
    walk_at "ei"
    rename_i n n0 n1
    obtain ⟨n, rfl⟩ := Int.eq_ofNat_of_zero_le n0
    rw [Int.toNat_natCast]
    refine ⟨Nat.le_trans (show (rgD 0 n).length ≤ 6 by rw [rgD_len]; omega) (by decide), ?_⟩
    walk_at "w"
    refine row_draw _ _ _ _ _ _ _ _ fun l ll lb => ?_
    rw [rgD_len] at ll
    walk_at "w"
    walk_at "ei"
    rename_i m m0 m1
    obtain ⟨m, rfl⟩ := Int.eq_ofNat_of_zero_le m0
    rw [Int.toNat_natCast]
    refine ⟨Nat.le_trans (show (rgD 0 m).length ≤ 6 by rw [rgD_len]; omega) (by decide), ?_⟩
    walk_at "w"
    refine text_draw _ _ _ _ _ _ _ fun t tl tb => ?_
    rw [rgD_len] at tl
    walk_at "w"
    refine ⟨t.map fun i => (⟨#[97 + i]⟩ : Str), by rw [List.map_map]; rfl, ?_⟩
    have s1 : ((t.map fun i => (⟨#[97 + i]⟩ : Str)).map fun x => x.length).sum = t.length := by
      rw [List.map_map]
      exact ones_sum t
    have s2 : ("" : Str).length = 0 := rfl
    rw [tx_join]
    refine ⟨by rw [s1, s2, Nat.mul_zero]; omega, ?_⟩
    walk_at "w"
    walk_at "ei"
    rename_i j j0 j1
    obtain ⟨j, rfl⟩ := Int.eq_ofNat_of_zero_le j0
    rw [Int.toNat_natCast]
    refine ⟨Nat.le_trans (show (rgD 0 j).length ≤ 6 by rw [rgD_len]; omega) (by decide), ?_⟩
    walk_at "w"
    refine tree_draw _ _ _ _ _ _ j 0 _ (fun p pl pb => ?_) (by omega)
    walk_at "w"
    refine ⟨_, atI_nat (j := 0) rfl, ?_⟩
    walk_at "w"
    refine ⟨_, atI_nat (j := 1) rfl, ?_⟩
    walk_at "w"
    refine ⟨_, atI_nat (j := 2) rfl, ?_⟩
    walk_at "w"
    refine ⟨_, atI_nat (j := 3) rfl, ?_⟩
    walk_at "w"
    refine ⟨Nat.le_of_ble_eq_true rfl, ?_⟩
    have nu : (([(a, Th.num i), (b, .row l), (c, .text t), (d, .tree p)] : Giv).map fun p => p.1).Nodup := nd
    have e := merge_kv nu
    have e : mergeD [] [(Sum.inr a, D.int i), (Sum.inr b, .lst (l.map D.int)), (Sum.inr c, .str (tx t)), (Sum.inr d, .tup (p.map D.int))] = kvD [(a, Th.num i), (b, .row l), (c, .text t), (d, .tree p)] := e
    show (fnEnds _ Q).rt (OC.dct (mergeD [] [(Sum.inr a, D.int i), (Sum.inr b, .lst (l.map D.int)), (Sum.inr c, .str (tx t)), (Sum.inr d, .tup (p.map D.int))])).frz _
    rw [e]
    refine fin ⟨⟨i, l, t, p, rfl, by omega, by omega, by omega⟩, nu, Nat.le_of_ble_eq_true rfl, fun q m => ?_⟩ ⟨fun _ h => h, trivial, outs_nil⟩
    simp only [List.mem_cons, List.not_mem_nil, or_false] at m
    rcases m with rfl | rfl | rfl | rfl
    · exact .num (bd_big (by omega) (by omega))
    · exact .row (by omega) fun i m => bd_big (by have := lb i m; omega) (by have := lb i m; omega)
    · exact .text (by omega) tb
    · exact .tree (by omega) fun k q e => by have := pb k q e; omega⟩
/-! ### what is there -/
theorem G4.row {a b c d : Str} {g : Giv} (h : G4 a b c d g) : ∃ l : List Int, gget g b = .row l ∧ l.length ≤ 5 ∧ ((kvD g).find? fun (kv : Key × D) => decide (kv.1 = Sum.inr b)).map (·.2) = some (.lst (l.map D.int)) := by
  have hb : (b, ("row" : Str)) ∈ gn g := by rw [h.nd]; simp [nd4]
  have f := gfind hb
  have m := gget_mem hb
  have k := gget_kd h.ok.nu hb
  obtain ⟨i, l, x, p, rfl, h1, h2, h3⟩ := h.ex
  generalize gget _ b = t at *
  cases t with
  | row l2 =>
    refine ⟨l2, rfl, ?_, f⟩
    simp only [List.mem_cons, List.not_mem_nil, or_false, Prod.mk.injEq, reduceCtorEq, and_false, false_or, Th.row.injEq] at m
    rw [m.2]; exact h1
  | num i => exact absurd k (by show ¬ (("number" : Str) = "row"); decide)
  | text i => exact absurd k (by show ¬ (("text" : Str) = "row"); decide)
  | tree i => exact absurd k (by show ¬ (("tree" : Str) = "row"); decide)
theorem G4.text {a b c d : Str} {g : Giv} (h : G4 a b c d g) : ∃ l : List Nat, gget g c = .text l ∧ l.length ≤ 5 ∧ ((kvD g).find? fun (kv : Key × D) => decide (kv.1 = Sum.inr c)).map (·.2) = some (.str (tx l)) := by
  have hb : (c, ("text" : Str)) ∈ gn g := by rw [h.nd]; simp [nd4]
  have f := gfind hb
  have m := gget_mem hb
  have k := gget_kd h.ok.nu hb
  obtain ⟨i, l, x, p, rfl, h1, h2, h3⟩ := h.ex
  generalize gget _ c = t at *
  cases t with
  | text l2 =>
    refine ⟨l2, rfl, ?_, f⟩
    simp only [List.mem_cons, List.not_mem_nil, or_false, Prod.mk.injEq, reduceCtorEq, and_false, false_or, Th.text.injEq] at m
    rw [m.2]; exact h2
  | num i => exact absurd k (by show ¬ (("number" : Str) = "text"); decide)
  | row i => exact absurd k (by show ¬ (("row" : Str) = "text"); decide)
  | tree i => exact absurd k (by show ¬ (("tree" : Str) = "text"); decide)
theorem G4.tree {a b c d : Str} {g : Giv} (h : G4 a b c d g) : ∃ l : List Int, gget g d = .tree l ∧ l.length ≤ 5 ∧ ((kvD g).find? fun (kv : Key × D) => decide (kv.1 = Sum.inr d)).map (·.2) = some (.tup (l.map D.int)) := by
  have hb : (d, ("tree" : Str)) ∈ gn g := by rw [h.nd]; simp [nd4]
  have f := gfind hb
  have m := gget_mem hb
  have k := gget_kd h.ok.nu hb
  obtain ⟨i, l, x, p, rfl, h1, h2, h3⟩ := h.ex
  generalize gget _ d = t at *
  cases t with
  | tree l2 =>
    refine ⟨l2, rfl, ?_, f⟩
    simp only [List.mem_cons, List.not_mem_nil, or_false, Prod.mk.injEq, reduceCtorEq, and_false, false_or, Th.tree.injEq] at m
    rw [m.2]; exact h3
  | num i => exact absurd k (by show ¬ (("number" : Str) = "tree"); decide)
  | row i => exact absurd k (by show ¬ (("row" : Str) = "tree"); decide)
  | text i => exact absurd k (by show ¬ (("text" : Str) = "tree"); decide)
def sp_l_less : FSpec := fun cs Q => ∃ (k : Nat) (n : Int), cs = [.val (.int (k : Nat)), .val (.int n)] ∧ Q (Ex.bin "less" (.own k) (.num n)).toD [.none, .none]
set_option maxHeartbeats 4000000 in
theorem ok_l_less (T : Txt K w mg) : K_l_less P w base T 1 sp_l_less :=
  okD T.F_l_less sc_l_less fun cdv A outer s H E B cs Q hr hl hs => ⟨_, d_l_less T hr, by
    obtain ⟨k, n, rfl, hq⟩ := hs
    walk_at "w"
    walk_at "ei"
    exact ⟨[.none, .none], rfl, ⟨trivial, trivial, outs_nil⟩, hq⟩⟩
set_option maxHeartbeats 8000000 in
theorem counted_loop (c1 c2 c5 c6 c7 c8 : Cell) (DD : DEnds) (nd : List (Str × Str)) : ∀ (ds : List D) (bs : List Bo) (c4 c9 : Cell), bs.length + ds.length ≤ 3 → (∀ b ∈ bs, Bo.Ok nd [1] 3 2 1 0 b ∧ b.sz ≤ 7 ∧ b.dp ≤ 4) →
    (∀ (bs2 : List Bo) c4 c9, bs2.length = bs.length + ds.length → (∀ b ∈ bs2, Bo.Ok nd [1] 3 2 1 0 b ∧ b.sz ≤ 7 ∧ b.dp ≤ 4) → DD.nx [.opq false PenQ, c1, c2, .own true (.lst (bs2.map Bo.toD)), c4, c5, c6, c7, c8, c9]) →
    forL (fun d DD env => gN 4 d env fun env2 => t_l_counted_1 sp_l_take sp_l_less DD env2) ds DD [.opq false PenQ, c1, c2, .own true (.lst (bs.map Bo.toD)), c4, c5, c6, c7, c8, c9]
  | [], bs, c4, c9, hl, hb, h => by
    walk_at "fn"
    exact h bs c4 c9 rfl hb
  | d :: r, bs, c4, c9, hl, hb, h => by
    rw [List.length_cons] at hl
    walk_at "fc"
    walk_at "ei"
    rename_i x x0 x1 y y0 y1
    refine ⟨Nat.lt_of_lt_of_le (show (bs.map Bo.toD).length < 5 by rw [List.length_map]; omega) (by decide), ?_⟩
    walk_at "w"
    have ih := counted_loop c1 c2 c5 c6 c7 c8 DD nd r (bs ++ [Bo.both (.call 0 [.bin "less" (.own 0) (.num (1 + x))]) (.gain (.num (y - 1)))])
    rw [List.map_append] at ih
    refine ih _ _ (by rw [List.length_append, List.length_singleton]; omega) (fun b m => ?_) fun bs2 c4 c9 l2 h2 => h bs2 c4 c9 (by rw [l2, List.length_append, List.length_singleton, List.length_cons]; omega) h2
    rcases List.mem_append.mp m with m | m
    · exact hb b m
    · rw [List.mem_singleton.mp m]
      refine ⟨?_, Nat.le_of_ble_eq_true rfl, Nat.le_of_ble_eq_true rfl⟩
      walk_at "bo"
theorem shape_fin {a b c d : Str} {g : Giv} {Q : D → List Cell → Prop} (hg : G4 a b c d g) (hq : ∀ fs : List Dt, Dsh g fs → Q (.lst (fs.map Dt.toD)) [.opq false PenQ, .none, .none]) {env : DEnv} (m : Nat) (ms : List Ex) (bd : Bo) (li : List Int) (hm : ms.length = m) (m1 : 1 ≤ m) (m3 : m ≤ 3)
    (mz : ∀ t ∈ ms, Mz (gn g) t) (bo : Bo.Ok (nd4 a b c d) [m] 3 6 m 0 bd) (sz : bd.sz ≤ 60) (dp : bd.dp ≤ 12) (hl : ms.map (Ex.val g []) = li.map Rs.ok) (o : Outs env [.opq false PenQ, .none, .none]) :
    ∃ cs' : List Cell, cs'.length = 3 ∧ Outs env cs' ∧ Q (.lst [(Dt.mk ms bd li).toD]) cs' :=
  ⟨_, rfl, o, hq _ (Dsh.one (f := Dt.mk ms bd li) ⟨hm.symm ▸ m1, hm.symm ▸ m3, mz, by show Bo.Ok (gn g) [ms.length] 3 6 ms.length 0 bd; rw [hm, hg.nd]; exact bo, sz, dp, hl⟩)⟩
theorem G4.mb {a b c d : Str} {g : Giv} (h : G4 a b c d g) : Mz (gn g) (.size b) := .size (k := "row") (by rw [h.nd]; simp [nd4]) (.inl rfl)
theorem G4.mc {a b c d : Str} {g : Giv} (h : G4 a b c d g) : Mz (gn g) (.size c) := .size (k := "text") (by rw [h.nd]; simp [nd4]) (.inr (.inl rfl))
set_option maxHeartbeats 8000000 in
theorem ok_l_counted (T : Txt K w mg) : K_l_counted P w base T 2 sp_shape :=
  okD T.F_l_counted sc_l_counted fun cdv A outer s H E B cs Q hr hl hs => ⟨_, d_l_counted T (ok_l_take T) (by decide) (ok_l_less T) (by decide) hr, by
    obtain ⟨a, b, c, d, r, g, rfl, hg, hq⟩ := hs
    obtain ⟨l, gl, ll, fl⟩ := hg.row
    have ab : (b, ("row" : Str)) ∈ gn g := by rw [hg.nd]; simp [nd4]
    walk_at "w"
    walk_at "ek"
    rename_i x x0 x1
    refine pick (fun d => ∃ (t : Ex) (i : Int), d = .tup [t.toD, .int i] ∧ Mz (gn g) t ∧ t.val g [] = .ok i) x0 x1 ?_ fun d hd => ?_
    · refine ⟨⟨.num 5, 5, rfl, .num (by decide) (by decide), rfl⟩, ⟨.size b, (l.map D.int).length, rfl, .size ab (.inl rfl), ?_⟩, trivial⟩
      show Rs.ok (gget g b).size = _
      rw [gl, List.length_map]; rfl
    obtain ⟨t, i, rfl, mz, tv⟩ := hd
    walk_at "w"
    walk_at "ek"
    rename_i n n0 n1
    refine counted_loop _ _ _ _ _ _ _ (nd4 a b c d) (rgD 0 (1 + n).toNat) [] _ _ (by rw [rgD_len]; show 0 + _ ≤ 3; omega) (fun b m => by cases m) fun bs c4 c9 bl hb => ?_
    rw [rgD_len] at bl
    have bl : bs.length = (1 + n).toNat := by rw [bl]; show 0 + _ = _; omega
    walk_at "w"
    walk_at "ek"
    rename_i y y0 y1
    refine pick (fun e => ∃ q : Bo, e = q.toD ∧ Bo.Ok (nd4 a b c d) [1] 3 3 1 0 q ∧ q.sz ≤ 2 ∧ q.dp ≤ 2) y0 y1 ?_ fun d hd => ?_
    · exact ⟨⟨.gain (.own 0), rfl, by walk_at "bo", Nat.le_of_ble_eq_true rfl, Nat.le_of_ble_eq_true rfl⟩, ⟨.gain (.num 1), rfl, by walk_at "bo", Nat.le_of_ble_eq_true rfl, Nat.le_of_ble_eq_true rfl⟩, ⟨.none, rfl, .none, by decide, by decide⟩, trivial⟩
    obtain ⟨b0, rfl, ob0, sb0, db0⟩ := hd
    walk_at "w"
    walk_at "ek"
    rename_i z z0 z1
    rw [← Bo.toDs_eq]
    have l3 : bs.length ≤ 3 := by omega
    have sb : Bo.szs bs ≤ 7 * bs.length := szs_le fun b m => (hb b m).2.1
    have db : Bo.dps bs ≤ 4 := dps_le fun b m => (hb b m).2.2
    refine shape_fin hg hq 1 [t] (.ite (.rel "below" (.own 0) (.num (1 + z))) b0 (.choose bs)) [i] rfl (by decide) (by decide) (one_of mz) ?_ ?_ ?_ (by rw [List.map_cons, tv]; rfl) (by exact ⟨fun _ h => h, trivial, trivial, outs_nil⟩)
    · refine .ite (n := 5) ?_ (ob0.up (by decide)) (.choose (by omega) (by omega) fun b m => (hb b m).1.up (by decide))
      walk_at "bo"
    · show 1 + 3 + b0.sz + (1 + Bo.szs bs) ≤ 60; omega
    · show 1 + max 2 (max b0.dp (1 + Bo.dps bs)) ≤ 12; omega⟩
set_option maxHeartbeats 8000000 in
theorem ok_l_stretches (T : Txt K w mg) : K_l_stretches P w base T 2 sp_shape :=
  okD T.F_l_stretches sc_l_stretches fun cdv A outer s H E B cs Q hr hl hs => ⟨_, d_l_stretches T (ok_l_take T) (by decide) (ok_l_less T) (by decide) hr, by
    obtain ⟨a, b, c, d, r, g, rfl, hg, hq⟩ := hs
    obtain ⟨l, gl, ll, fl⟩ := hg.row
    have tv : Ex.val g [] (.size b) = .ok (l.map D.int).length := by
      show Rs.ok (gget g b).size = _
      rw [gl, List.length_map]; rfl
    walk_at "w"
    walk_at "ek"
    rename_i x x0 x1
    obtain rfl | rfl : x = 0 ∨ x = 1 := by omega
    all_goals
      walk_at "w"
      walk_at "ek"
      rename_i y y0 y1
      refine pick (fun d => ∃ w : Str, d = .str w ∧ (w = "each" ∨ w = "all")) y0 y1 ?_ fun d hd => ?_
      · exact ⟨⟨_, rfl, .inl rfl⟩, ⟨_, rfl, .inl rfl⟩, ⟨_, rfl, .inr rfl⟩, trivial⟩
      obtain ⟨w, rfl, hw⟩ := hd
      walk_at "w"
      walk_at "ek"
      rename_i z z0 z1
    · refine shape_fin hg hq 2 [.size b, .size b] (.ite (.rel "below" (.own 0) (.own 1)) (.turn w (.own 0) (.bin "less" (.own 1) (.num 1)) (.both (.both (.call 0 [.own 0, .own 2]) (.call 0 [.bin "plus" (.own 2) (.num 1), .own 1])) (.gain (.plc b (.own 2))))) (.gain (.num z)))
        [(l.map D.int).length, (l.map D.int).length] rfl (by decide) (by decide) (two_of hg.mb hg.mb) ?_ (Nat.le_of_ble_eq_true rfl) (Nat.le_of_ble_eq_true rfl) (by rw [List.map_cons, List.map_cons, tv]; rfl) (by exact ⟨fun _ h => h, trivial, trivial, outs_nil⟩)
      walk_at "bo"
    · refine shape_fin hg hq 2 [.size b, .size b] (.ite (.rel "below" (.own 0) (.own 1)) (.turn w (.own 0) (.bin "less" (.own 1) (.num 1)) (.both (.call 0 [.own 0, .own 2]) (.call 0 [.bin "plus" (.own 2) (.num 1), .own 1]))) (.gain (.num z)))
        [(l.map D.int).length, (l.map D.int).length] rfl (by decide) (by decide) (two_of hg.mb hg.mb) ?_ (Nat.le_of_ble_eq_true rfl) (Nat.le_of_ble_eq_true rfl) (by rw [List.map_cons, List.map_cons, tv]; rfl) (by exact ⟨fun _ h => h, trivial, trivial, outs_nil⟩)
      walk_at "bo"⟩
local macro_rules | `(tactic| walk_at "se") => `(tactic| repeat' (first | exact se_own (by omega) | exact se_num (by omega) (by omega) | exact se_need | exact se_szb | exact se_szc | exact se_szd | refine se_plc ?_ | refine se_kids ?_ | refine se_kid ?_ ?_ | refine se_bin (by decide) ?_ ?_ | refine se_un (by decide) ?_))
local macro_rules | `(tactic| walk_at "bo") => `(tactic| repeat' (first | assumption | exact Bo.Ok.none | refine Bo.Ok.gain ?_ | refine Bo.Ok.call rfl ?_ | refine Bo.Ok.call (by assumption) ?_ | refine Bo.Ok.choose (Nat.le_of_ble_eq_true rfl) (Nat.le_of_ble_eq_true rfl) ?_ | refine Bo.Ok.turn (by first | exact .inl rfl | exact .inr rfl | assumption) (by omega) ?_ ?_ ?_ | refine Bo.Ok.both ?_ ?_ | refine Bo.Ok.ite ?_ ?_ ?_ | refine Co.Ok.rel (by first | exact .inl rfl | exact .inr (.inl rfl) | exact .inr (.inr rfl)) ?_ ?_ | refine Co.Ok.not ?_ | refine Co.Ok.two (by first | exact .inl rfl | exact .inr rfl) ?_ ?_ | refine one_of ?_ | refine two_of ?_ ?_ | refine three_of ?_ ?_ ?_ | refine bone_of ?_ | refine btwo_of ?_ ?_ | refine bthree_of ?_ ?_ ?_ | exact se_own (by omega) | exact se_num (by omega) (by omega) | exact se_need | exact se_szb | exact se_szc | exact se_szd | refine se_plc ?_ | refine se_kids ?_ | refine se_kid ?_ ?_ | refine se_bin (by decide) ?_ ?_ | refine se_un (by decide) ?_))
theorem full_val {n : Nat} (h : n ≤ 5) : great (un1 "full" (n : Nat)) = .ok (1 * 2 ^ (((n : Nat) : Int).toNat) - 1) := by
  have e : un1 "full" (n : Nat) = .ok (2 ^ (((n : Nat) : Int).toNat) - 1) := by
    unfold un1
    rw [if_pos rfl, if_pos ⟨by omega, by omega⟩]
  rw [e, Int.one_mul]
  show (if Bd60 _ then Rs.ok _ else _) = _
  rw [Int.toNat_natCast]
  have h1 : (2 : Nat) ^ n ≤ 2 ^ 5 := Nat.pow_le_pow_right (by decide) h
  have h2 : ((2 ^ n : Nat) : Int) = (2 : Int) ^ n := by norm_cast
  have h3 : (2 : Nat) ^ 5 = 32 := rfl
  have h4 : 0 < (2 : Nat) ^ n := Nat.pow_pos (by decide)
  rw [← h2, if_pos (bd_big (by omega) (by omega))]
theorem Mz.se {nd : List (Str × Str)} {own : Nat} {t : Ex} (h : Mz nd t) : SE nd own 3 t := ⟨h.ok, by have := h.dep; omega⟩
set_option maxHeartbeats 8000000 in
theorem ok_l_sets (T : Txt K w mg) : K_l_sets P w base T 2 sp_shape :=
  okD T.F_l_sets sc_l_sets fun cdv A outer s H E B cs Q hr hl hs => ⟨_, d_l_sets T (ok_l_take T) (by decide) hr, by
    obtain ⟨a, b, c, d, r, g, rfl, hg, hq⟩ := hs
    obtain ⟨l, gl, ll, fl⟩ := hg.row
    have ln : (l.map D.int).length = l.length := List.length_map _
    walk_at "w"
    walk_at "ek"
    rename_i x x0 x1
    obtain rfl | rfl : x = 0 ∨ x = 1 := by omega
    · walk_at "w"
      walk_at "ek"
      rw [ln]
      refine shape_fin hg hq 1 [.un "full" (.size b)] (.ite (.rel "same" (.own 0) (.num 0)) (.gain (.num 1)) (.turn "each" (.num 0) (.bin "less" (.size b) (.num 1)) (.ite (.rel "has" (.own 0) (.own 1)) (.both (.call 0 [.bin "without" (.own 0) (.own 1)]) (.gain (.own 1))) .none)))
        [1 * 2 ^ (((l.length : Nat) : Int).toNat) - 1] rfl (by decide) (by decide) (one_of (.full (k := "row") (by rw [hg.nd]; simp [nd4]) (.inl rfl))) ?_ (Nat.le_of_ble_eq_true rfl) (Nat.le_of_ble_eq_true rfl) ?_ (by exact ⟨fun _ h => h, trivial, trivial, outs_nil⟩)
      · walk_at "bo"
      · show [great (un1 "full" (gget g b).size)] = _
        rw [gl, show (Th.row l).size = ((l.length : Nat) : Int) from rfl, full_val ll]; rfl
    · walk_at "w"
      walk_at "ek"
      refine shape_fin hg hq 1 [.num 7] (.ite (.rel "same" (.own 0) (.num 0)) (.gain (.num 1)) (.turn "each" (.num 0) (.num 2) (.ite (.rel "has" (.own 0) (.own 1)) (.both (.call 0 [.bin "without" (.own 0) (.own 1)]) (.gain (.own 1))) .none)))
        [7] rfl (by decide) (by decide) (one_of (.num (by decide) (by decide))) ?_ (Nat.le_of_ble_eq_true rfl) (Nat.le_of_ble_eq_true rfl) rfl (by exact ⟨fun _ h => h, trivial, trivial, outs_nil⟩)
      walk_at "bo"⟩
set_option maxHeartbeats 8000000 in
theorem ok_l_knots (T : Txt K w mg) : K_l_knots P w base T 2 sp_shape :=
  okD T.F_l_knots sc_l_knots fun cdv A outer s H E B cs Q hr hl hs => ⟨_, d_l_knots T (ok_l_take T) (by decide) hr, by
    obtain ⟨a, b, c, d, r, g, rfl, hg, hq⟩ := hs
    obtain ⟨l, gl, ll, fl⟩ := hg.tree
    have ln : (l.map D.int).length = l.length := List.length_map _
    have lv : [Ex.bin "less" (.size d) (.num 1)].map (Ex.val g []) = [((l.map D.int).length : Int)].map Rs.ok := by
      show [great (two "less" (gget g d).size 1)] = _
      rw [gl, ln]
      show [if Bd60 ((l.length : Int) + 1 - 1) then Rs.ok ((l.length : Int) + 1 - 1) else _] = _
      rw [if_pos (bd_big (by omega) (by omega)), Int.add_sub_cancel]; rfl
    have mz : Mz (gn g) (.bin "less" (.size d) (.num 1)) := .less (k := "tree") (by rw [hg.nd]; simp [nd4]) (.inr (.inr rfl))
    walk_at "w"
    walk_at "ek"
    rename_i x x0 x1
    refine pick (fun d => ∃ w : Str, d = .str w ∧ (w = "each" ∨ w = "all")) x0 x1 ?_ fun e he => ?_
    · exact ⟨⟨_, rfl, .inr rfl⟩, ⟨_, rfl, .inl rfl⟩, trivial⟩
    obtain ⟨w, rfl, hw⟩ := he
    walk_at "w"
    walk_at "ek"
    rename_i y y0 y1
    have ti : Bo.Ok (nd4 a b c d) [1] 3 3 1 0 (.turn w (.num 0) (.bin "less" (.kids d (.own 0)) (.num 1)) (.call 0 [.kid d (.own 0) (.own 1)])) := by walk_at "bo"
    refine pick (fun e => ∃ q : Bo, e = q.toD ∧ Bo.Ok (nd4 a b c d) [1] 3 6 1 0 q ∧ q.sz ≤ 60 ∧ q.dp ≤ 12) y0 y1 ?_ fun e he => ?_
    · exact ⟨⟨.both (.gain (.own 0)) (.turn w (.num 0) (.bin "less" (.kids d (.own 0)) (.num 1)) (.call 0 [.kid d (.own 0) (.own 1)])), rfl, .both (n := 5) (by walk_at "bo") (ti.up (by decide)), Nat.le_of_ble_eq_true rfl, Nat.le_of_ble_eq_true rfl⟩,
        ⟨.choose [.turn w (.num 0) (.bin "less" (.kids d (.own 0)) (.num 1)) (.call 0 [.kid d (.own 0) (.own 1)]), .gain (.num 2)], rfl, .choose (n := 5) (Nat.le_of_ble_eq_true rfl) (Nat.le_of_ble_eq_true rfl) (btwo_of (ti.up (by decide)) (by walk_at "bo")), Nat.le_of_ble_eq_true rfl, Nat.le_of_ble_eq_true rfl⟩, trivial⟩
    obtain ⟨q, rfl, oq, sq, dq⟩ := he
    walk_at "w"
    walk_at "ek"
    exact shape_fin hg hq 1 [.bin "less" (.size d) (.num 1)] q [((l.map D.int).length : Int)] rfl (by decide) (by decide) (one_of mz) oq sq dq lv (by exact ⟨fun _ h => h, trivial, trivial, outs_nil⟩)⟩
theorem shape_fin2 {a b c d : Str} {g : Giv} {Q : D → List Cell → Prop} (hg : G4 a b c d g) (hq : ∀ fs : List Dt, Dsh g fs → Q (.lst (fs.map Dt.toD)) [.opq false PenQ, .none, .none]) {env : DEnv} (f f2 : Dt)
    (h1 : Dok g [f.ms.length, f2.ms.length] f) (h2 : Dok g [f.ms.length, f2.ms.length] f2) (o : Outs env [.opq false PenQ, .none, .none]) :
    ∃ cs' : List Cell, cs'.length = 3 ∧ Outs env cs' ∧ Q (.lst [f.toD, f2.toD]) cs' :=
  ⟨_, rfl, o, hq [f, f2] ⟨Nat.le_of_ble_eq_true rfl, Nat.le_of_ble_eq_true rfl, fun x m => by
    rcases List.mem_cons.mp m with e | m
    · rw [e]; exact h1
    · rw [List.mem_singleton.mp m]; exact h2⟩⟩
set_option maxHeartbeats 8000000 in
theorem ok_l_two (T : Txt K w mg) : K_l_two P w base T 2 sp_shape :=
  okD T.F_l_two sc_l_two fun cdv A outer s H E B cs Q hr hl hs => ⟨_, d_l_two T (ok_l_take T) (by decide) (ok_l_less T) (by decide) hr, by
    obtain ⟨a, b, c, d, r, g, rfl, hg, hq⟩ := hs
    walk_at "w"
    walk_at "ek"
    rename_i x x0 x1 y y0 y1 z z0 z1
    refine pick (fun d => ∃ i : Int, d = .int i ∧ 0 ≤ i ∧ i ≤ 2) z0 z1 ?_ fun e he => ?_
    · exact ⟨⟨_, rfl, by decide, by decide⟩, ⟨_, rfl, by decide, by decide⟩, ⟨_, rfl, by decide, by decide⟩, ⟨_, rfl, by decide, by decide⟩, trivial⟩
    obtain ⟨i, rfl, i0, i1⟩ := he
    walk_at "w"
    walk_at "ek"
    refine shape_fin2 hg hq ⟨[.num 5], .choose [.call 1 [.own 0], .gain (.num y)], [5]⟩ ⟨[.num (4 + x)], .ite (.rel "below" (.own 0) (.num 1)) (.gain (.num 3)) (.both (.call 0 [.bin "less" (.own 0) (.num i)]) (.gain (.own 0))), [4 + x]⟩
      ⟨Nat.le_refl _, Nat.le_of_ble_eq_true rfl, one_of (.num (by decide) (by decide)), ?_, Nat.le_of_ble_eq_true rfl, Nat.le_of_ble_eq_true rfl, rfl⟩ ⟨Nat.le_refl _, Nat.le_of_ble_eq_true rfl, one_of (.num (by omega) (by omega)), ?_, Nat.le_of_ble_eq_true rfl, Nat.le_of_ble_eq_true rfl, rfl⟩ (by exact ⟨fun _ h => h, trivial, trivial, outs_nil⟩)
    · show Bo.Ok _ [1, 1] 3 6 1 0 _
      walk_at "bo"
    · show Bo.Ok _ [1, 1] 3 6 1 0 _
      walk_at "bo"⟩
local macro_rules | `(tactic| walk_at "se") => `(tactic| repeat' (first | exact se_own (by omega) | exact se_num (by omega) (by omega) | exact se_need | exact se_szb | exact se_szc | exact se_szd | refine se_plc ?_ | refine se_kids ?_ | refine se_kid ?_ ?_ | refine se_bin (by decide) ?_ ?_ | refine se_un (by decide) ?_))
local macro_rules | `(tactic| walk_at "bo") => `(tactic| repeat' (first | assumption | exact Bo.Ok.none | refine Bo.Ok.gain ?_ | refine Bo.Ok.call rfl ?_ | refine Bo.Ok.call (by assumption) ?_ | refine Bo.Ok.choose (Nat.le_of_ble_eq_true rfl) (Nat.le_of_ble_eq_true rfl) ?_ | refine Bo.Ok.turn (by first | exact .inl rfl | exact .inr rfl | assumption) (by omega) ?_ ?_ ?_ | refine Bo.Ok.both ?_ ?_ | refine Bo.Ok.ite ?_ ?_ ?_ | refine Co.Ok.rel (by first | exact .inl rfl | exact .inr (.inl rfl) | exact .inr (.inr rfl)) ?_ ?_ | refine Co.Ok.not ?_ | refine Co.Ok.two (by first | exact .inl rfl | exact .inr rfl) ?_ ?_ | refine one_of ?_ | refine two_of ?_ ?_ | refine three_of ?_ ?_ ?_ | refine bone_of ?_ | refine btwo_of ?_ ?_ | refine bthree_of ?_ ?_ ?_ | exact se_own (by omega) | exact se_num (by omega) (by omega) | exact se_need | exact se_szb | exact se_szc | exact se_szd | refine se_plc ?_ | refine se_kids ?_ | refine se_kid ?_ ?_ | refine se_bin (by decide) ?_ ?_ | refine se_un (by decide) ?_))
set_option maxHeartbeats 8000000 in
theorem ok_l_grid (T : Txt K w mg) : K_l_grid P w base T 2 sp_shape :=
  okD T.F_l_grid sc_l_grid fun cdv A outer s H E B cs Q hr hl hs => ⟨_, d_l_grid T (ok_l_less T) (by decide) (ok_l_take T) (by decide) hr, by
    obtain ⟨a, b, c, d, r, g, rfl, hg, hq⟩ := hs
    obtain ⟨l, gl, ll, fl⟩ := hg.row
    obtain ⟨t, gt, tl, ft⟩ := hg.text
    have lv : [Ex.size b, .size c].map (Ex.val g []) = [((l.map D.int).length : Int), ((tx t).length : Int)].map Rs.ok := by
      show [Rs.ok (gget g b).size, Rs.ok (gget g c).size] = _
      rw [gl, gt, List.length_map, tx_len]; rfl
    have l1 : (tx t).length ≤ sizeLine := by rw [tx_len]; exact Nat.le_trans tl (by decide)
    walk_at "w"
    walk_at "ek"
    rename_i x x0 x1
    obtain rfl | rfl : x = 0 ∨ x = 1 := by omega
    all_goals
      walk_at "w"
      walk_at "ek"
    · refine shape_fin hg hq 2 [.size b, .size c] (.ite (.two "and" (.rel "below" (.num 0) (.own 0)) (.rel "below" (.num 0) (.own 1))) (.choose [.both (.call 0 [.bin "less" (.own 0) (.num 1), .own 1]) (.gain (.num 1)), .both (.call 0 [.own 0, .bin "less" (.own 1) (.num 1)]) (.gain (.num 1))]) (.gain (.bin "plus" (.own 0) (.own 1))))
        _ rfl (by decide) (by decide) (two_of hg.mb hg.mc) ?_ (Nat.le_of_ble_eq_true rfl) (Nat.le_of_ble_eq_true rfl) lv (by exact ⟨fun _ h => h, trivial, trivial, outs_nil⟩)
      walk_at "bo"
    · refine shape_fin hg hq 2 [.size b, .size c] (.ite (.two "and" (.rel "below" (.num 0) (.own 0)) (.rel "below" (.num 0) (.own 1))) (.choose [.both (.call 0 [.bin "less" (.own 0) (.num 1), .own 1]) (.gain (.num 1)), .both (.call 0 [.own 0, .bin "less" (.own 1) (.num 1)]) (.gain (.num 1)), .call 0 [.bin "less" (.own 0) (.num 1), .bin "less" (.own 1) (.num 1)]]) (.gain (.bin "plus" (.own 0) (.own 1))))
        _ rfl (by decide) (by decide) (two_of hg.mb hg.mc) ?_ (Nat.le_of_ble_eq_true rfl) (Nat.le_of_ble_eq_true rfl) lv (by exact ⟨fun _ h => h, trivial, trivial, outs_nil⟩)
      walk_at "bo"⟩
set_option maxHeartbeats 8000000 in
theorem ok_l_upwards (T : Txt K w mg) : K_l_upwards P w base T 2 sp_shape :=
  okD T.F_l_upwards sc_l_upwards fun cdv A outer s H E B cs Q hr hl hs => ⟨_, d_l_upwards T (ok_l_take T) (by decide) hr, by
    obtain ⟨a, b, c, d, r, g, rfl, hg, hq⟩ := hs
    obtain ⟨l, gl, ll, fl⟩ := hg.row
    walk_at "w"
    walk_at "ek"
    rename_i x x0 x1
    refine pick (fun d => ∃ (t : Ex) (i : Int), d = .tup [t.toD, .int i] ∧ Mz (gn g) t ∧ t.sz ≤ 3 ∧ t.dep ≤ 1 ∧ t.val g [] = .ok i) x0 x1 ?_ fun d hd => ?_
    · refine ⟨⟨.num 5, 5, rfl, .num (by decide) (by decide), by decide, by decide, rfl⟩, ⟨.size b, (l.map D.int).length, rfl, hg.mb, Nat.le_of_ble_eq_true rfl, Nat.le_of_ble_eq_true rfl, ?_⟩, trivial⟩
      show Rs.ok (gget g b).size = _
      rw [gl, List.length_map]; rfl
    obtain ⟨t, i, rfl, mz, ts, td, tv⟩ := hd
    walk_at "w"
    walk_at "ek"
    have se : SE (nd4 a b c d) 1 3 t := by rw [← hg.nd]; exact mz.se
    refine shape_fin hg hq 1 [t] (.ite (.rel "below" (.own 0) t) (.both (.call 0 [.bin "plus" (.own 0) (.num 1)]) (.gain (.own 0))) (.gain (.num 0))) [i] rfl (by decide) (by decide) (one_of mz) ?_ ?_ ?_ (by rw [List.map_cons, tv]; rfl) (by exact ⟨fun _ h => h, trivial, trivial, outs_nil⟩)
    · walk_at "bo"
    · show 1 + (1 + 1 + t.sz) + 7 + 2 ≤ 60; omega
    · show 1 + max (1 + max 1 (t.dep + 1)) (max _ _) ≤ 12
      have : (Bo.both (.call 0 [.bin "plus" (.own 0) (.num 1)]) (.gain (.own 0))).dp = 4 := rfl
      have : (Bo.gain (.num 0)).dp = 2 := rfl
      show 1 + max (1 + max 1 (t.dep + 1)) (max 4 2) ≤ 12
      omega⟩
set_option maxHeartbeats 8000000 in
theorem ok_l_places (T : Txt K w mg) : K_l_places P w base T 2 sp_shape :=
  okD T.F_l_places sc_l_places fun cdv A outer s H E B cs Q hr hl hs => ⟨_, d_l_places T (ok_l_take T) (by decide) (ok_l_less T) (by decide) hr, by
    obtain ⟨a, b, c, d, r, g, rfl, hg, hq⟩ := hs
    walk_at "w"
    walk_at "ek"
    rename_i x x0 x1
    walk_at "fc"
    walk_at "ek"
    walk_at "fc"
    walk_at "ek"
    walk_at "fc"
    walk_at "ek"
    walk_at "fn"
    walk_at "ek"
    refine ⟨⟨by simp, by decide, by decide, Nat.le_of_ble_eq_true rfl⟩, ?_⟩
    walk_at "w"
    walk_at "ek"
    refine ⟨⟨by simp, by decide, by decide, Nat.le_of_ble_eq_true rfl⟩, ?_⟩
    walk_at "w"
    walk_at "ek"
    have mz : ∀ t ∈ [Ex.num (1 + x), .num (1 + x), .num (1 + x)], Mz (gn g) t := three_of (.num (by omega) (by omega)) (.num (by omega) (by omega)) (.num (by omega) (by omega))
    refine shape_fin hg hq 3 [.num (1 + x), .num (1 + x), .num (1 + x)] (.ite (.rel "below" (.num 0) (.own 2)) (.call 0 [.own 0, .own 1, .bin "less" (.own 2) (.num 1)]) (.ite (.rel "below" (.num 0) (.own 1)) (.call 0 [.own 0, .bin "less" (.own 1) (.num 1), .num (1 + x)]) (.ite (.rel "below" (.num 0) (.own 0)) (.call 0 [.bin "less" (.own 0) (.num 1), .num (1 + x), .num (1 + x)]) (.gain (.num 1)))))
      [1 + x, 1 + x, 1 + x] rfl (by decide) (by decide) mz ?_ (Nat.le_of_ble_eq_true rfl) (Nat.le_of_ble_eq_true rfl) rfl (by exact ⟨fun _ h => h, trivial, trivial, outs_nil⟩)
    walk_at "bo"⟩
def sp_l_arg : FSpec := fun cs Q => ∃ (a b c d : Str) (r : List Str) (first own : Nat), cs = [.opq false PenQ, .val (ns4 a b c d r), .val (.int (first : Nat)), .val (.int (own : Nat))] ∧ 1 ≤ first ∧ first ≤ own ∧ own ≤ 100 ∧
  ∀ t, (SE (nd4 a b c d) own 3 t ∧ t.sz ≤ 3 ∧ t.dep ≤ 1) → Q t.toD [.opq false PenQ, .none, .none, .none]
set_option maxHeartbeats 8000000 in
theorem ok_l_arg (T : Txt K w mg) : K_l_arg P w base T 2 sp_l_arg :=
  okD T.F_l_arg sc_l_arg fun cdv A outer s H E B cs Q hr hl hs => ⟨_, d_l_arg T (ok_l_take T) (by decide) hr, by
    obtain ⟨a, b, c, d, r, first, own, rfl, f1, fo, o1, hq⟩ := hs
    walk_at "w"
    refine ⟨_, rfl, by omega, by omega, fun i i0 i1 => ?_⟩
    obtain ⟨i, rfl⟩ := Int.eq_ofNat_of_zero_le i0
    walk_at "w"
    refine ⟨by show 2 ≤ sizeLine; decide, ?_⟩
    walk_at "w"
    refine ⟨_, rfl, by omega, by omega, fun j j0 j1 => ?_⟩
    obtain ⟨j, rfl⟩ := Int.eq_ofNat_of_zero_le j0
    walk_at "w"
    walk_at "ek"
    rename_i x x0 x1 y y0 y1
    have hi : i < own := by omega
    have hj : j < own := by omega
    refine pick (fun e => ∃ t : Ex, e = t.toD ∧ SE (nd4 a b c d) own 3 t ∧ t.sz ≤ 3 ∧ t.dep ≤ 1) y0 y1 ?_ fun e he => ?_
    · have z : ∀ t : Ex, SE (nd4 a b c d) own 3 t → t.sz ≤ 3 → t.dep ≤ 1 → ∃ u : Ex, t.toD = u.toD ∧ SE (nd4 a b c d) own 3 u ∧ u.sz ≤ 3 ∧ u.dep ≤ 1 := fun t h h2 h3 => ⟨t, rfl, h, h2, h3⟩
      exact ⟨z (.own i) (by walk_at "se") (Nat.le_of_ble_eq_true rfl) (Nat.le_of_ble_eq_true rfl), z (.own j) (by walk_at "se") (Nat.le_of_ble_eq_true rfl) (Nat.le_of_ble_eq_true rfl), z (.num x) (by walk_at "se") (Nat.le_of_ble_eq_true rfl) (Nat.le_of_ble_eq_true rfl),
        z (.bin "less" (.own i) (.num 1)) (by walk_at "se") (Nat.le_of_ble_eq_true rfl) (Nat.le_of_ble_eq_true rfl), z (.bin "less" (.own j) (.num x)) (by walk_at "se") (Nat.le_of_ble_eq_true rfl) (Nat.le_of_ble_eq_true rfl), z (.bin "plus" (.own i) (.num x)) (by walk_at "se") (Nat.le_of_ble_eq_true rfl) (Nat.le_of_ble_eq_true rfl),
        z (.un "half" (.own j)) (by walk_at "se") (Nat.le_of_ble_eq_true rfl) (Nat.le_of_ble_eq_true rfl), z (.bin "lesser" (.own j) (.num x)) (by walk_at "se") (Nat.le_of_ble_eq_true rfl) (Nat.le_of_ble_eq_true rfl), z (.bin "without" (.own i) (.own j)) (by walk_at "se") (Nat.le_of_ble_eq_true rfl) (Nat.le_of_ble_eq_true rfl), z (.bin "rest" (.own j) (.num 2)) (by walk_at "se") (Nat.le_of_ble_eq_true rfl) (Nat.le_of_ble_eq_true rfl),
        z (.bin "less" (.size b) (.own i)) (by walk_at "se") (Nat.le_of_ble_eq_true rfl) (Nat.le_of_ble_eq_true rfl), z (.bin "times" (.num 2) (.own i)) (by walk_at "se") (Nat.le_of_ble_eq_true rfl) (Nat.le_of_ble_eq_true rfl), z (.bin "less" (.own i) (.num 1)) (by walk_at "se") (Nat.le_of_ble_eq_true rfl) (Nat.le_of_ble_eq_true rfl),
        z (.bin "less" (.own i) (.num 2)) (by walk_at "se") (Nat.le_of_ble_eq_true rfl) (Nat.le_of_ble_eq_true rfl), z (.plc b (.own j)) (by walk_at "se") (Nat.le_of_ble_eq_true rfl) (Nat.le_of_ble_eq_true rfl), z (.own i) (by walk_at "se") (Nat.le_of_ble_eq_true rfl) (Nat.le_of_ble_eq_true rfl), trivial⟩
    obtain ⟨t, rfl, ht⟩ := he
    walk_at "w"
    exact ⟨[.opq false PenQ, .none, .none, .none], rfl, ⟨fun _ h => h, trivial, trivial, trivial, outs_nil⟩, hq t ht⟩⟩
def cnL (cn : List Nat) : D := .lst (cn.map fun n => .int (n : Nat))
def sp_l_call : FSpec := fun cs Q => ∃ (a b c d : Str) (r : List Str) (cn : List Nat) (first own : Nat), cs = [.opq false PenQ, .val (ns4 a b c d r), .val (cnL cn), .val (.int (first : Nat)), .val (.int (own : Nat))] ∧ (1 ≤ cn.length ∧ cn.length ≤ 4) ∧ (∀ c ∈ cn, 1 ≤ c ∧ c ≤ 3) ∧ 1 ≤ first ∧ first ≤ own ∧ own ≤ 100 ∧
  ∀ b1, (∀ t, Bo.Ok (nd4 a b c d) cn 3 1 own t b1) ∧ b1.sz ≤ 10 ∧ b1.dp ≤ 3 → Q b1.toD [.opq false PenQ, .none, .none, .none, .none]
set_option maxHeartbeats 8000000 in
theorem call_comp (a b c d : Str) (r : List Str) (first own : Nat) (f1 : 1 ≤ first) (fo : first ≤ own) (o1 : own ≤ 100) (s1 : FSpec) (c2 c5 : Cell) : ∀ (ds : List D) (Q : List D → DEnv → Prop), (∀ as : List Ex, as.length = ds.length → (∀ t ∈ as, SE (nd4 a b c d) own 3 t ∧ t.sz ≤ 3 ∧ t.dep ≤ 1) → Q (as.map Ex.toD) [.opq false PenQ, .val (ns4 a b c d r), c2, .val (.int (first : Nat)), .val (.int (own : Nat)), c5, .none]) →
    mapL [6] (gN 6) qYes (t_l_call_1 s1 sp_l_arg) ds [.opq false PenQ, .val (ns4 a b c d r), c2, .val (.int (first : Nat)), .val (.int (own : Nat)), c5, .none] Q
  | [], Q, h => by
    walk_at "mn"
    exact h [] rfl fun i m => by cases m
  | d1 :: ds, Q, h => by
    walk_at "mc"
    refine ⟨a, b, c, d, r, first, own, rfl, f1, fo, o1, fun t ht => ?_⟩
    walk_at "w"
    refine call_comp a b c d r first own f1 fo o1 s1 c2 c5 ds _ fun as l ha => ?_
    refine h (t :: as) (by rw [List.length_cons, List.length_cons, l]) fun u m => ?_
    rcases List.mem_cons.mp m with e | m
    · rw [e]; exact ht
    · exact ha u m
set_option maxHeartbeats 8000000 in
theorem ok_l_call (T : Txt K w mg) : K_l_call P w base T 3 sp_l_call :=
  okD T.F_l_call sc_l_call fun cdv A outer s H E B cs Q hr hl hs => ⟨_, d_l_call T (ok_l_take T) (by decide) (ok_l_arg T) (by decide) hr, by
    obtain ⟨a, b, c, d, r, cn, first, own, rfl, ⟨n1, n4⟩, hc, f1, fo, o1, hq⟩ := hs
    have lc : (cn.map fun n => D.int (n : Nat)).length = cn.length := List.length_map _
    walk_at "w"
    rw [lc]
    refine ⟨_, rfl, by omega, by omega, fun g g0 g1 => ?_⟩
    obtain ⟨g, rfl⟩ := Int.eq_ofNat_of_zero_le g0
    have lg : g < cn.length := by omega
    have ag : atI (cn.map fun n => D.int (n : Nat)) ((g : Nat) : Int) = some (.int (cn[g] : Nat)) := atI_nat (by rw [List.getElem?_map, List.getElem?_eq_getElem lg]; rfl)
    obtain ⟨c1, c3⟩ := hc _ (List.getElem_mem lg)
    walk_at "w"
    refine ⟨_, ag, ?_⟩
    walk_at "w"
    refine ⟨⟨by omega, by omega⟩, ?_⟩
    walk_at "w"
    rw [Int.toNat_natCast]
    refine ⟨Nat.le_trans (show (rgD 0 cn[g]).length ≤ 3 by rw [rgD_len]; exact c3) (by decide), ?_⟩
    walk_at "w"
    refine call_comp a b c d r first own f1 fo o1 _ _ _ (rgD 0 cn[g]) _ fun as al ha => ?_
    rw [rgD_len] at al
    walk_at "w"
    refine ⟨by show 3 ≤ sizeLine; decide, ?_⟩
    have s3 := exs_sz fun t m => (ha t m).2.1
    have d3 := exs_dp (k := 2) (as := as) fun t m => by have := (ha t m).2.2; omega
    exact ⟨[.opq false PenQ, .none, .none, .none, .none], rfl, ⟨fun _ h => h, trivial, trivial, trivial, trivial, outs_nil⟩, hq (.call g as) ⟨fun t => .call (by rw [List.getElem?_eq_getElem lg, al]) fun u m => (ha u m).1, by show 1 + (as.map Ex.sz).sum ≤ 10; omega, by show 1 + mxL (as.map fun t => t.dep + 1) ≤ 3; omega⟩⟩⟩
local macro_rules | `(tactic| walk_at "se") => `(tactic| repeat' (first | exact se_own (by omega) | exact se_num (by omega) (by omega) | exact se_need | exact se_szb | exact se_szc | exact se_szd | refine se_plc ?_ | refine se_kids ?_ | refine se_kid ?_ ?_ | refine se_bin (by decide) ?_ ?_ | refine se_un (by decide) ?_))
local macro_rules | `(tactic| walk_at "bo") => `(tactic| repeat' (first | assumption | exact Bo.Ok.none | refine Bo.Ok.gain ?_ | refine Bo.Ok.call rfl ?_ | refine Bo.Ok.call (by assumption) ?_ | refine Bo.Ok.choose (Nat.le_of_ble_eq_true rfl) (Nat.le_of_ble_eq_true rfl) ?_ | refine Bo.Ok.turn (by first | exact .inl rfl | exact .inr rfl | assumption) (by omega) ?_ ?_ ?_ | refine Bo.Ok.both ?_ ?_ | refine Bo.Ok.ite ?_ ?_ ?_ | refine Co.Ok.rel (by first | exact .inl rfl | exact .inr (.inl rfl) | exact .inr (.inr rfl)) ?_ ?_ | refine Co.Ok.not ?_ | refine Co.Ok.two (by first | exact .inl rfl | exact .inr rfl) ?_ ?_ | refine one_of ?_ | refine two_of ?_ ?_ | refine three_of ?_ ?_ ?_ | refine bone_of ?_ | refine btwo_of ?_ ?_ | refine bthree_of ?_ ?_ ?_ | exact se_own (by omega) | exact se_num (by omega) (by omega) | exact se_need | exact se_szb | exact se_szc | exact se_szd | refine se_plc ?_ | refine se_kids ?_ | refine se_kid ?_ ?_ | refine se_bin (by decide) ?_ ?_ | refine se_un (by decide) ?_))
/-! ### turns, items -/
def sp_l_turned (lev : Nat) : FSpec := fun cs Q => ∃ (a b c d : Str) (r : List Str) (cn : List Nat) (first own : Nat), cs = [.opq false PenQ, .val (ns4 a b c d r), .val (cnL cn), .val (.int (first : Nat)), .val (.int (own : Nat))] ∧ (1 ≤ cn.length ∧ cn.length ≤ 4) ∧ (∀ c ∈ cn, 1 ≤ c ∧ c ≤ 3) ∧ 1 ≤ first ∧ own = first + (1 - lev) ∧ lev ≤ 1 ∧ first ≤ 10 ∧
  ∀ b1, (∀ t, t + lev < 2 → Bo.Ok (nd4 a b c d) cn 3 (2 + lev) own t b1) ∧ b1.sz ≤ 15 + 5 * lev ∧ b1.dp ≤ 4 + lev → Q b1.toD [.opq false PenQ, .none, .none, .none, .none]
def sp_lt : Nat → FSpec
  | 0 => fun _ _ => False
  | n + 1 => sp_l_turned n
theorem no_l_turned (T : Txt K w mg) : K_l_turned P w base T 3 (fun _ _ => False) := okD T.F_l_turned sc_l_turned fun _ _ _ _ _ _ _ _ _ _ _ hs => hs.elim
set_option maxHeartbeats 16000000 in
theorem turned_step (T : Txt K w mg) {k lev : Nat} (hk : 3 ≤ k) (G : K_l_turned P w base T k (sp_lt lev)) : K_l_turned P w base T (k + 1) (sp_l_turned lev) :=
  okD T.F_l_turned sc_l_turned fun cdv A outer s H E B cs Q hr hl hs => ⟨_, d_l_turned T (ok_l_take T) (by omega) (ok_l_less T) (by omega) (ok_l_call T) hk G (Nat.le_refl _) hr, by
    obtain ⟨a, b, c, d, r, cn, first, own, rfl, hn, hc, f1, ho, hlev, f10, hq⟩ := hs
    have e1 : ((own : Nat) : Int) + 1 = ((own + 1 : Nat) : Int) := by omega
    have fin : ∀ {w : Str} {lo hi : Ex} {b1 : Bo} {env : DEnv}, (w = "each" ∨ w = "all") → SE (nd4 a b c d) own 3 lo → SE (nd4 a b c d) own 3 hi → lo.sz ≤ 1 → lo.dep ≤ 0 → hi.sz ≤ 3 → hi.dep ≤ 1 → (∀ t, t + lev < 2 → Bo.Ok (nd4 a b c d) cn 3 (1 + lev) (own + 1) (t + 1) b1) → b1.sz ≤ 10 + 5 * lev → b1.dp ≤ 3 + lev →
        Outs env [.opq false PenQ, .none, .none, .none, .none] → ∃ cs' : List Cell, cs'.length = 5 ∧ Outs env cs' ∧ Q (Bo.turn w lo hi b1).toD cs' := fun {w lo hi b1 env} hw h1 h2 s1 d1 s2 d2 hb sb db o =>
      ⟨_, rfl, o, hq (.turn w lo hi b1) ⟨fun t ht => by rw [show 2 + lev = (1 + lev) + 1 by omega]; exact .turn hw (by omega) h1 h2 (hb t ht), by show 1 + lo.sz + hi.sz + b1.sz ≤ _; omega, by show 1 + max (lo.dep + 1) (max (hi.dep + 1) b1.dp) ≤ _; omega⟩⟩
    walk_at "w"
    walk_at "lz"
    refine ⟨_, rfl, by omega, by omega, fun i i0 i1 => ?_⟩
    obtain ⟨i, rfl⟩ := Int.eq_ofNat_of_zero_le i0
    walk_at "w"
    walk_at "lz"
    walk_at "ek"
    rename_i x x0 x1
    refine pick (fun e => ∃ t : Ex, e = t.toD ∧ SE (nd4 a b c d) own 3 t ∧ t.sz ≤ 1 ∧ t.dep ≤ 0) x0 x1 ?_ fun e he => ?_
    · exact ⟨⟨.num 0, rfl, by walk_at "se", Nat.le_refl _, Nat.le_refl _⟩, ⟨.num 1, rfl, by walk_at "se", Nat.le_refl _, Nat.le_refl _⟩, ⟨.own i, rfl, by walk_at "se", Nat.le_refl _, Nat.le_refl _⟩, trivial⟩
    obtain ⟨lo, rfl, lo1, lo2, lo3⟩ := he
    walk_at "w"
    walk_at "lz"
    refine ⟨_, rfl, by omega, by omega, fun j j0 j1 => ?_⟩
    obtain ⟨j, rfl⟩ := Int.eq_ofNat_of_zero_le j0
    walk_at "w"
    walk_at "lz"
    refine ⟨_, rfl, by omega, by omega, fun m m0 m1 => ?_⟩
    obtain ⟨m, rfl⟩ := Int.eq_ofNat_of_zero_le m0
    walk_at "w"
    walk_at "ek"
    rename_i y y0 y1
    refine pick (fun e => ∃ t : Ex, e = t.toD ∧ SE (nd4 a b c d) own 3 t ∧ t.sz ≤ 3 ∧ t.dep ≤ 1) y0 y1 ?_ fun e he => ?_
    · exact ⟨⟨.num 2, rfl, by walk_at "se", Nat.le_of_ble_eq_true rfl, Nat.le_of_ble_eq_true rfl⟩, ⟨.own j, rfl, by walk_at "se", Nat.le_of_ble_eq_true rfl, Nat.le_of_ble_eq_true rfl⟩, ⟨.bin "less" (.own m) (.num 1), rfl, by walk_at "se", Nat.le_of_ble_eq_true rfl, Nat.le_of_ble_eq_true rfl⟩, trivial⟩
    obtain ⟨hi, rfl, hi1, hi2, hi3⟩ := he
    walk_at "w"
    rw [e1]
    refine ⟨a, b, c, d, r, cn, first, own + 1, rfl, hn, hc, f1, by omega, by omega, fun b1 hb => ?_⟩
    have wr : ∀ (y : Int), 0 ≤ y → y < 2 → ∃ w : Str, atI [D.str "each", D.str "all"] y = some (.str w) ∧ (w = "each" ∨ w = "all") := fun y y0 y1 => by
      obtain rfl | rfl : y = 0 ∨ y = 1 := by omega
      · exact ⟨_, rfl, .inl rfl⟩
      · exact ⟨_, rfl, .inr rfl⟩
    walk_at "w"
    by_cases l1 : lev = 1
    · subst l1
      rw [decide_eq_true (show ((own : Nat) : Int) = (first : Nat) by omega)]
      walk_at "w"
      walk_at "ek"
      rename_i z z0 z1
      walk_at "sp"
      · rw [e1]
        refine ⟨a, b, c, d, r, cn, first, own + 1, rfl, hn, hc, f1, show own + 1 = first + (1 - 0) by omega, by decide, f10, fun b2 hb2 => ?_⟩
        walk_at "w"
        walk_at "ek"
        rename_i v v0 v1
        obtain ⟨w, ew, hw⟩ := wr v v0 v1
        refine ⟨_, ew, ?_⟩
        walk_at "w"
        walk_at "ek"
        refine fin hw lo1 hi1 lo2 lo3 hi2 hi3 (fun t (ht : t + 1 < 2) => (hb2.1 (t + 1) (by omega)).up (by decide)) (by have := hb2.2.1; omega) (by have := hb2.2.2; omega) ⟨fun _ h => h, trivial, trivial, trivial, trivial, outs_nil⟩
      · walk_at "ek"
        rename_i v v0 v1
        obtain ⟨w, ew, hw⟩ := wr v v0 v1
        refine ⟨_, ew, ?_⟩
        walk_at "w"
        walk_at "ek"
        refine fin hw lo1 hi1 lo2 lo3 hi2 hi3 (fun t ht => (hb.1 (t + 1)).up (by decide)) (by have := hb.2.1; omega) (by have := hb.2.2; omega) ⟨fun _ h => h, trivial, trivial, trivial, trivial, outs_nil⟩
    · obtain rfl : lev = 0 := by omega
      rw [decide_eq_false (show ¬ ((own : Nat) : Int) = (first : Nat) by omega)]
      walk_at "w"
      walk_at "ek"
      rename_i v v0 v1
      obtain ⟨w, ew, hw⟩ := wr v v0 v1
      refine ⟨_, ew, ?_⟩
      walk_at "w"
      walk_at "ek"
      refine fin hw lo1 hi1 lo2 lo3 hi2 hi3 (fun t ht => (hb.1 (t + 1)).up (by decide)) (by have := hb.2.1; omega) (by have := hb.2.2; omega) ⟨fun _ h => h, trivial, trivial, trivial, trivial, outs_nil⟩⟩
theorem ok_l_turned (T : Txt K w mg) : K_l_turned P w base T 5 (sp_l_turned 1) := turned_step T (by decide) (turned_step T (Nat.le_refl 3) (no_l_turned T))
def isz (k : Nat) : Nat := if k = 0 then 20 else 13
def sp_l_item : FSpec := fun cs Q => ∃ (a b c d : Str) (r : List Str) (cn : List Nat) (first k : Nat), cs = [.opq false PenQ, .val (ns4 a b c d r), .val (cnL cn), .val (.int (first : Nat)), .val (.int (k : Nat))] ∧ (1 ≤ cn.length ∧ cn.length ≤ 4) ∧ (∀ c ∈ cn, 1 ≤ c ∧ c ≤ 3) ∧ 1 ≤ first ∧ first ≤ 10 ∧
  ∀ b1, Bo.Ok (nd4 a b c d) cn 3 3 first 0 b1 ∧ b1.sz ≤ isz k ∧ b1.dp ≤ 5 → Q b1.toD [.opq false PenQ, .none, .none, .none, .none]
set_option maxHeartbeats 16000000 in
theorem ok_l_item (T : Txt K w mg) : K_l_item P w base T 6 sp_l_item :=
  okD T.F_l_item sc_l_item fun cdv A outer s H E B cs Q hr hl hs => ⟨_, d_l_item T (ok_l_take T) (by decide) (ok_l_call T) (by decide) (ok_l_turned T) (by decide) hr, by
    obtain ⟨a, b, c, d, r, cn, first, k, rfl, hn, hc, f1, f10, hq⟩ := hs
    have fin : ∀ {b1 : Bo} {env : DEnv}, Bo.Ok (nd4 a b c d) cn 3 3 first 0 b1 → b1.sz ≤ isz k → b1.dp ≤ 5 → Outs env [.opq false PenQ, .none, .none, .none, .none] → ∃ cs' : List Cell, cs'.length = 5 ∧ Outs env cs' ∧ Q b1.toD cs' := fun h1 h2 h3 o => ⟨_, rfl, o, hq _ ⟨h1, h2, h3⟩⟩
    have z13 : 13 ≤ isz k := by unfold isz; split <;> decide
    walk_at "w"
    walk_at "ek"
    rename_i x x0 x1
    have last : ∀ {env : DEnv} (y : Int), 0 ≤ y → y < 4 → Outs env [.opq false PenQ, .none, .none, .none, .none] → ∃ e, atI [D.tup [.str "none"], .tup [.str "gain", .tup [.str "own", .int 0]], .tup [.str "gain", .tup [.str "num", .int 3]], .tup [.str "gain", .tup [.str "need", .str a]]] y = some e ∧ ∃ cs' : List Cell, cs'.length = 5 ∧ Outs env cs' ∧ Q e cs' := fun y y0 y1 o => by
      refine pick (fun e => ∃ q : Bo, e = q.toD ∧ Bo.Ok (nd4 a b c d) cn 3 3 first 0 q ∧ q.sz ≤ 13 ∧ q.dp ≤ 5) y0 y1 ?_ fun e he => ?_
      · exact ⟨⟨.none, rfl, .none, Nat.le_of_ble_eq_true rfl, Nat.le_of_ble_eq_true rfl⟩, ⟨.gain (.own 0), rfl, by walk_at "bo", Nat.le_of_ble_eq_true rfl, Nat.le_of_ble_eq_true rfl⟩, ⟨.gain (.num 3), rfl, by walk_at "bo", Nat.le_of_ble_eq_true rfl, Nat.le_of_ble_eq_true rfl⟩, ⟨.gain (.need a), rfl, by walk_at "bo", Nat.le_of_ble_eq_true rfl, Nat.le_of_ble_eq_true rfl⟩, trivial⟩
      obtain ⟨q, rfl, h1, h2, h3⟩ := he
      exact fin h1 (by omega) h3 o
    obtain ⟨x, rfl⟩ := Int.eq_ofNat_of_zero_le x0
    by_cases h2 : x < 2
    · rw [decide_eq_true (show ((x : Nat) : Int) < 2 by omega)]
      walk_at "w"
      refine ⟨a, b, c, d, r, cn, first, first, rfl, hn, hc, f1, Nat.le_refl _, by omega, fun b1 hb => ?_⟩
      walk_at "w"
      exact fin ((hb.1 0).up (by decide)) (by have := hb.2.1; omega) (by have := hb.2.2; omega) ⟨fun _ h => h, trivial, trivial, trivial, trivial, outs_nil⟩
    · rw [decide_eq_false (show ¬ ((x : Nat) : Int) < 2 by omega)]
      walk_at "w"
      by_cases h3 : x = 2
      · rw [decide_eq_true (show ((x : Nat) : Int) = 2 by omega)]
        walk_at "w"
        refine ⟨a, b, c, d, r, cn, first, first, rfl, hn, hc, f1, Nat.le_refl _, by omega, fun b1 hb => ?_⟩
        walk_at "w"
        walk_at "ek"
        rename_i y y0 y1
        refine fin (b1 := .both b1 (.gain (.num (y - 2)))) (.both (n := 2) ((hb.1 0).up (by decide)) (by walk_at "bo")) ?_ ?_ ⟨fun _ h => h, trivial, trivial, trivial, trivial, outs_nil⟩
        · show 1 + b1.sz + 2 ≤ _
          have := hb.2.1; omega
        · show 1 + max b1.dp 2 ≤ _
          have := hb.2.2; omega
      · rw [decide_eq_false (show ¬ ((x : Nat) : Int) = 2 by omega)]
        walk_at "w"
        by_cases h4 : x = 3
        · rw [decide_eq_true (show ((x : Nat) : Int) = 3 by omega)]
          walk_at "w"
          by_cases k0 : k = 0
          · rw [decide_eq_true (show ((k : Nat) : Int) = 0 by omega)]
            walk_at "w"
            refine ⟨a, b, c, d, r, cn, first, first, rfl, hn, hc, f1, rfl, Nat.le_refl _, f10, fun b1 hb => ?_⟩
            walk_at "w"
            exact fin (hb.1 0 (by decide)) (by have := hb.2.1; unfold isz; rw [if_pos k0]; omega) (by have := hb.2.2; omega) ⟨fun _ h => h, trivial, trivial, trivial, trivial, outs_nil⟩
          · rw [decide_eq_false (show ¬ ((k : Nat) : Int) = 0 by omega)]
            walk_at "w"
            walk_at "ek"
            rename_i y y0 y1
            exact last y y0 y1 ⟨fun _ h => h, trivial, trivial, trivial, trivial, outs_nil⟩
        · rw [decide_eq_false (show ¬ ((x : Nat) : Int) = 3 by omega)]
          walk_at "w"
          walk_at "ek"
          rename_i y y0 y1
          exact last y y0 y1 ⟨fun _ h => h, trivial, trivial, trivial, trivial, outs_nil⟩⟩
local macro_rules | `(tactic| walk_at "se") => `(tactic| repeat' (first | exact se_own (by omega) | exact se_num (by omega) (by omega) | exact se_need | exact se_szb | exact se_szc | exact se_szd | refine se_plc ?_ | refine se_kids ?_ | refine se_kid ?_ ?_ | refine se_bin (by decide) ?_ ?_ | refine se_un (by decide) ?_))
local macro_rules | `(tactic| walk_at "bo") => `(tactic| repeat' (first | assumption | exact Bo.Ok.none | refine Bo.Ok.gain ?_ | refine Bo.Ok.call rfl ?_ | refine Bo.Ok.call (by assumption) ?_ | refine Bo.Ok.choose (Nat.le_of_ble_eq_true rfl) (Nat.le_of_ble_eq_true rfl) ?_ | refine Bo.Ok.turn (by first | exact .inl rfl | exact .inr rfl | assumption) (by omega) ?_ ?_ ?_ | refine Bo.Ok.both ?_ ?_ | refine Bo.Ok.ite ?_ ?_ ?_ | refine Co.Ok.rel (by first | exact .inl rfl | exact .inr (.inl rfl) | exact .inr (.inr rfl)) ?_ ?_ | refine Co.Ok.not ?_ | refine Co.Ok.two (by first | exact .inl rfl | exact .inr rfl) ?_ ?_ | refine one_of ?_ | refine two_of ?_ ?_ | refine three_of ?_ ?_ ?_ | refine bone_of ?_ | refine btwo_of ?_ ?_ | refine bthree_of ?_ ?_ ?_ | exact se_own (by omega) | exact se_num (by omega) (by omega) | exact se_need | exact se_szb | exact se_szc | exact se_szd | refine se_plc ?_ | refine se_kids ?_ | refine se_kid ?_ ?_ | refine se_bin (by decide) ?_ ?_ | refine se_un (by decide) ?_))
/-! ### any calls -/
section
variable (s1 s2 : FSpec)
set_option maxHeartbeats 8000000 in
theorem lim_comp (f : Int) (hf : f = 1 ∨ f = 2 ∨ f = 3) (c1 c2 c3 c4 c6 c7 c8 c10 c11 c12 : Cell) : ∀ (ds : List D) (Q : List D → DEnv → Prop), (∀ l : List Int, l.length = ds.length → (∀ i ∈ l, 0 ≤ i ∧ i ≤ 10) → Q (l.map D.int) [.opq false PenQ, c1, c2, c3, c4, .val (.int f), c6, c7, c8, .none, c10, c11, c12]) →
    mapL [9] (gN 9) qYes (t_l_wild_2 sp_l_take s2) ds [.opq false PenQ, c1, c2, c3, c4, .val (.int f), c6, c7, c8, .none, c10, c11, c12] Q
  | [], Q, h => by
    walk_at "mn"
    exact h [] rfl fun i m => by cases m
  | d :: r, Q, h => by
    have ih := lim_comp f hf c1 c2 c3 c4 c6 c7 c8 c10 c11 c12 r
    have go : ∀ (i : Int), 0 ≤ i → i ≤ 10 → mapL [9] (gN 9) qYes (t_l_wild_2 sp_l_take s2) r [.opq false PenQ, c1, c2, c3, c4, .val (.int f), c6, c7, c8, .none, c10, c11, c12] (fun l e => Q (.int i :: l) e) := fun i i0 i1 =>
      ih _ fun l ll lb => h (i :: l) (by rw [List.length_cons, List.length_cons, ll]) fun j m => by
        rcases List.mem_cons.mp m with e | m
        · omega
        · exact lb j m
    rcases hf with rfl | rfl | rfl
    all_goals
      walk_at "mc"
      walk_at "ek"
      rename_i x x0 x1
      exact go _ (by omega) (by omega)
set_option maxHeartbeats 8000000 in
theorem items_comp (a b c d : Str) (r : List Str) (cn : List Nat) (hn : 1 ≤ cn.length ∧ cn.length ≤ 4) (hc : ∀ c ∈ cn, 1 ≤ c ∧ c ≤ 3) (f : Nat) (f1 : 1 ≤ f) (f10 : f ≤ 10) (c2 c4 c6 c7 c8 c10 c11 c12 : Cell) : ∀ (j k : Nat) (Q : List D → DEnv → Prop),
    (∀ bs : List Bo, bs.length = j → (∀ q ∈ bs, Bo.Ok (nd4 a b c d) cn 3 3 f 0 q ∧ q.dp ≤ 5) → Bo.szs bs ≤ 13 * j + (if k = 0 then 7 else 0) → Q (bs.map Bo.toD) [.opq false PenQ, .val (ns4 a b c d r), c2, .val (cnL cn), c4, .val (.int (f : Nat)), c6, c7, c8, .none, c10, c11, c12]) →
    mapL [9] (gN 9) qYes (t_l_wild_3 s1 sp_l_item) (rgD (k : Int) j) [.opq false PenQ, .val (ns4 a b c d r), c2, .val (cnL cn), c4, .val (.int (f : Nat)), c6, c7, c8, .none, c10, c11, c12] Q
  | 0, k, Q, h => by
    rw [rgD_nil]
    walk_at "mn"
    exact h [] rfl (fun q m => by cases m) (Nat.zero_le _)
  | j + 1, k, Q, h => by
    rw [rgD_cons]
    walk_at "mc"
    refine ⟨a, b, c, d, r, cn, f, k, rfl, hn, hc, f1, f10, fun b1 hb => ?_⟩
    walk_at "w"
    refine items_comp a b c d r cn hn hc f f1 f10 c2 c4 c6 c7 c8 c10 c11 c12 j (k + 1) _ fun bs bl ho hz => ?_
    refine h (b1 :: bs) (by rw [List.length_cons, bl]) (fun q m => ?_) ?_
    · rcases List.mem_cons.mp m with e | m
      · rw [e]; exact ⟨hb.1, hb.2.2⟩
      · exact ho q m
    · have h2 := hb.2.1
      rw [if_neg (by omega)] at hz
      rw [Bo.szs]
      unfold isz at h2
      split at h2
      · rename_i k0; rw [if_pos k0]; omega
      · rename_i k0; rw [if_neg k0]; omega
set_option maxHeartbeats 8000000 in
theorem both_loop (nd : List (Str × Str)) (cn : List Nat) (f : Nat) (DD : DEnds) (c0 c1 c2 c3 c4 c5 c6 c7 c9 c11 c12 : Cell) : ∀ (bs : List Bo) (n : Nat) (q : Bo) (c10 : Cell), Bo.Ok nd cn 3 n f 0 q → 3 ≤ n → (∀ q ∈ bs, Bo.Ok nd cn 3 3 f 0 q ∧ q.dp ≤ 5) →
    (∀ q2 c10, Bo.Ok nd cn 3 (n + bs.length) f 0 q2 → q2.sz ≤ q.sz + Bo.szs bs + bs.length → q2.dp ≤ max q.dp 5 + bs.length → DD.nx [c0, c1, c2, c3, c4, c5, c6, c7, .val q2.toD, c9, c10, c11, c12]) →
    forL (fun d DD env => gN 10 d env fun env2 => t_l_wild_4 s1 s2 DD env2) (bs.map Bo.toD) DD [c0, c1, c2, c3, c4, c5, c6, c7, .val q.toD, c9, c10, c11, c12]
  | [], n, q, c10, hq, h3, hb, h => by
    walk_at "fn"
    exact h q c10 hq (by rw [Bo.szs, List.length_nil]; omega) (by rw [List.length_nil]; omega)
  | b1 :: r, n, q, c10, hq, h3, hb, h => by
    have h1 := hb b1 List.mem_cons_self
    walk_at "fc"
    refine ⟨by show 3 ≤ sizeLine; decide, ?_⟩
    walk_at "w"
    refine both_loop nd cn f DD c0 c1 c2 c3 c4 c5 c6 c7 c9 c11 c12 r (n + 1) (.both q b1) _ (.both hq (h1.1.up h3)) (by omega) (fun q m => hb q (List.mem_cons_of_mem _ m)) fun q2 c10 k1 k2 k3 => ?_
    have e2 : (Bo.both q b1).sz = 1 + q.sz + b1.sz := rfl
    have e3 : (Bo.both q b1).dp = 1 + max q.dp b1.dp := rfl
    have := h1.2
    refine h q2 c10 (by rw [List.length_cons, show n + (r.length + 1) = n + 1 + r.length by omega]; exact k1) (by rw [Bo.szs, List.length_cons]; omega) (by rw [List.length_cons]; omega)
set_option maxHeartbeats 4000000 in
theorem nums_comp (c0 c1 c2 c3 c4 c5 c6 c7 c8 c9 c10 c11 : Cell) : ∀ (l : List Int) (Q : List D → DEnv → Prop), Q ((l.map Ex.num).map Ex.toD) [c0, c1, c2, c3, c4, c5, c6, c7, c8, c9, c10, c11, .none] →
    mapL [12] (gN 12) qYes (t_l_wild_5 s1 s2) (l.map D.int) [c0, c1, c2, c3, c4, c5, c6, c7, c8, c9, c10, c11, .none] Q
  | [], Q, h => by
    walk_at "mn"
    exact h
  | i :: l, Q, h => by
    walk_at "mc"
    refine ⟨by show 2 ≤ sizeLine; decide, ?_⟩
    walk_at "w"
    exact nums_comp c0 c1 c2 c3 c4 c5 c6 c7 c8 c9 c10 c11 l _ h
end
/-- functions made so far, by all counts -/
def Wld (nd : List (Str × Str)) (cn : List Nat) (f : Nat) (t : Dt) : Prop := t.ms = t.li.map Ex.num ∧ t.li.length = f ∧ (∀ i ∈ t.li, 0 ≤ i ∧ i ≤ 10) ∧ Bo.Ok nd cn 3 6 f 0 t.bd ∧ t.bd.sz ≤ 60 ∧ t.bd.dp ≤ 12
def Vn (c : Cell) : Prop := c = .none ∨ ∃ d, c = .val d
set_option maxHeartbeats 16000000 in
theorem wild_iter (a b c d : Str) (r : List Str) (cn : List Nat) (hn : 1 ≤ cn.length ∧ cn.length ≤ 4) (hc : ∀ c ∈ cn, 1 ≤ c ∧ c ≤ 3) (f : Nat) (hf : f = 1 ∨ f = 2 ∨ f = 3) (DD : DEnds) (c2 c6 c7 c8 c9 c10 c11 c12 : Cell) (h9 : Vn c9) (h12 : Vn c12) (xs : List D) (hx : xs.length ≤ 4)
    (h : ∀ t c6 c7 c8 c9 c10 c11 c12, Vn c9 → Vn c12 → Wld (nd4 a b c d) cn f t → DD.nx [.opq false PenQ, .val (ns4 a b c d r), c2, .val (cnL cn), .own true (.lst (xs ++ [t.toD])), .val (.int (f : Nat)), c6, c7, c8, c9, c10, c11, c12]) :
    t_l_wild_6 sp_l_take sp_l_item DD [.opq false PenQ, .val (ns4 a b c d r), c2, .val (cnL cn), .own true (.lst xs), .val (.int (f : Nat)), c6, c7, c8, c9, c10, c11, c12] := by
  have hfi : ((f : Nat) : Int) = 1 ∨ ((f : Nat) : Int) = 2 ∨ ((f : Nat) : Int) = 3 := by omega
  have v9 : Vn c9.dat ∧ Vn c9.dat.dat ∧ Vn c9.dat.dat.dat := by rcases h9 with rfl | ⟨d, rfl⟩; exact ⟨.inl rfl, .inl rfl, .inl rfl⟩; exact ⟨.inr ⟨_, rfl⟩, .inr ⟨_, rfl⟩, .inr ⟨_, rfl⟩⟩
  have v12 : Vn c12.dat := by rcases h12 with rfl | ⟨d, rfl⟩; exact .inl rfl; exact .inr ⟨_, rfl⟩
  -- the function is put to the others
  have put : ∀ (l : List Int) (q : Bo) (d7 : D) (c8 c9 c10 c11 : Cell), Vn c9 → l.length = f → (∀ i ∈ l, 0 ≤ i ∧ i ≤ 10) → Bo.Ok (nd4 a b c d) cn 3 6 f 0 q → q.sz ≤ 60 → q.dp ≤ 12 → c8 = .val q.toD →
      sApp 4 (qTup (qCons (qCl (n1 tupleD) (qCons (qFz (fComp (qIter (qVar 6)) (gN 12) (qYes) ((t_l_wild_5 sp_l_take sp_l_item)) [12])) (qNil))) (qCons (qVar 8) (qCons (qVar 6) (qNil))))) DD [.opq false PenQ, .val (ns4 a b c d r), c2, .val (cnL cn), .own true (.lst xs), .val (.int (f : Nat)), .val (.tup (l.map D.int)), .val d7, c8, c9, c10, c11, c12] := by
    rintro l q d7 c8 c9 c10 c11 k9 ll lb oq sq dq rfl
    walk_at "w"
    refine ⟨by rw [List.length_map]; exact Nat.le_trans (show l.length ≤ 3 by omega) (by decide), ?_⟩
    walk_at "w"
    refine nums_comp _ _ _ _ _ _ _ _ _ _ _ _ _ _ l _ ?_
    rcases h12 with rfl | ⟨d12, rfl⟩
    all_goals
      walk_at "w"
      refine ⟨by show 3 ≤ sizeLine; decide, ?_⟩
      walk_at "w"
      refine ⟨Nat.lt_of_lt_of_le (show xs.length < 5 by omega) (by decide), ?_⟩
      walk_at "w"
      exact h ⟨l.map Ex.num, q, l⟩ _ _ _ _ _ _ _ k9 (by first | exact .inl rfl | exact .inr ⟨_, rfl⟩) ⟨rfl, ll, lb, oq, sq, dq⟩
  -- a condition ahead, or none
  have cond : ∀ (l : List Int) (q : Bo) (d7 : D) (c8 c9 c10 c11 : Cell), Vn c9 → l.length = f → (∀ i ∈ l, 0 ≤ i ∧ i ≤ 10) → Bo.Ok (nd4 a b c d) cn 3 5 f 0 q → q.sz ≤ 54 → q.dp ≤ 11 → c8 = .val q.toD →
      sSeq (sIf (qTest (qOp (i2 fun i j Q => Q (.bl (decide (j < i)))) (qCall sp_l_take 2 (rSlot 0 (rCons (qC (.int 4)) (rNil)))) (qC (.int 0)))) (sSeq (sAsg (qTup (qCons (qC (.str "own")) (qCons (qCall sp_l_take 2 (rSlot 0 (rCons (qVar 5) (rNil)))) (qNil)))) (gN 10)) (sSeq (sAsg (qLst (qCons (qTup (qCons (qC (.str "below")) (qCons (qVar 10) (qCons (qTup (qCons (qC (.str "num")) (qCons (qC (.int 1)) (qNil)))) (qNil))))) (qCons (qTup (qCons (qC (.str "same")) (qCons (qVar 10) (qCons (qTup (qCons (qC (.str "own")) (qCons (qC (.int 0)) (qNil)))) (qNil))))) (qCons (qTup (qCons (qC (.str "below")) (qCons (qVar 10) (qCons (qTup (qCons (qC (.str "num")) (qCons (qC (.int 2)) (qNil)))) (qNil))))) (qNil))))) (gN 11)) (sAsg (qTup (qCons (qC (.str "if")) (qCons (qOp ixD (qVar 11) (qCall sp_l_take 2 (rSlot 0 (rCons (qC (.int 3)) (rNil))))) (qCons (qTup (qCons (qC (.str "gain")) (qCons (qTup (qCons (qC (.str "num")) (qCons (qCall sp_l_take 2 (rSlot 0 (rCons (qC (.int 3)) (rNil)))) (qNil)))) (qNil)))) (qCons (qVar 8) (qNil)))))) (gN 8)))) (sNext)) (sApp 4 (qTup (qCons (qCl (n1 tupleD) (qCons (qFz (fComp (qIter (qVar 6)) (gN 12) (qYes) ((t_l_wild_5 sp_l_take sp_l_item)) [12])) (qNil))) (qCons (qVar 8) (qCons (qVar 6) (qNil))))))
        DD [.opq false PenQ, .val (ns4 a b c d r), c2, .val (cnL cn), .own true (.lst xs), .val (.int (f : Nat)), .val (.tup (l.map D.int)), .val d7, c8, c9, c10, c11, c12] := by
    rintro l q d7 c8 c9 c10 c11 k9 ll lb oq sq dq rfl
    walk_at "w"
    walk_at "ek"
    rename_i x x0 x1
    by_cases hx : 0 < x
    · rw [decide_eq_true hx]
      walk_at "w"
      refine ⟨_, rfl, by omega, by omega, fun i i0 i1 => ?_⟩
      obtain ⟨i, rfl⟩ := Int.eq_ofNat_of_zero_le i0
      walk_at "w"
      walk_at "lz"
      walk_at "ek"
      rename_i y y0 y1
      refine pick (fun e => ∃ k : Co, e = k.toD ∧ Co.Ok (nd4 a b c d) f 3 3 k ∧ k.sz ≤ 3 ∧ k.dp ≤ 2) y0 y1 ?_ fun e he => ?_
      · exact ⟨⟨.rel "below" (.own i) (.num 1), rfl, by walk_at "bo", Nat.le_of_ble_eq_true rfl, Nat.le_of_ble_eq_true rfl⟩, ⟨.rel "same" (.own i) (.own 0), rfl, by walk_at "bo", Nat.le_of_ble_eq_true rfl, Nat.le_of_ble_eq_true rfl⟩, ⟨.rel "below" (.own i) (.num 2), rfl, by walk_at "bo", Nat.le_of_ble_eq_true rfl, Nat.le_of_ble_eq_true rfl⟩, trivial⟩
      obtain ⟨k, rfl, ok, sk, dk⟩ := he
      walk_at "w"
      walk_at "ek"
      rename_i z z0 z1
      exact put l (.ite k (.gain (.num z)) q) _ _ _ _ _ k9 ll lb (.ite ok (by walk_at "bo") oq) (by show 1 + k.sz + 2 + q.sz ≤ 60; omega) (by show 1 + max k.dp (max 2 q.dp) ≤ 12; omega) rfl
    · rw [decide_eq_false hx]
      walk_at "w"
      exact put l q _ _ _ _ _ k9 ll lb (oq.up (by decide)) (by omega) (by omega) rfl
  walk_at "w"
  refine ⟨⟨by omega, by omega⟩, ?_⟩
  walk_at "w"
  rw [Int.toNat_natCast]
  refine ⟨Nat.le_trans (show (rgD 0 f).length ≤ 3 by rw [rgD_len]; omega) (by decide), ?_⟩
  rcases h9 with rfl | ⟨d9, rfl⟩
  all_goals
    walk_at "w"
    refine lim_comp _ _ hfi _ _ _ _ _ _ _ _ _ _ (rgD 0 f) _ fun l ll lb => ?_
    rw [rgD_len] at ll
    walk_at "w"
    refine ⟨_, rfl, by decide, by decide, fun x x0 x1 => ?_⟩
    walk_at "w"
    refine ⟨⟨by omega, by omega⟩, ?_⟩
    walk_at "w"
    obtain ⟨n, en, n1, n3⟩ : ∃ n : Nat, (1 + x).toNat = n ∧ 1 ≤ n ∧ n ≤ 3 := ⟨(1 + x).toNat, rfl, by omega, by omega⟩
    rw [en]
    refine ⟨Nat.le_trans (show (rgD 0 n).length ≤ 3 by rw [rgD_len]; exact n3) (by decide), ?_⟩
    walk_at "w"
    refine items_comp _ a b c d r cn hn hc f (by omega) (by omega) _ _ _ _ _ _ _ _ n 0 _ fun bs bl hb hz => ?_
    rw [if_pos rfl] at hz
    have sb := hz
    have db : Bo.dps bs ≤ 5 := dps_le fun q m => (hb q m).2
    have och : Bo.Ok (nd4 a b c d) cn 3 4 f 0 (.choose bs) := .choose (by omega) (by omega) fun q m => (hb q m).1
    walk_at "w"
    refine ⟨by show 2 ≤ sizeLine; decide, ?_⟩
    walk_at "w"
    refine ⟨_, rfl, by decide, by decide, fun y y0 y1 => ?_⟩
    walk_at "w"
    by_cases hy : y = 0
    · rw [decide_eq_true hy]
      cases bs with
      | nil => rw [List.length_nil] at bl; omega
      | cons b0 rs =>
        have h0 := hb b0 List.mem_cons_self
        have ez : Bo.szs (b0 :: rs) = b0.sz + Bo.szs rs := rfl
        walk_at "w"
        refine ⟨_, atI_nat (j := 0) rfl, ?_⟩
        walk_at "w"
        rw [List.map_cons, cut_tail]
        refine both_loop _ _ (nd4 a b c d) cn f _ _ _ _ _ _ _ _ _ _ _ _ rs 3 b0 _ h0.1 (Nat.le_refl _) (fun q m => hb q (List.mem_cons_of_mem _ m)) fun q2 c10 k1 k2 k3 => ?_
        rw [List.length_cons] at bl
        exact cond l q2 _ _ _ _ _ (by first | exact .inl rfl | exact .inr ⟨_, rfl⟩) ll lb (k1.up (by omega)) (by omega) (by have := h0.2; omega) rfl
    · rw [decide_eq_false hy]
      walk_at "w"
      rw [← Bo.toDs_eq]
      exact cond l (.choose bs) _ _ _ _ _ (by first | exact .inl rfl | exact .inr ⟨_, rfl⟩) ll lb (och.up (by decide)) (by show 1 + Bo.szs bs ≤ 54; omega) (by show 1 + Bo.dps bs ≤ 11; omega) rfl

section
variable (s1 s2 : FSpec)
set_option maxHeartbeats 8000000 in
theorem wild_loop (a b c d : Str) (r : List Str) (cn : List Nat) (hn : 1 ≤ cn.length ∧ cn.length ≤ 4) (hc : ∀ c ∈ cn, 1 ≤ c ∧ c ≤ 3) (DD : DEnds) (c2 : Cell) : ∀ (fs : List Nat) (ts : List Dt) (c5 c6 c7 c8 c9 c10 c11 c12 : Cell), (∀ f ∈ fs, 1 ≤ f ∧ f ≤ 3) → ts.length + fs.length ≤ 4 → Vn c9 → Vn c12 →
    (∀ (us : List Dt) c5 c6 c7 c8 c9 c10 c11 c12, Paired (Wld (nd4 a b c d) cn) fs us → DD.nx [.opq false PenQ, .val (ns4 a b c d r), c2, .val (cnL cn), .own true (.lst ((ts ++ us).map Dt.toD)), c5, c6, c7, c8, c9, c10, c11, c12]) →
    forL (fun x DD env => gN 5 x env fun env2 => t_l_wild_6 sp_l_take sp_l_item DD env2) (fs.map fun n => .int (n : Nat)) DD [.opq false PenQ, .val (ns4 a b c d r), c2, .val (cnL cn), .own true (.lst (ts.map Dt.toD)), c5, c6, c7, c8, c9, c10, c11, c12]
  | [], ts, c5, c6, c7, c8, c9, c10, c11, c12, hf, hl, h9, h12, h => by
    walk_at "fn"
    have := h [] c5 c6 c7 c8 c9 c10 c11 c12 .nil
    rw [List.append_nil] at this
    exact this
  | f :: fs, ts, c5, c6, c7, c8, c9, c10, c11, c12, hf, hl, h9, h12, h => by
    have f3 := hf f List.mem_cons_self
    rw [List.length_cons] at hl
    walk_at "fc"
    refine wild_iter a b c d r cn hn hc f (by omega) _ _ _ _ _ _ _ _ _ h9 h12 _ (by rw [List.length_map]; omega) fun t c6 c7 c8 c9 c10 c11 c12 h9 h12 hw => ?_
    have ih := wild_loop a b c d r cn hn hc DD c2 fs (ts ++ [t])
    rw [List.map_append] at ih
    refine ih _ _ _ _ _ _ _ _ (fun f m => hf f (List.mem_cons_of_mem _ m)) (by rw [List.length_append, List.length_singleton]; omega) h9 h12 fun us c5 c6 c7 c8 c9 c10 c11 c12 hu => ?_
    have := h (t :: us) c5 c6 c7 c8 c9 c10 c11 c12 (.cons hw hu)
    rw [List.append_assoc]
    exact this
set_option maxHeartbeats 4000000 in
theorem counts_comp (c1 c2 c3 c4 c5 c6 c7 c8 c10 c11 c12 : Cell) : ∀ (ds : List D) (Q : List D → DEnv → Prop), (∀ cn : List Nat, cn.length = ds.length → (∀ c ∈ cn, 1 ≤ c ∧ c ≤ 3) → Q (cn.map fun n => .int (n : Nat)) [.opq false PenQ, c1, c2, c3, c4, c5, c6, c7, c8, .none, c10, c11, c12]) →
    mapL [9] (gN 9) qYes (t_l_wild_1 sp_l_take s2) ds [.opq false PenQ, c1, c2, c3, c4, c5, c6, c7, c8, .none, c10, c11, c12] Q
  | [], Q, h => by
    walk_at "mn"
    exact h [] rfl fun i m => by cases m
  | d :: r, Q, h => by
    walk_at "mc"
    walk_at "ek"
    rename_i x x0 x1
    obtain ⟨n, en, n0, n1⟩ : ∃ n : Nat, 1 + x = (n : Int) ∧ 1 ≤ n ∧ n ≤ 3 := ⟨(1 + x).toNat, by omega, by omega, by omega⟩
    rw [en]
    refine counts_comp c1 c2 c3 c4 c5 c6 c7 c8 c10 c11 c12 r _ fun cn cl hc => ?_
    refine h (n :: cn) (by rw [List.length_cons, List.length_cons, cl]) fun j m => ?_
    rcases List.mem_cons.mp m with e | m
    · omega
    · exact hc j m
end
theorem Wld.cnt {nd : List (Str × Str)} {cn : List Nat} : ∀ {fs : List Nat} {us : List Dt}, Paired (Wld nd cn) fs us → cnT us = fs
  | _, _, .nil => rfl
  | _, _, .cons h t => by
    show (Dt.ms _).length :: cnT _ = _
    rw [Wld.cnt t, h.1, List.length_map, h.2.1]
theorem Wld.mem {nd : List (Str × Str)} {cn : List Nat} : ∀ {fs : List Nat} {us : List Dt}, Paired (Wld nd cn) fs us → ∀ u ∈ us, ∃ f ∈ fs, Wld nd cn f u
  | _, _, .nil, u, m => by cases m
  | _, _, .cons h t, u, m => by
    rcases List.mem_cons.mp m with e | m
    · rw [e]; exact ⟨_, List.mem_cons_self, h⟩
    · obtain ⟨f, mf, hf⟩ := Wld.mem t u m
      exact ⟨f, List.mem_cons_of_mem _ mf, hf⟩
set_option maxHeartbeats 8000000 in
theorem ok_l_wild (T : Txt K w mg) : K_l_wild P w base T 7 sp_shape :=
  okD T.F_l_wild sc_l_wild fun cdv A outer s H E B cs Q hr hl hs => ⟨_, d_l_wild T (ok_l_take T) (by decide) (ok_l_item T) (by decide) hr, by
    obtain ⟨a, b, c, d, r, g, rfl, hg, hq⟩ := hs
    walk_at "w"
    refine ⟨_, rfl, by decide, by decide, fun x x0 x1 => ?_⟩
    walk_at "w"
    refine ⟨⟨by omega, by omega⟩, ?_⟩
    walk_at "w"
    obtain ⟨n, en, n1, n4⟩ : ∃ n : Nat, (1 + x).toNat = n ∧ 1 ≤ n ∧ n ≤ 4 := ⟨(1 + x).toNat, rfl, by omega, by omega⟩
    rw [en]
    refine ⟨Nat.le_trans (show (rgD 0 n).length ≤ 4 by rw [rgD_len]; exact n4) (by decide), ?_⟩
    walk_at "w"
    refine counts_comp _ _ _ _ _ _ _ _ _ _ _ _ (rgD 0 n) _ fun cn cl hc => ?_
    rw [rgD_len] at cl
    walk_at "w"
    walk_at "lz"
    refine wild_loop a b c d r cn ⟨by omega, by omega⟩ hc _ _ cn [] _ _ _ _ _ _ _ _ hc (by rw [List.length_nil]; omega) (.inl rfl) (.inl rfl) fun us c5 c6 c7 c8 c9 c10 c11 c12 hu => ?_
    rw [List.nil_append]
    have ce := Wld.cnt hu
    walk_at "w"
    refine ⟨[.opq false PenQ, .none, .none], rfl, ⟨fun _ h => h, trivial, trivial, outs_nil⟩, hq us ⟨?_, ?_, fun u m => ?_⟩⟩
    · have := congrArg List.length ce
      rw [cnT, List.length_map] at this; omega
    · have := congrArg List.length ce
      rw [cnT, List.length_map] at this; omega
    · obtain ⟨f, mf, hw⟩ := Wld.mem hu u m
      obtain ⟨w1, w2, w3, w4, w5, w6⟩ := hw
      have hf := hc f mf
      have ml : u.ms.length = f := by rw [w1, List.length_map, w2]
      refine ⟨by omega, by omega, fun t mt => ?_, ?_, w5, w6, ?_⟩
      · rw [w1] at mt
        obtain ⟨i, mi, rfl⟩ := List.mem_map.mp mt
        have := w3 i mi
        exact .num (by omega) (by omega)
      · rw [ml, ce, hg.nd]; exact w4
      · rw [w1, List.map_map]; rfl⟩
set_option maxHeartbeats 8000000 in
theorem ok_l_drawn (T : Txt K w mg) : K_l_drawn P w base T 8 sp_shape :=
  okD T.F_l_drawn sc_l_drawn fun cdv A outer s H E B cs Q hr hl hs => ⟨_, d_l_drawn T (ok_l_take T) (by decide) (ok_l_counted T) (by decide) (ok_l_stretches T) (by decide) (ok_l_sets T) (by decide) (ok_l_knots T) (by decide) (ok_l_two T) (by decide) (ok_l_grid T) (by decide) (ok_l_upwards T) (by decide) (ok_l_places T) (by decide) (ok_l_wild T) (by decide) hr, by
    obtain ⟨a, b, c, d, r, g, rfl, hg, hq⟩ := hs
    have fin : ∀ {fs : List Dt} {env : DEnv}, Dsh g fs → Outs env [.opq false PenQ, .none, .none] → ∃ cs' : List Cell, cs'.length = 3 ∧ Outs env cs' ∧ Q (.lst (fs.map Dt.toD)) cs' := fun h o => ⟨_, rfl, o, hq _ h⟩
    walk_at "w"
    walk_at "lz"
    refine ⟨_, rfl, by decide, by decide, fun x x0 x1 => ?_⟩
    walk_at "w"
    by_cases h8 : x < 8
    · rw [decide_eq_true h8]
      obtain ⟨x, rfl⟩ := Int.eq_ofNat_of_zero_le x0
      have h8 : x < 8 := by omega
      walk_at "w"
      have go : ∀ (f : Addr) {L : List D} {Sl : List (Addr × FSpec)} {env : DEnv}, L[x]? = some (.atm (.ref f)) → (f, sp_shape) ∈ Sl → env = [.opq false PenQ, .val (ns4 a b c d r), .val (gvD g), .val (.lst L), .val (.int (x : Nat))] →
          ∃ e, atI L (x : Nat) = some e ∧ ∃ f sp, (f, sp) ∈ Sl ∧ e = .atm (.ref f) ∧ (rSlot 0 (rCons (qVar 1) (rCons (qVar 2) rNil))) env fun as env1 => match callOk 3 as with
            | true => sp (handIn env1 as) fun d cs => putC env1 as cs fun env2 => ∃ cs' : List Cell, cs'.length = 3 ∧ Outs env2 cs' ∧ Q d cs'
            | false => False := fun f L Sl env hL hS he => by
        subst he
        refine ⟨_, atI_nat hL, f, sp_shape, hS, rfl, ?_⟩
        walk_at "w"
        refine ⟨a, b, c, d, r, g, rfl, hg, fun fs hfs => ?_⟩
        walk_at "w"
        exact fin hfs ⟨fun _ h => h, trivial, trivial, outs_nil⟩
      obtain rfl | rfl | rfl | rfl | rfl | rfl | rfl | rfl : x = 0 ∨ x = 1 ∨ x = 2 ∨ x = 3 ∨ x = 4 ∨ x = 5 ∨ x = 6 ∨ x = 7 := by omega
      all_goals exact go _ rfl (by simp) rfl
    · rw [decide_eq_false h8]
      walk_at "w"
      refine ⟨a, b, c, d, r, g, rfl, hg, fun fs hfs => ?_⟩
      walk_at "w"
      exact fin hfs ⟨fun _ h => h, trivial, trivial, outs_nil⟩⟩
/-! ### a program with what is given -/
def mkF (r : List Str) (ts : List Dt) : List Fm := List.zipWith (fun z t => ⟨z, t.ms, t.bd⟩) r ts
structure Pg (nd : List (Str × Str)) (g : Giv) (fs : List Fm) (li : List (List Int)) : Prop where
  nds : Nds nd
  gn : gn g = nd
  gok : Gok g
  l1 : 1 ≤ fs.length
  l4 : fs.length ≤ 4
  ll : li.length = fs.length
  nm : ∀ f ∈ fs, nokB f.nm = true ∧ f.nm ∉ nd.map (fun p => p.1)
  nu : (fs.map fun f => f.nm).Nodup
  m1 : ∀ f ∈ fs, 1 ≤ f.ms.length ∧ f.ms.length ≤ 3
  mz : ∀ f ∈ fs, ∀ t ∈ f.ms, Mz nd t
  bo : ∀ f ∈ fs, Bo.Ok nd (cnF fs) 3 6 f.ms.length 0 f.bd
  sz : ∀ f ∈ fs, f.bd.sz ≤ 60 ∧ f.bd.dp ≤ 12
  li : ∀ (i : Nat) (f : Fm) (l : List Int), fs[i]? = some f → li[i]? = some l → f.ms.map (Ex.val g []) = l.map Rs.ok
def fnL (fs : List Fm) : List Fn := fs.map Fm.fn
theorem Pg.fok {nd : List (Str × Str)} {g : Giv} {fs : List Fm} {li : List (List Int)} (h : Pg nd g fs li) : Fok nd 2 3 6 (fnL fs) := by
  have ec : (fnL fs).map (fun f => f.ms.length) = cnF fs := by
    rw [fnL, List.map_map, cnF]
    refine List.map_congr_left fun f m => ?_
    show (f.ms.map Ex.toD).length = _
    rw [List.length_map]
  have mem : ∀ {p : Fn → Prop}, (∀ f ∈ fs, p f.fn) → ∀ f ∈ fnL fs, p f := fun hp f m => by
    obtain ⟨q, mq, rfl⟩ := List.mem_map.mp m
    exact hp q mq
  refine ⟨by rw [fnL, List.length_map]; exact h.l1, by rw [fnL, List.length_map]; exact h.l4, mem fun f m => ?_, ?_, mem fun f m => ?_, mem fun f m => ?_, mem fun f m => ?_⟩
  · refine ⟨(h.nm f m).1, kindN_not (h.nm f m).2, by show 1 ≤ (f.ms.map Ex.toD).length; rw [List.length_map]; exact (h.m1 f m).1, by show (f.ms.map Ex.toD).length ≤ 3; rw [List.length_map]; exact (h.m1 f m).2, fun d md => ?_, fun d md => ?_⟩
    · obtain ⟨t, mt, rfl⟩ := List.mem_map.mp (show d ∈ f.ms.map Ex.toD from md)
      exact (h.mz f m t mt).mok h.nds
    · obtain ⟨t, mt, rfl⟩ := List.mem_map.mp (show d ∈ f.ms.map Ex.toD from md)
      rw [ex_cnt]
      have := (h.mz f m t mt).sz
      omega
  · rw [fnL, List.map_map]; exact h.nu
  · rw [ec]
    show Bok nd (cnF fs) 3 6 (f.ms.map Ex.toD).length 0 f.bd.toD
    rw [List.length_map]
    exact (h.bo f m).bok h.nds
  · show cnt (.tup f.bd.toL) ≤ 60
    rw [Bo.cnt]; exact (h.sz f m).1
  · show dpt (.tup f.bd.toL) ≤ 12
    rw [Bo.dpt]; exact (h.sz f m).2
def liD (li : List (List Int)) : D := .lst (li.map fun l => .tup (l.map D.int))
def sp_l_program : FSpec := fun cs Q => cs = [.opq false PenQ] ∧ ∀ nd g fs li, Pg nd g fs li → Q (.tup [pgD nd (fnL fs), gvD g, liD li]) [.opq false PenQ]
section
variable (s1 s2 s3 s4 s5 : FSpec)
set_option maxHeartbeats 4000000 in
theorem prog_comp (a b c d : Str) (r : List Str) (c0 c2 c3 c4 c5 : Cell) : ∀ (ts : List Dt) (k : Nat) (Q : List D → DEnv → Prop), k + ts.length ≤ r.length → Q ((mkF (r.drop k) ts).map fun f => fD f.fn) [c0, .val (ns4 a b c d r), c2, c3, c4, c5, .none, .none] →
    mapL [6, 7] (gTupD 2 (gConsD (gN 6) (gConsD (gN 7) gNilD))) qYes (t_l_program_2 s1 s2 s3 s4 s5) (enumD (k : Nat) (ts.map Dt.toD)) [c0, .val (ns4 a b c d r), c2, c3, c4, c5, .none, .none] Q
  | [], k, Q, hk, h => by
    have e : mkF (r.drop k) [] = [] := by unfold mkF; cases r.drop k <;> rfl
    rw [e] at h
    walk_at "mn"
    exact h
  | t :: ts, k, Q, hk, h => by
    rw [List.length_cons] at hk
    have lk : k < r.length := by omega
    have e : mkF (r.drop k) (t :: ts) = ⟨r[k], t.ms, t.bd⟩ :: mkF (r.drop (k + 1)) ts := by
      rw [List.drop_eq_getElem_cons lk]; rfl
    rw [e] at h
    have at4 : atI ((a :: b :: c :: d :: r).map D.str) (4 + (k : Nat)) = some (.str r[k]) := by
      rw [show (4 : Int) + ((k : Nat) : Int) = ((k + 4 : Nat) : Int) by omega]
      refine atI_nat ?_
      rw [List.getElem?_map]
      show ((r)[k]?).map D.str = _
      rw [List.getElem?_eq_getElem lk]; rfl
    walk_at "mc"
    refine ⟨rfl, ?_⟩
    walk_at "w"
    refine ⟨rfl, ?_⟩
    walk_at "w"
    refine ⟨_, at4, ?_⟩
    walk_at "w"
    refine ⟨_, atI_nat (j := 0) rfl, ?_⟩
    walk_at "w"
    refine ⟨_, atI_nat (j := 1) rfl, ?_⟩
    walk_at "w"
    refine ⟨by show 3 ≤ sizeLine; decide, ?_⟩
    walk_at "w"
    exact prog_comp a b c d r c0 c2 c3 c4 c5 ts (k + 1) _ (by omega) h
set_option maxHeartbeats 4000000 in
theorem lims_comp (c0 c1 c2 c3 c4 c5 c6 : Cell) : ∀ (ts : List Dt) (Q : List D → DEnv → Prop), Q (ts.map fun t => .tup (t.li.map D.int)) [c0, c1, c2, c3, c4, c5, c6, .none] →
    mapL [7] (gN 7) qYes (t_l_program_3 s1 s2 s3 s4 s5) (ts.map Dt.toD) [c0, c1, c2, c3, c4, c5, c6, .none] Q
  | [], Q, h => by
    walk_at "mn"
    exact h
  | t :: ts, Q, h => by
    walk_at "mc"
    refine ⟨_, atI_nat (j := 2) rfl, ?_⟩
    walk_at "w"
    exact lims_comp c0 c1 c2 c3 c4 c5 c6 ts _ h
end
theorem mkF_at {r : List Str} {ts : List Dt} (i : Nat) (f : Fm) : (mkF r ts)[i]? = some f → ∃ z t, r[i]? = some z ∧ ts[i]? = some t ∧ f = ⟨z, t.ms, t.bd⟩ := fun e => by
  unfold mkF at e
  rw [List.getElem?_zipWith] at e
  cases h1 : r[i]? with
  | none => rw [h1] at e; cases e
  | some z =>
    cases h2 : ts[i]? with
    | none => rw [h1, h2] at e; cases e
    | some t => rw [h1, h2] at e; cases e; exact ⟨z, t, rfl, rfl, rfl⟩
theorem mkF_len {r : List Str} {ts : List Dt} (h : ts.length ≤ r.length) : (mkF r ts).length = ts.length := by unfold mkF; rw [List.length_zipWith]; omega
theorem mkF_nm : ∀ {r : List Str} {ts : List Dt}, ts.length ≤ r.length → (mkF r ts).map (fun f => f.nm) = r.take ts.length
  | r, [], _ => by cases r <;> rfl
  | [], t :: ts, h => by rw [List.length_cons, List.length_nil] at h; omega
  | z :: r, t :: ts, h => by
    rw [List.length_cons, List.length_cons] at h
    show z :: (mkF r ts).map (fun f => f.nm) = z :: r.take ts.length
    rw [mkF_nm (by omega)]
theorem mkF_cn : ∀ {r : List Str} {ts : List Dt}, ts.length ≤ r.length → cnF (mkF r ts) = cnT ts
  | r, [], _ => by cases r <;> rfl
  | [], t :: ts, h => by rw [List.length_cons, List.length_nil] at h; omega
  | z :: r, t :: ts, h => by
    rw [List.length_cons, List.length_cons] at h
    show t.ms.length :: cnF (mkF r ts) = t.ms.length :: cnT ts
    rw [mkF_cn (by omega)]
theorem nam8 {ns : List Str} (h : Nam 8 ns) : ∃ a b c d r, ns = a :: b :: c :: d :: r ∧ r.length = 4 ∧ Nds (nd4 a b c d) ∧ (∀ z ∈ r, nokB z = true ∧ z ∉ [a, b, c, d]) ∧ r.Nodup ∧ [a, b, c, d].Nodup := by
  obtain ⟨hl, ok, nu⟩ := h
  match ns, hl with
  | a :: b :: c :: d :: r, hl =>
    have e : a :: b :: c :: d :: r = [a, b, c, d] ++ r := rfl
    rw [e, List.nodup_append] at nu
    obtain ⟨n1, n2, n3⟩ := nu
    refine ⟨a, b, c, d, r, rfl, by simpa using hl, ⟨by show 4 ≤ 6; decide, fun p m => ?_, fun p m => ?_, n1⟩, fun z m => ⟨ok z (by rw [e]; exact List.mem_append_right _ m), fun m2 => n3 z m2 z m rfl⟩, n2, n1⟩
    · simp only [nd4, List.mem_cons, List.not_mem_nil, or_false] at m
      rcases m with rfl | rfl | rfl | rfl <;> exact ok _ (by simp)
    · simp only [nd4, List.mem_cons, List.not_mem_nil, or_false] at m
      rcases m with rfl | rfl | rfl | rfl <;> simp [KND]
set_option maxHeartbeats 16000000 in
theorem ok_l_program (T : Txt K w mg) : K_l_program P w base T 30 sp_l_program :=
  okD T.F_l_program sc_l_program fun cdv A outer s H E B cs Q hr hl hs => ⟨_, d_l_program T (ok_l_names T) (by decide) (ok_l_things T) (by decide) (ok_l_drawn T) (by decide) (ok_program_of T 3 2 6 (by decide)) (by decide) (ok_given_of T) (by decide) hr, by
    obtain ⟨rfl, hq⟩ := hs
    walk_at "w"
    refine ⟨8, rfl, by decide, fun ns hns => ?_⟩
    obtain ⟨a, b, c, d, r, rfl, rl, hn, hr2, rn, an⟩ := nam8 hns
    walk_at "w"
    refine ⟨a, b, c, d, r, rfl, an, fun g hg => ?_⟩
    walk_at "w"
    refine ⟨a, b, c, d, r, g, rfl, hg, fun ts hts => ?_⟩
    have tl : ts.length ≤ r.length := by rw [rl]; exact hts.l4
    have t1 := hts.l1
    have pg : Pg (nd4 a b c d) g (mkF r ts) (ts.map fun t => t.li) := by
      have mem : ∀ f ∈ mkF r ts, ∃ z ∈ r, ∃ t ∈ ts, f = ⟨z, t.ms, t.bd⟩ := fun f m => by
        obtain ⟨i, hi, e⟩ := List.getElem_of_mem m
        obtain ⟨z, t, h1, h2, h3⟩ := mkF_at i f (by rw [List.getElem?_eq_getElem hi, e])
        exact ⟨z, List.mem_of_getElem? h1, t, List.mem_of_getElem? h2, h3⟩
      refine ⟨hn, hg.nd, hg.ok, by rw [mkF_len tl]; exact t1, by rw [mkF_len tl]; omega, by rw [mkF_len tl, List.length_map], fun f m => ?_, ?_, fun f m => ?_, fun f m => ?_, fun f m => ?_, fun f m => ?_, fun i f l h1 h2 => ?_⟩
      · obtain ⟨z, mz, t, mt, rfl⟩ := mem f m
        exact hr2 z mz
      · rw [mkF_nm tl]; exact rn.sublist (List.take_sublist _ _)
      · obtain ⟨z, mz, t, mt, rfl⟩ := mem f m
        exact ⟨(hts.ok t mt).m1, (hts.ok t mt).m3⟩
      · obtain ⟨z, mz, t, mt, rfl⟩ := mem f m
        rw [← hg.nd]; exact (hts.ok t mt).mz
      · obtain ⟨z, mz, t, mt, rfl⟩ := mem f m
        rw [mkF_cn tl, ← hg.nd]; exact (hts.ok t mt).bo
      · obtain ⟨z, mz, t, mt, rfl⟩ := mem f m
        exact ⟨(hts.ok t mt).sz, (hts.ok t mt).dp⟩
      · obtain ⟨z, t, k1, k2, rfl⟩ := mkF_at i f h1
        rw [List.getElem?_map, k2] at h2
        cases h2
        exact (hts.ok t (List.mem_of_getElem? k2)).li
    walk_at "w"
    refine ⟨⟨by decide, by decide⟩, ?_⟩
    walk_at "w"
    refine ⟨by show 4 ≤ sizeLine; decide, ?_⟩
    walk_at "w"
    walk_at "mc"
    walk_at "ek"
    walk_at "mc"
    walk_at "ek"
    walk_at "mc"
    walk_at "ek"
    walk_at "mc"
    walk_at "ek"
    walk_at "mn"
    refine ⟨by rw [enumD_len, List.length_map]; exact Nat.le_trans (show ts.length ≤ 4 by omega) (by decide), ?_⟩
    walk_at "w"
    refine prog_comp _ _ _ _ _ a b c d r _ _ _ _ _ ts 0 _ (by omega) ?_
    rw [List.drop_zero, show ((mkF r ts).map fun f => fD f.fn) = (fnL (mkF r ts)).map fD by rw [fnL, List.map_map]; rfl]
    walk_at "w"
    refine ⟨fnL (mkF r ts), nd4 a b c d, rfl, hn, pg.fok, ?_⟩
    walk_at "w"
    refine ⟨g, .tup ((fnL (mkF r ts)).map fD), by rw [hg.nd]; rfl, hg.ok, ?_⟩
    walk_at "w"
    refine ⟨by rw [List.length_map]; exact Nat.le_trans (show ts.length ≤ 4 by omega) (by decide), ?_⟩
    walk_at "w"
    refine lims_comp _ _ _ _ _ _ _ _ _ _ _ _ ts _ ?_
    walk_at "w"
    refine ⟨by show 3 ≤ sizeLine; decide, ?_⟩
    refine ⟨[.opq false PenQ], rfl, ⟨fun _ h => h, outs_nil⟩, ?_⟩
    have := hq _ _ _ _ pg
    rw [liD, List.map_map] at this
    exact this⟩
/-! ### the calls in a body (generic) -/
mutual
def Bo.gs : Bo → List Nat
  | .none => []
  | .gain _ => []
  | .call g _ => [g]
  | .choose bs => Bo.gss bs
  | .turn _ _ _ b => b.gs
  | .both a b => a.gs ++ b.gs
  | .ite _ a b => a.gs ++ b.gs
def Bo.gss : List Bo → List Nat
  | [] => []
  | b :: r => b.gs ++ Bo.gss r
end
mutual
theorem Bo.gs_sz : ∀ b : Bo, b.gs.length ≤ b.sz
  | .none => by rw [Bo.gs, Bo.sz]; exact Nat.le_of_ble_eq_true rfl
  | .gain s => by rw [Bo.gs, Bo.sz, List.length_nil]; omega
  | .call g as => by rw [Bo.gs, Bo.sz, List.length_singleton]; omega
  | .choose bs => by rw [Bo.gs, Bo.sz]; have := Bo.gss_sz bs; omega
  | .turn w lo hi b => by rw [Bo.gs, Bo.sz]; have := Bo.gs_sz b; omega
  | .both a b => by rw [Bo.gs, Bo.sz, List.length_append]; have := Bo.gs_sz a; have := Bo.gs_sz b; omega
  | .ite c a b => by rw [Bo.gs, Bo.sz, List.length_append]; have := Bo.gs_sz a; have := Bo.gs_sz b; omega
theorem Bo.gss_sz : ∀ bs : List Bo, (Bo.gss bs).length ≤ Bo.szs bs
  | [] => by rw [Bo.gss, Bo.szs]; exact Nat.le_refl _
  | b :: r => by rw [Bo.gss, Bo.szs, List.length_append]; have := Bo.gs_sz b; have := Bo.gss_sz r; omega
end
theorem Bo.sz_pos (b : Bo) : 1 ≤ b.sz := by
  cases b <;> rw [Bo.sz] <;> omega
theorem Bo.len_szs : ∀ bs : List Bo, bs.length ≤ Bo.szs bs
  | [] => Nat.zero_le _
  | b :: r => by rw [Bo.szs, List.length_cons]; have := Bo.sz_pos b; have := Bo.len_szs r; omega
theorem Bo.gss_append : ∀ a b : List Bo, Bo.gss (a ++ b) = Bo.gss a ++ Bo.gss b
  | [], b => rfl
  | x :: a, b => by show x.gs ++ Bo.gss (a ++ b) = x.gs ++ Bo.gss a ++ Bo.gss b; rw [Bo.gss_append a b, List.append_assoc]
theorem Bo.szs_append : ∀ a b : List Bo, Bo.szs (a ++ b) = Bo.szs a + Bo.szs b
  | [], b => by show Bo.szs b = Bo.szs [] + Bo.szs b; rw [show Bo.szs [] = 0 from rfl]; omega
  | x :: a, b => by show x.sz + Bo.szs (a ++ b) = x.sz + Bo.szs a + Bo.szs b; rw [Bo.szs_append a b]; omega
/-- what calls_in tells, by its first ones -/
def RG (r : List D) (gs : List Nat) : Prop := Paired (fun d g => ∃ x y, d = D.tup [.int (g : Nat), x, y]) r gs
theorem RG.append {r s : List D} {a b : List Nat} (h : RG r a) (k : RG s b) : RG (r ++ s) (a ++ b) := by
  induction h with
  | nil => exact k
  | cons h t ih => exact .cons h ih
theorem Bo.Ok.cin {nd : List (Str × Str)} {cn : List Nat} {S n own t : Nat} {b : Bo} (h : Bo.Ok nd cn S n own t b) : ∀ ts : List D, ts.length + n ≤ 100 → ∃ r, Cin n b.toD ts r ∧ RG r b.gs := by
  induction h with
  | none => exact fun ts hl => ⟨[], .none, .nil⟩
  | gain h => exact fun ts hl => ⟨[], .gain, .nil⟩
  | call hg h => exact fun ts hl => ⟨_, .call, .cons ⟨_, _, rfl⟩ .nil⟩
  | @choose n own t bs h1 h4 h ih =>
    intro ts hl
    have key : ∀ l : List Bo, (∀ b ∈ l, b ∈ bs) → ∃ r, CinL n (l.map Bo.toD) ts r ∧ RG r (Bo.gss l) := by
      intro l
      induction l with
      | nil => exact fun _ => ⟨[], .nil, .nil⟩
      | cons b l ihl =>
        intro hm
        obtain ⟨r1, c1, g1⟩ := ih b (hm b List.mem_cons_self) ts (by omega)
        obtain ⟨r2, c2, g2⟩ := ihl fun x m => hm x (List.mem_cons_of_mem _ m)
        exact ⟨r1 ++ r2, .cons c1 c2, g1.append g2⟩
    obtain ⟨r, c, g⟩ := key bs fun _ m => m
    refine ⟨r, ?_, g⟩
    show Cin (n + 1) (.tup [.str "choose", .tup (Bo.toDs bs)]) ts r
    rw [Bo.toDs_eq]
    exact .choose (by rw [List.length_map]; omega) c
  | @turn n own t w lo hi b hw ht hl hh hb ih =>
    intro ts hl
    obtain ⟨r, c, g⟩ := ih (ts ++ [.tup [lo.toD, hi.toD]]) (by rw [List.length_append, List.length_singleton]; omega)
    exact ⟨r, .turn hw (by omega) c, g⟩
  | both ha hb iha ihb =>
    intro ts hl
    obtain ⟨r1, c1, g1⟩ := iha ts (by omega)
    obtain ⟨r2, c2, g2⟩ := ihb ts (by omega)
    refine ⟨r1 ++ r2, .both ?_, g1.append g2⟩
    have := CinL.cons c1 (CinL.cons c2 .nil)
    rwa [List.append_nil] at this
  | ite hc ha hb iha ihb =>
    intro ts hl
    obtain ⟨r1, c1, g1⟩ := iha ts (by omega)
    obtain ⟨r2, c2, g2⟩ := ihb ts (by omega)
    refine ⟨r1 ++ r2, .ite ?_, g1.append g2⟩
    have := CinL.cons c1 (CinL.cons c2 .nil)
    rwa [List.append_nil] at this
theorem RG.len {r : List D} {gs : List Nat} (h : RG r gs) : r.length = gs.length := by
  induction h with
  | nil => rfl
  | cons h t ih => rw [List.length_cons, List.length_cons, ih]
/-- calls as they are told: function, number, the function called -/
def trp (f : Nat) : Nat → List Nat → List D
  | _, [] => []
  | n, g :: gs => .tup [.int (f : Nat), .int (n : Nat), .int (g : Nat)] :: trp f (n + 1) gs
theorem trp_len (f : Nat) : ∀ (gs : List Nat) (n : Nat), (trp f n gs).length = gs.length
  | [], _ => rfl
  | g :: gs, n => by rw [trp, List.length_cons, trp_len f gs, List.length_cons]
def trps : Nat → List Fm → List D
  | _, [] => []
  | f, m :: r => trp f 0 m.bd.gs ++ trps (f + 1) r
/-! ### calls_of -/
section
variable (s1 : FSpec)
set_option maxHeartbeats 4000000 in
theorem cof_comp (f : Nat) (c0 c1 c3 : Cell) : ∀ (r : List D) (gs : List Nat) (n : Nat) (Q : List D → DEnv → Prop), RG r gs → Q (trp f n gs) [c0, c1, .val (.int (f : Nat)), c3, .none, .none] →
    mapL [4, 5] (gTupD 2 (gConsD (gN 4) (gConsD (gN 5) gNilD))) qYes (t_calls_of_1 s1) (enumD n r) [c0, c1, .val (.int (f : Nat)), c3, .none, .none] Q
  | _, _, n, Q, .nil, h => by
    walk_at "mn"
    exact h
  | _, _, n, Q, .cons ⟨x, y, rfl⟩ t, h => by
    walk_at "mc"
    refine ⟨rfl, ?_⟩
    walk_at "w"
    refine ⟨rfl, ?_⟩
    walk_at "w"
    refine ⟨_, atI_nat (j := 0) rfl, ?_⟩
    walk_at "w"
    refine ⟨by show 3 ≤ sizeLine; decide, ?_⟩
    walk_at "w"
    exact cof_comp f c0 c1 c3 _ _ (n + 1) _ t h
end
def Cinf (nd : List (Str × Str)) (cn : List Nat) (f : Fm) : Prop := Bo.Ok nd cn 3 6 f.ms.length 0 f.bd ∧ f.bd.sz ≤ 60
theorem trps_len {nd : List (Str × Str)} {cn : List Nat} : ∀ {fs : List Fm} (k : Nat), (∀ f ∈ fs, Cinf nd cn f) → (trps k fs).length ≤ 60 * fs.length
  | [], k, _ => Nat.zero_le _
  | f :: fs, k, h => by
    have h1 := (h f List.mem_cons_self).2
    have h2 := Bo.gs_sz f.bd
    have h3 := trps_len (fs := fs) (k + 1) fun f m => h f (List.mem_cons_of_mem _ m)
    rw [trps, List.length_append, trp_len, List.length_cons]
    omega
set_option maxHeartbeats 8000000 in
theorem cof_loop (nd : List (Str × Str)) (cn : List Nat) (DD : DEnds) (c0 : Cell) : ∀ (fs : List Fm) (k : Nat) (acc : List D) (c2 c3 c4 c5 : Cell), (∀ f ∈ fs, Cinf nd cn f) → acc.length + 60 * fs.length ≤ 1000 → (c4 = .none ∨ ∃ d, c4 = .val d) → (c5 = .none ∨ ∃ d, c5 = .val d) →
    (∀ c2 c3 c4 c5, DD.nx [c0, .own true (.lst (acc ++ trps k fs)), c2, c3, c4, c5]) →
    forL (fun d DD env => gTupD 2 (gConsD (gN 2) (gConsD (gN 3) gNilD)) d env fun env2 => t_calls_of_2 (sp_calls_in 6) DD env2) (enumD k ((fnL fs).map fD)) DD [c0, .own true (.lst acc), c2, c3, c4, c5]
  | [], k, acc, c2, c3, c4, c5, hf, hl, h4, h5, h => by
    walk_at "fn"
    have := h c2 c3 c4 c5
    rw [trps, List.append_nil] at this
    exact this
  | f :: fs, k, acc, c2, c3, c4, c5, hf, hl, h4, h5, h => by
    obtain ⟨ho, hz⟩ := hf f List.mem_cons_self
    obtain ⟨r, hc, hg⟩ := ho.cin [] (by decide)
    have rl := hg.len
    have gz := Bo.gs_sz f.bd
    rw [List.length_cons] at hl
    have ih := fun c2 c3 c4 c5 h4 h5 => cof_loop nd cn DD c0 fs (k + 1) (acc ++ trp k 0 f.bd.gs) c2 c3 c4 c5 (fun f m => hf f (List.mem_cons_of_mem _ m)) (by rw [List.length_append, trp_len]; omega) h4 h5 (by rw [List.append_assoc]; exact h)
    walk_at "fc"
    refine ⟨rfl, ?_⟩
    walk_at "w"
    refine ⟨rfl, ?_⟩
    walk_at "w"
    refine ⟨_, atI_nat (j := 2) rfl, ?_⟩
    walk_at "w"
    refine ⟨by decide, ?_⟩
    walk_at "w"
    refine ⟨f.bd.toD, [], r, rfl, hc, by omega, ?_⟩
    walk_at "w"
    refine ⟨by rw [enumD_len]; exact Nat.le_trans (show r.length ≤ 60 by omega) (by decide), ?_⟩
    rcases h4 with rfl | ⟨d4, rfl⟩ <;> rcases h5 with rfl | ⟨d5, rfl⟩
    all_goals
      walk_at "w"
      refine cof_comp _ k _ _ _ r f.bd.gs 0 _ hg ?_
      walk_at "w"
      refine ⟨Nat.le_trans (show acc.length + (trp k 0 f.bd.gs).length ≤ 1000 by rw [trp_len]; omega) (by decide), ?_⟩
      walk_at "w"
      exact ih _ _ _ _ (by first | exact .inl rfl | exact .inr ⟨_, rfl⟩) (by first | exact .inl rfl | exact .inr ⟨_, rfl⟩)
def sp_calls_of : FSpecO := fun cs Q => ∃ (nd : List (Str × Str)) (cn : List Nat) (d : D) (fs : List Fm), cs = [.val (.tup [d, .tup ((fnL fs).map fD)])] ∧ (∀ f ∈ fs, Cinf nd cn f) ∧ fs.length ≤ 4 ∧ Q (.lst (trps 0 fs)) [.none]
set_option maxHeartbeats 8000000 in
theorem ok_calls_of (T : Txt K w mg) : K_calls_of P w base T 9 sp_calls_of :=
  okO T.F_calls_of sc_calls_of fun cdv A outer s H E B cs Q hr hl hs => ⟨_, d_calls_of T (ok_calls_in T 6) (by decide) hr, by
    obtain ⟨nd, cn, d, fs, rfl, hf, hl4, hq⟩ := hs
    walk_at "w"
    refine ⟨by decide, ?_⟩
    walk_at "w"
    refine ⟨_, atI_nat (j := 1) rfl, ?_⟩
    walk_at "w"
    refine cof_loop nd cn _ _ fs 0 [] _ _ _ _ hf (by rw [List.length_nil]; omega) (.inl rfl) (.inl rfl) fun c2 c3 c4 c5 => ?_
    walk_at "w"
    exact ⟨[.none], rfl, ⟨trivial, outs_nil⟩, hq⟩⟩
/-! ### the law's own look -/
def boL (n : Nat) (bs : List Bo) : Prop := ∀ b ∈ bs, ∃ nd cn S own t, Bo.Ok nd cn S n own t b
def sp_l_called : FSpec := fun cs Q => ∃ (nd : List (Str × Str)) (cn : List Nat) (S n own t : Nat) (b : Bo), cs = [.val b.toD] ∧ Bo.Ok nd cn S n own t b ∧ b.sz ≤ 60 ∧ Q (.lst (b.gs.map fun g => .int (g : Nat))) [.none]
set_option maxHeartbeats 16000000 in
theorem ok_l_called (T : Txt K w mg) : K_l_called P w base T 1 sp_l_called :=
  okD T.F_l_called sc_l_called fun cdv A outer s H E B cs Q hr hl hs => ⟨_, d_l_called T hr, by
    obtain ⟨nd, cn, S, n, own, t, b0, rfl, hok, hz, hq⟩ := hs
    walk_at "w"
    refine ⟨by decide, ?_⟩
    walk_at "w"
    refine ⟨by show 1 ≤ sizeLine; decide, ?_⟩
    walk_at "w"
    refine ⟨fun m env => ∃ (fd : List Nat) (bs : List Bo) (c3 : Cell), m = Bo.szs bs ∧ env = [.val b0.toD, .own true (.lst (fd.map fun g => .int (g : Nat))), .own true (.lst (bs.map Bo.toD)), c3] ∧ fd ++ Bo.gss bs = b0.gs ∧ Bo.szs bs ≤ 60 ∧ (∀ b ∈ bs, ∃ nd cn S n own t, Bo.Ok nd cn S n own t b),
      ⟨_, [], [b0], _, rfl, rfl, by show b0.gs ++ [] = _; rw [List.append_nil], by show b0.sz + 0 ≤ 60; omega, fun b m => ⟨nd, cn, S, n, own, t, by rw [List.mem_singleton.mp m]; exact hok⟩⟩, ?_⟩
    rintro m env ⟨fd, bs, c3, rfl, rfl, he, hs, hb⟩
    have fl : fd.length ≤ 60 := by
      have := congrArg List.length he
      rw [List.length_append] at this
      have := Bo.gs_sz b0
      omega
    cases bs with
    | nil =>
      walk_at "w"
      refine ⟨by decide, ?_⟩
      walk_at "w"
      have e : fd = b0.gs := by rw [← he]; show fd = fd ++ []; rw [List.append_nil]
      rw [e]
      exact ⟨[.none], rfl, ⟨trivial, outs_nil⟩, hq⟩
    | cons b rs =>
      obtain ⟨nd', cn', S', n', own', t', ho⟩ := hb b List.mem_cons_self
      have hr2 : ∀ b ∈ rs, ∃ nd cn S n own t, Bo.Ok nd cn S n own t b := fun b m => hb b (List.mem_cons_of_mem _ m)
      have hs : b.sz + Bo.szs rs ≤ 60 := hs
      have he : fd ++ (b.gs ++ Bo.gss rs) = b0.gs := he
      have lr := Bo.len_szs rs
      -- on with other bodies in its place
      have on : ∀ (xs : List Bo) (c3 : Cell), Bo.gss xs = b.gs → Bo.szs xs < b.sz → (∀ x ∈ xs, ∃ nd cn S n own t, Bo.Ok nd cn S n own t x) →
          ∃ m', m' < b.sz + Bo.szs rs ∧ ∃ (fd2 : List Nat) (bs : List Bo) (c4 : Cell), m' = Bo.szs bs ∧ [Cell.val b0.toD, .own true (.lst (fd.map fun g => .int (g : Nat))), .own true (.lst (xs.map Bo.toD ++ rs.map Bo.toD)), c3] = [.val b0.toD, .own true (.lst (fd2.map fun g => .int (g : Nat))), .own true (.lst (bs.map Bo.toD)), c4] ∧ fd2 ++ Bo.gss bs = b0.gs ∧ Bo.szs bs ≤ 60 ∧ (∀ b ∈ bs, ∃ nd cn S n own t, Bo.Ok nd cn S n own t b) := fun xs c3 h1 h2 h3 =>
        ⟨Bo.szs xs + Bo.szs rs, by omega, fd, xs ++ rs, c3, (Bo.szs_append _ _).symm, by rw [List.map_append], by rw [Bo.gss_append, h1]; exact he, by rw [Bo.szs_append]; omega, fun x m => by
          rcases List.mem_append.mp m with m | m
          · exact h3 x m
          · exact hr2 x m⟩
      have lx : ∀ (xs : List Bo), Bo.szs xs < b.sz → (xs.map Bo.toD).length + (rs.map Bo.toD).length ≤ sizeLine := fun xs h => by
        rw [List.length_map, List.length_map]
        have := Bo.len_szs xs
        exact Nat.le_trans (show xs.length + rs.length ≤ 60 by omega) (by decide)
      have skip_ : b.gs = [] → ∀ c3 : Cell, ∃ m', m' < b.sz + Bo.szs rs ∧ ∃ (fd2 : List Nat) (bs : List Bo) (c4 : Cell), m' = Bo.szs bs ∧ [Cell.val b0.toD, .own true (.lst (fd.map fun g => .int (g : Nat))), .own true (.lst (rs.map Bo.toD)), c3] = [.val b0.toD, .own true (.lst (fd2.map fun g => .int (g : Nat))), .own true (.lst (bs.map Bo.toD)), c4] ∧ fd2 ++ Bo.gss bs = b0.gs ∧ Bo.szs bs ≤ 60 ∧ (∀ b ∈ bs, ∃ nd cn S n own t, Bo.Ok nd cn S n own t b) := fun e c3 =>
        ⟨Bo.szs rs, by have := Bo.sz_pos b; omega, fd, rs, c3, rfl, rfl, by rw [e, List.nil_append] at he; exact he, by omega, hr2⟩
      cases ho with
      | none =>
        walk_at "w"
        walk_at "aj"
        exact skip_ rfl _
      | @gain n' own' t' s h =>
        walk_at "w"
        walk_at "aj"
        exact skip_ rfl _
      | @call n' own' t' g as hg h =>
        walk_at "w"
        walk_at "aj"
        refine ⟨.int (g : Nat), atI_nat (j := 1) rfl, ?_⟩
        walk_at "w"
        refine ⟨Nat.lt_of_lt_of_le (show (fd.map fun g => D.int (g : Nat)).length < 61 by rw [List.length_map]; omega) (by decide), ?_⟩
        walk_at "w"
        have he : fd ++ ([g] ++ Bo.gss rs) = b0.gs := he
        refine ⟨Bo.szs rs, by have := Bo.sz_pos (.call g as); show Bo.szs rs < (Bo.call g as).sz + Bo.szs rs; omega, fd ++ [g], rs, _, rfl, by rw [List.map_append]; rfl, by rw [List.append_assoc]; exact he, by omega, hr2⟩
      | @choose n' own' t' bs h1 h4 h =>
        have e1 : Bo.szs bs < (Bo.choose bs).sz := by show _ < 1 + Bo.szs bs; omega
        walk_at "w"
        walk_at "aj"
        refine ⟨.tup (Bo.toDs bs), atI_nat (j := 1) rfl, ?_⟩
        rw [Bo.toDs_eq]
        walk_at "w"
        refine ⟨lx bs e1, ?_⟩
        walk_at "w"
        exact on bs _ rfl e1 fun x m => ⟨_, _, _, _, _, _, h x m⟩
      | @turn n' own' t' w lo hi b hw ht hlo hhi hb2 =>
        rcases hw with rfl | rfl
        all_goals
          walk_at "w"
          walk_at "aj"
          refine ⟨.int 3, rfl, ?_⟩
          walk_at "w"
          refine ⟨lx [b] (by show b.sz + 0 < 1 + lo.sz + hi.sz + b.sz; omega), ?_⟩
          walk_at "w"
          exact on [b] _ (by show b.gs ++ [] = b.gs; rw [List.append_nil]) (by show b.sz + 0 < 1 + lo.sz + hi.sz + b.sz; omega) fun x m => by obtain rfl := List.mem_singleton.mp m; exact ⟨_, _, _, _, _, _, hb2⟩
      | @both n' own' t' x y hx hy =>
        walk_at "w"
        walk_at "aj"
        refine ⟨.int 1, rfl, ?_⟩
        walk_at "w"
        walk_at "aj"
        refine ⟨lx [x, y] (by show x.sz + (y.sz + 0) < 1 + x.sz + y.sz; omega), ?_⟩
        walk_at "w"
        refine on [x, y] _ (by show x.gs ++ (y.gs ++ []) = x.gs ++ y.gs; rw [List.append_nil]) (by show x.sz + (y.sz + 0) < 1 + x.sz + y.sz; omega) fun z m => ?_
        rcases List.mem_cons.mp m with e | m
        · rw [e]; exact ⟨_, _, _, _, _, _, hx⟩
        · rw [List.mem_singleton.mp m]; exact ⟨_, _, _, _, _, _, hy⟩
      | @ite n' own' t' c x y hc hx hy =>
        walk_at "w"
        walk_at "aj"
        refine ⟨.int 2, rfl, ?_⟩
        walk_at "w"
        walk_at "aj"
        refine ⟨lx [x, y] (by show x.sz + (y.sz + 0) < 1 + c.sz + x.sz + y.sz; omega), ?_⟩
        walk_at "w"
        refine on [x, y] _ (by show x.gs ++ (y.gs ++ []) = x.gs ++ y.gs; rw [List.append_nil]) (by show x.sz + (y.sz + 0) < 1 + c.sz + x.sz + y.sz; omega) fun z m => ?_
        rcases List.mem_cons.mp m with e | m
        · rw [e]; exact ⟨_, _, _, _, _, _, hx⟩
        · rw [List.mem_singleton.mp m]; exact ⟨_, _, _, _, _, _, hy⟩⟩
/-! ### lists of whole numbers' triples -/
def T3 (d : D) : Prop := ∃ a b c : Nat, d = .tup [.int a, .int b, .int c]
theorem layL {n : Nat} {ds : List D} (h : ∀ d ∈ ds, LayD n d) : LayD (n + 1) (.lst ds) := by
  obtain ⟨h0, h1, h2⟩ := layA h
  refine ⟨by rw [D.pl]; exact h0, by rw [D.py, PyData.canLay0]; exact h1, ?_⟩
  rw [D.py, PyData.depth]; omega
theorem T3.lay {d : D} (h : T3 d) : LayD 58 d := by
  obtain ⟨a, b, c, rfl⟩ := h
  exact lay3 (n := 57) (layI _) (layI _) (layI _)
theorem t3_cl : ∀ {xs : List D}, (∀ x ∈ xs, T3 x) → D.cls xs = true
  | [], _ => rfl
  | x :: r, h => by
    obtain ⟨a, b, c, rfl⟩ := h _ List.mem_cons_self
    rw [D.cls, t3_cl fun x m => h x (List.mem_cons_of_mem _ m)]; rfl
theorem t3_eqv {xs : List D} (h : ∀ x ∈ xs, T3 x) : PyData.eqv (D.lst xs).py (D.lst xs).py = true := by
  have c : (D.lst xs).cl = true := by rw [D.cl]; exact t3_cl h
  exact (eqv_iff _ _ c c).mpr rfl
def sp_l_is_list : FSpec := fun cs Q => ∃ xs : List D, cs = [.val (.lst xs), .val (.lst xs)] ∧ (∀ x ∈ xs, T3 x) ∧ Q (.bl true) [.none, .none]
set_option maxHeartbeats 8000000 in
theorem isl_loop (c0 c1 : Cell) (DD : DEnds) (h : ∀ c2 c3, DD.nx [c0, c1, c2, c3]) : ∀ (xs : List D) (c2 c3 : Cell), (∀ x ∈ xs, T3 x) → (c3 = .none ∨ ∃ d, c3 = .val d) →
    forL (fun d DD env => gN 2 d env fun env2 => t_l_is_list_3 DD env2) xs DD [c0, c1, c2, c3]
  | [], c2, c3, hx, h3 => by
    walk_at "fn"
    exact h c2 c3
  | x :: xs, c2, c3, hx, h3 => by
    have ih := fun c2 c3 h3 => isl_loop c0 c1 DD h xs c2 c3 (fun x m => hx x (List.mem_cons_of_mem _ m)) h3
    obtain ⟨a, b, c, rfl⟩ := hx _ List.mem_cons_self
    rcases h3 with rfl | ⟨d3, rfl⟩
    all_goals
      walk_at "fc"
      walk_at "aj"
      walk_at "mc"
      walk_at "aj"
      walk_at "mc"
      walk_at "aj"
      walk_at "mc"
      walk_at "aj"
      walk_at "mn"
      walk_at "aj"
      exact ih _ _ (by first | exact .inl rfl | exact .inr ⟨_, rfl⟩)
set_option maxHeartbeats 8000000 in
theorem ok_l_is_list (T : Txt K w mg) : K_l_is_list P w base T 1 sp_l_is_list :=
  okD T.F_l_is_list sc_l_is_list fun cdv A outer s H E B cs Q hr hl hs => ⟨_, d_l_is_list T hr, by
    obtain ⟨xs, rfl, hx, hq⟩ := hs
    walk_at "w"
    refine ⟨rfl, ?_⟩
    walk_at "w"
    refine ⟨rfl, ?_⟩
    walk_at "w"
    refine ⟨deep_of ((layL fun x m => (hx x m).lay).up (by decide)) ((layL fun x m => (hx x m).lay).up (by decide)), ?_⟩
    rw [t3_eqv hx]
    walk_at "w"
    refine isl_loop _ _ _ (fun c2 c3 => ?_) xs _ _ hx (.inl rfl)
    walk_at "w"
    exact ⟨[.none, .none], rfl, ⟨trivial, trivial, outs_nil⟩, hq⟩⟩
theorem trp_t3 (f : Nat) : ∀ (gs : List Nat) (n : Nat), ∀ x ∈ trp f n gs, T3 x
  | [], _, x, m => by cases m
  | g :: gs, n, x, m => by
    rcases List.mem_cons.mp m with e | m
    · exact ⟨f, n, g, e⟩
    · exact trp_t3 f gs _ x m
theorem trps_t3 : ∀ (fs : List Fm) (k : Nat), ∀ x ∈ trps k fs, T3 x
  | [], _, x, m => by cases m
  | f :: fs, k, x, m => by
    rcases List.mem_append.mp m with m | m
    · exact trp_t3 k _ _ x m
    · exact trps_t3 fs _ x m
/-! ### the law -/
section
variable (s1 : FSpecO) (s2 s3 : FSpec) (s4 : FSpecO) (s5 : FSpec)
set_option maxHeartbeats 4000000 in
theorem law_gs (f : Nat) (DD : DEnds) (c0 c1 c2 c4 c5 c6 c7 c9 : Cell) : ∀ (gs : List Nat) (n : Nat) (acc : List D) (c10 c11 : Cell), acc.length + gs.length ≤ 1000 → Vn c10 → Vn c11 → (∀ c10 c11, Vn c10 → Vn c11 → DD.nx [c0, c1, c2, .own true (.lst (acc ++ trp f n gs)), c4, c5, c6, c7, .val (.int (f : Nat)), c9, c10, c11]) →
    forL (fun d DD env => gTupD 2 (gConsD (gN 10) (gConsD (gN 11) gNilD)) d env fun env2 => t_law_1 s1 s2 s3 s4 s5 DD env2) (enumD n (gs.map fun g => .int (g : Nat))) DD [c0, c1, c2, .own true (.lst acc), c4, c5, c6, c7, .val (.int (f : Nat)), c9, c10, c11]
  | [], n, acc, c10, c11, hl, v10, v11, h => by
    walk_at "fn"
    have := h c10 c11 v10 v11
    rw [trp, List.append_nil] at this
    exact this
  | g :: gs, n, acc, c10, c11, hl, v10, v11, h => by
    rw [List.length_cons] at hl
    walk_at "fc"
    refine ⟨rfl, ?_⟩
    walk_at "w"
    refine ⟨rfl, ?_⟩
    walk_at "w"
    refine ⟨by show 3 ≤ sizeLine; decide, ?_⟩
    walk_at "w"
    refine ⟨Nat.lt_of_lt_of_le (show acc.length < 1001 by omega) (by decide), ?_⟩
    walk_at "w"
    refine law_gs f DD c0 c1 c2 c4 c5 c6 c7 c9 gs (n + 1) _ _ _ (by rw [List.length_append, List.length_singleton]; omega) (.inr ⟨_, rfl⟩) (.inr ⟨_, rfl⟩) fun c10 c11 v10 v11 => ?_
    rw [List.append_assoc]
    exact h c10 c11 v10 v11
set_option maxHeartbeats 8000000 in
theorem law_fs (nd : List (Str × Str)) (cn : List Nat) (DD : DEnds) (c0 c1 c2 c4 c5 c6 c7 : Cell) : ∀ (fs : List Fm) (k : Nat) (acc : List D) (c8 c9 c10 c11 : Cell), (∀ f ∈ fs, Cinf nd cn f) → acc.length + 60 * fs.length ≤ 1000 → Vn c8 → Vn c9 → Vn c10 → Vn c11 →
    (∀ c8 c9 c10 c11, Vn c8 → Vn c9 → Vn c10 → Vn c11 → DD.nx [c0, c1, c2, .own true (.lst (acc ++ trps k fs)), c4, c5, c6, c7, c8, c9, c10, c11]) →
    forL (fun d DD env => gTupD 2 (gConsD (gN 8) (gConsD (gN 9) gNilD)) d env fun env2 => t_law_2 s1 s2 sp_l_called s4 s5 DD env2) (enumD k ((fnL fs).map fD)) DD [c0, c1, c2, .own true (.lst acc), c4, c5, c6, c7, c8, c9, c10, c11]
  | [], k, acc, c8, c9, c10, c11, hf, hl, v8, v9, v10, v11, h => by
    walk_at "fn"
    have := h c8 c9 c10 c11 v8 v9 v10 v11
    rw [trps, List.append_nil] at this
    exact this
  | f :: fs, k, acc, c8, c9, c10, c11, hf, hl, v8, v9, v10, v11, h => by
    obtain ⟨ho, hz⟩ := hf f List.mem_cons_self
    have gz := Bo.gs_sz f.bd
    rw [List.length_cons] at hl
    walk_at "fc"
    refine ⟨rfl, ?_⟩
    walk_at "w"
    refine ⟨rfl, ?_⟩
    walk_at "w"
    refine ⟨_, atI_nat (j := 2) rfl, ?_⟩
    walk_at "w"
    refine ⟨_, _, _, _, _, _, f.bd, rfl, ho, hz, ?_⟩
    walk_at "w"
    refine law_gs s1 s2 _ s4 s5 k _ _ _ _ _ _ _ _ _ f.bd.gs 0 acc _ _ (by omega) v10 v11 fun c10 c11 v10 v11 => ?_
    refine law_fs nd cn DD c0 c1 c2 c4 c5 c6 c7 fs (k + 1) _ _ _ _ _ (fun f m => hf f (List.mem_cons_of_mem _ m)) (by rw [List.length_append, trp_len]; omega) (.inr ⟨_, rfl⟩) (.inr ⟨_, rfl⟩) v10 v11 fun c8 c9 c10 c11 v8 v9 v10 v11 => ?_
    rw [List.append_assoc]
    exact h c8 c9 c10 c11 v8 v9 v10 v11
end
theorem Pg.cinf {nd : List (Str × Str)} {g : Giv} {fs : List Fm} {li : List (List Int)} (h : Pg nd g fs li) : ∀ f ∈ fs, Cinf nd (cnF fs) f := fun f m => ⟨h.bo f m, (h.sz f m).1⟩
set_option maxHeartbeats 8000000 in
theorem law_iter (ns : List Int) (DD : DEnds) (k : Nat) (hk : k < 1000) (c2 c3 c4 c5 c6 c7 c8 c9 c10 c11 : Cell) (v8 : Vn c8) (v9 : Vn c9) (v10 : Vn c10) (v11 : Vn c11) (h : ∀ c2 c3 c4 c5 c6 c7 c8 c9 c10 c11, Vn c8 → Vn c9 → Vn c10 → Vn c11 → DD.nx [.val (.scr (ns.map D.int)), .val (.int (k : Nat)), c2, c3, c4, c5, c6, c7, c8, c9, c10, c11]) :
    t_law_3 sp_l_pen sp_l_program sp_l_called sp_calls_of sp_l_is_list DD [.val (.scr (ns.map D.int)), .val (.int (k : Nat)), c2, c3, c4, c5, c6, c7, c8, c9, c10, c11] := by
  walk_at "w"
  refine ⟨ns, k, rfl, hk, fun pc hpc => ?_⟩
  walk_at "w"
  refine ⟨hpc, ?_⟩
  walk_at "w"
  refine ⟨rfl, fun nd g fs li hp => ?_⟩
  have hci := hp.cinf
  have hl4 := hp.l4
  have tl := trps_len (nd := nd) (cn := cnF fs) 0 hci
  have t3 := trps_t3 fs 0
  walk_at "w"
  refine ⟨rfl, ?_⟩
  walk_at "w"
  walk_at "aj"
  refine ⟨_, atI_nat (j := 1) rfl, ?_⟩
  walk_at "w"
  refine law_fs _ _ _ _ nd (cnF fs) _ _ _ _ _ _ _ _ fs 0 [] _ _ _ _ hci (by rw [List.length_nil]; omega) v8 v9 v10 v11 fun c8 c9 c10 c11 v8 v9 v10 v11 => ?_
  rw [List.nil_append]
  have hh := fun c2 c3 c4 c5 c6 c7 => h c2 c3 c4 c5 c6 c7 c8 c9 c10 c11 v8 v9 v10 v11
  clear h
  rcases v8 with rfl | ⟨d8, rfl⟩ <;> rcases v9 with rfl | ⟨d9, rfl⟩ <;> rcases v10 with rfl | ⟨d10, rfl⟩ <;> rcases v11 with rfl | ⟨d11, rfl⟩
  all_goals
    walk_at "w"
    refine ⟨nd, cnF fs, ndD nd, fs, rfl, hci, hl4, ?_⟩
    walk_at "w"
    refine ⟨_, rfl, t3, ?_⟩
    walk_at "w"
    refine ⟨by show 3 ≤ sizeLine; decide, ?_⟩
    walk_at "w"
    refine ⟨Nat.lt_of_lt_of_le (show (trps 0 fs).reverse.length < 1001 by rw [List.length_reverse]; omega) (by decide), ?_⟩
    walk_at "w"
    refine ⟨nd, cnF fs, ndD nd, fs, rfl, hci, hl4, ?_⟩
    walk_at "w"
    refine ⟨_, rfl, t3, ?_⟩
    walk_at "w"
    exact hh _ _ _ _ _ _
def sp_law : FSpec := fun cs Q => ∃ ns : List Int, cs = [.val (.scr (ns.map D.int))] ∧ Q (.bl true) [.none]
set_option maxHeartbeats 8000000 in
theorem ok_law (T : Txt K w mg) : K_law P w base T 40 sp_law :=
  okD T.F_law sc_law fun cdv A outer s H E B cs Q hr hl hs => ⟨_, d_law T (ok_l_pen T) (by decide) (ok_l_program T) (by decide) (ok_l_called T) (by decide) (ok_calls_of T) (by decide) (ok_l_is_list T) (by decide) hr, by
    obtain ⟨is, rfl, hq⟩ := hs
    walk_at "w"
    refine ⟨⟨by decide, by decide⟩, ?_⟩
    walk_at "fc"
    refine law_iter is _ 0 (by decide) _ _ _ _ _ _ _ _ _ _ (.inl rfl) (.inl rfl) (.inl rfl) (.inl rfl) fun c2 c3 c4 c5 c6 c7 c8 c9 c10 c11 v8 v9 v10 v11 => ?_
    walk_at "fc"
    refine law_iter is _ 1 (by decide) _ _ _ _ _ _ _ _ _ _ v8 v9 v10 v11 fun c2 c3 c4 c5 c6 c7 c8 c9 c10 c11 v8 v9 v10 v11 => ?_
    walk_at "fc"
    refine law_iter is _ 2 (by decide) _ _ _ _ _ _ _ _ _ _ v8 v9 v10 v11 fun c2 c3 c4 c5 c6 c7 c8 c9 c10 c11 v8 v9 v10 v11 => ?_
    walk_at "fc"
    refine law_iter is _ 3 (by decide) _ _ _ _ _ _ _ _ _ _ v8 v9 v10 v11 fun c2 c3 c4 c5 c6 c7 c8 c9 c10 c11 v8 v9 v10 v11 => ?_
    walk_at "fn"
    exact ⟨[.none], rfl, ⟨trivial, outs_nil⟩, hq⟩⟩
abbrev LV := 40
theorem law_asks (ns : List Int) (hl : ns.length ≤ 63) : sp_law [.val (.scr (ns.map D.int))] (fun d _ => d = .bl true) := ⟨ns, rfl, rfl⟩
end
end Y

open PySem PySem.W PyProof.Rows
set_option maxRecDepth 100000 in
set_option maxHeartbeats 0 in
theorem PySem.Challenge.cw_roomtables_k30_calls_of_programs_holds : PySem.Challenge.rw_roomtables_k30_calls_of_programs.Holds := by
  w_on; o_law; k_head; (case hw => w_witness2)
  k_fill
  refine L2.walk_of (l := PySem.Challenge.rw_roomtables_k30_calls_of_programs) (n := 63) (k := Y.LV) (x := "_law_script") (CX := fun _ => L2.CX0) (sp := fun w => L2.DL.spD _ 1 Y.sp_law) rfl (by decide) rfl ⟨rfl, by decide, by decide⟩ (fun w h Y => PySem.W.kIn_of Y) ?F (fun _ H a ns hl _ hS => L2.DL.law_start hS (Y.law_asks ns hl)) (fun _ _ _ _ _ h => h)
  case F =>
    intro w mg fa h KX G hmg
    obtain ⟨T, hl, hb⟩ : ∃ T : Y.Txt _ w mg, mg "law" = some (.ref T.f_law) ∧ ∀ (s : Shared) (v : Value), BindsTo s T.d_law ⟨[v], []⟩ [("_law_script", v)] := by
      refine' Y.txt_mk KX G ?a0 ?l0 ?c0 ?k0 ?a1 ?l1 ?c1 ?k1 ?a2 ?l2 ?c2 ?k2 ?a3 ?l3 ?c3 ?k3 ?a4 ?l4 ?c4 ?k4 ?a5 ?l5 ?c5 ?k5 ?a6 ?l6 ?c6 ?k6 ?a7 ?l7 ?c7 ?k7 ?a8 ?l8 ?c8 ?k8 ?a9 ?l9 ?c9 ?k9 ?a10 ?l10 ?c10 ?k10 ?a11 ?l11 ?c11 ?k11 ?a12 ?l12 ?c12 ?k12 ?a13 ?l13 ?c13 ?k13 ?a14 ?l14 ?c14 ?k14 ?a15 ?l15 ?c15 ?k15 ?a16 ?l16 ?c16 ?k16 ?a17 ?l17 ?c17 ?k17 ?a18 ?l18 ?c18 ?k18 ?a19 ?l19 ?c19 ?k19 ?a20 ?l20 ?c20 ?k20 ?a21 ?l21 ?c21 ?k21 ?a22 ?l22 ?c22 ?k22 ?a23 ?l23 ?c23 ?k23 ?a24 ?l24 ?c24 ?k24 ?a25 ?l25 ?c25 ?k25 ?a26 ?l26 ?c26 ?k26 ?a27 ?l27 ?c27 ?k27 ?a28 ?l28 ?c28 ?k28 ?a29 ?l29 ?c29 ?k29 ?a30 ?l30 ?c30 ?k30 ?a31 ?l31 ?c31 ?k31 ?a32 ?l32 ?c32 ?k32 ?a33 ?l33 ?c33 ?k33 ?a34 ?l34 ?c34 ?k34 ?a35 ?l35 ?c35 ?k35 ?a36 ?l36 ?c36 ?k36 ?a37 ?l37 ?c37 ?k37 ?a38 ?l38 ?c38 ?k38 ?a39 ?l39 ?c39 ?k39 ?a40 ?l40 ?c40 ?k40 ?a41 ?l41 ?c41 ?k41 ?a42 ?l42 ?c42 ?k42 ?a43 ?l43 ?c43 ?k43 ?a44 ?l44 ?c44 ?k44 ?a45 ?l45 ?c45 ?k45 ?a46 ?l46 ?c46 ?k46 ?a47 ?l47 ?c47 ?k47 ?a48 ?l48 ?c48 ?k48 ?m_OF_SUMS ?n_OF_SUMS ?m_WORDS ?n_WORDS ?m_LETTERS ?m_MOST_NEEDS ?m_NEED_KINDS ?n_NEED_KINDS ?m_MOST_CHOICES ?m_MOST_TURNS ?m_MOST_PLACES ?m_MOST_MOST ?m_MOST_FUNCTIONS ?m_MOST_PARTS ?m_MOST_DEEP ?m_MOST_SIZE ?m_KINDS ?l_KINDS ?lit_KINDS ?low_KINDS ?k_KINDS0 ?kl_KINDS0 ?k_KINDS1 ?kl_KINDS1 ?k_KINDS2 ?kl_KINDS2 ?k_KINDS3 ?kl_KINDS3 ?m_FORMS ?l_FORMS ?lit_FORMS ?low_FORMS ?k_FORMS0 ?k_FORMS1 ?k_FORMS2 ?k_FORMS3 ?k_FORMS4 ?k_FORMS5 ?k_FORMS6 ?k_FORMS7 ?k_FORMS8 ?k_FORMS9 ?k_FORMS10 ?k_FORMS11 ?k_FORMS12 ?k_FORMS13 ?k_FORMS14 ?k_FORMS15 ?k_FORMS16 ?k_FORMS17 ?o_FORMS0 ?m_OF_CONDS ?l_OF_CONDS ?lit_OF_CONDS ?low_OF_CONDS ?k_OF_CONDS0 ?k_OF_CONDS1 ?k_OF_CONDS2 ?o_OF_CONDS0 ?o_OF_CONDS1 ?o_OF_CONDS2 ?z_isinstance ?z_int ?z_bool ?z_tuple ?z_len ?z_str ?z_all ?z_zip ?z_list ?z_enumerate ?z_set ?z_sum ?z_max ?z_dict ?z_range
      (case a0 => k_is)
      (case l0 => k_is)
      (case c0 => k_is)
      (case k0 => k_is)
      (case a1 => k_is)
      (case l1 => k_is)
      (case c1 => k_is)
      (case k1 => k_is)
      (case a2 => k_is)
      (case l2 => k_is)
      (case c2 => k_is)
      (case k2 => k_is)
      (case a3 => k_is)
      (case l3 => k_is)
      (case c3 => k_is)
      (case k3 => k_is)
      (case a4 => k_is)
      (case l4 => k_is)
      (case c4 => k_is)
      (case k4 => k_is)
      (case a5 => k_is)
      (case l5 => k_is)
      (case c5 => k_is)
      (case k5 => k_is)
      (case a6 => k_is)
      (case l6 => k_is)
      (case c6 => k_is)
      (case k6 => k_is)
      (case a7 => k_is)
      (case l7 => k_is)
      (case c7 => k_is)
      (case k7 => k_is)
      (case a8 => k_is)
      (case l8 => k_is)
      (case c8 => k_is)
      (case k8 => k_is)
      (case a9 => k_is)
      (case l9 => k_is)
      (case c9 => k_is)
      (case k9 => k_is)
      (case a10 => k_is)
      (case l10 => k_is)
      (case c10 => k_is)
      (case k10 => k_is)
      (case a11 => k_is)
      (case l11 => k_is)
      (case c11 => k_is)
      (case k11 => k_is)
      (case a12 => k_is)
      (case l12 => k_is)
      (case c12 => k_is)
      (case k12 => k_is)
      (case a13 => k_is)
      (case l13 => k_is)
      (case c13 => k_is)
      (case k13 => k_is)
      (case a14 => k_is)
      (case l14 => k_is)
      (case c14 => k_is)
      (case k14 => k_is)
      (case a15 => k_is)
      (case l15 => k_is)
      (case c15 => k_is)
      (case k15 => k_is)
      (case a16 => k_is)
      (case l16 => k_is)
      (case c16 => k_is)
      (case k16 => k_is)
      (case a17 => k_is)
      (case l17 => k_is)
      (case c17 => k_is)
      (case k17 => k_is)
      (case a18 => k_is)
      (case l18 => k_is)
      (case c18 => k_is)
      (case k18 => k_is)
      (case a19 => k_is)
      (case l19 => k_is)
      (case c19 => k_is)
      (case k19 => k_is)
      (case a20 => k_is)
      (case l20 => k_is)
      (case c20 => k_is)
      (case k20 => k_is)
      (case a21 => k_is)
      (case l21 => k_is)
      (case c21 => k_is)
      (case k21 => k_is)
      (case a22 => k_is)
      (case l22 => k_is)
      (case c22 => k_is)
      (case k22 => k_is)
      (case a23 => k_is)
      (case l23 => k_is)
      (case c23 => k_is)
      (case k23 => k_is)
      (case a24 => k_is)
      (case l24 => k_is)
      (case c24 => k_is)
      (case k24 => k_is)
      (case a25 => k_is)
      (case l25 => k_is)
      (case c25 => k_is)
      (case k25 => k_is)
      (case a26 => k_is)
      (case l26 => k_is)
      (case c26 => k_is)
      (case k26 => k_is)
      (case a27 => k_is)
      (case l27 => k_is)
      (case c27 => k_is)
      (case k27 => k_is)
      (case a28 => k_is)
      (case l28 => k_is)
      (case c28 => k_is)
      (case k28 => k_is)
      (case a29 => k_is)
      (case l29 => k_is)
      (case c29 => k_is)
      (case k29 => k_is)
      (case a30 => k_is)
      (case l30 => k_is)
      (case c30 => k_is)
      (case k30 => k_is)
      (case a31 => k_is)
      (case l31 => k_is)
      (case c31 => k_is)
      (case k31 => k_is)
      (case a32 => k_is)
      (case l32 => k_is)
      (case c32 => k_is)
      (case k32 => k_is)
      (case a33 => k_is)
      (case l33 => k_is)
      (case c33 => k_is)
      (case k33 => k_is)
      (case a34 => k_is)
      (case l34 => k_is)
      (case c34 => k_is)
      (case k34 => k_is)
      (case a35 => k_is)
      (case l35 => k_is)
      (case c35 => k_is)
      (case k35 => k_is)
      (case a36 => k_is)
      (case l36 => k_is)
      (case c36 => k_is)
      (case k36 => k_is)
      (case a37 => k_is)
      (case l37 => k_is)
      (case c37 => k_is)
      (case k37 => k_is)
      (case a38 => k_is)
      (case l38 => k_is)
      (case c38 => k_is)
      (case k38 => k_is)
      (case a39 => k_is)
      (case l39 => k_is)
      (case c39 => k_is)
      (case k39 => k_is)
      (case a40 => k_is)
      (case l40 => k_is)
      (case c40 => k_is)
      (case k40 => k_is)
      (case a41 => k_is)
      (case l41 => k_is)
      (case c41 => k_is)
      (case k41 => k_is)
      (case a42 => k_is)
      (case l42 => k_is)
      (case c42 => k_is)
      (case k42 => k_is)
      (case a43 => k_is)
      (case l43 => k_is)
      (case c43 => k_is)
      (case k43 => k_is)
      (case a44 => k_is)
      (case l44 => k_is)
      (case c44 => k_is)
      (case k44 => k_is)
      (case a45 => k_is)
      (case l45 => k_is)
      (case c45 => k_is)
      (case k45 => k_is)
      (case a46 => k_is)
      (case l46 => k_is)
      (case c46 => k_is)
      (case k46 => k_is)
      (case a47 => k_is)
      (case l47 => k_is)
      (case c47 => k_is)
      (case k47 => k_is)
      (case a48 => k_is)
      (case l48 => k_is)
      (case c48 => k_is)
      (case k48 => k_is)
      (case m_OF_SUMS => k_is)
      (case n_OF_SUMS => k_is)
      (case m_WORDS => k_is)
      (case n_WORDS => k_is)
      (case m_LETTERS => k_is)
      (case m_MOST_NEEDS => k_is)
      (case m_NEED_KINDS => k_is)
      (case n_NEED_KINDS => k_is)
      (case m_MOST_CHOICES => k_is)
      (case m_MOST_TURNS => k_is)
      (case m_MOST_PLACES => k_is)
      (case m_MOST_MOST => k_is)
      (case m_MOST_FUNCTIONS => k_is)
      (case m_MOST_PARTS => k_is)
      (case m_MOST_DEEP => k_is)
      (case m_MOST_SIZE => k_is)
      (case m_KINDS => k_is)
      (case l_KINDS => k_is)
      (case lit_KINDS => exact ⟨⟨_, _, rfl, rfl⟩, ⟨_, _, rfl, rfl⟩, ⟨_, _, rfl, rfl⟩, ⟨_, _, rfl, rfl⟩, trivial⟩)
      (case low_KINDS => rfl)
      (case k_KINDS0 => k_is)
      (case kl_KINDS0 => k_is)
      (case k_KINDS1 => k_is)
      (case kl_KINDS1 => k_is)
      (case k_KINDS2 => k_is)
      (case kl_KINDS2 => k_is)
      (case k_KINDS3 => k_is)
      (case kl_KINDS3 => k_is)
      (case m_FORMS => k_is)
      (case l_FORMS => k_is)
      (case lit_FORMS => exact ⟨⟨_, _, rfl, rfl⟩, ⟨_, _, rfl, rfl⟩, ⟨_, _, rfl, rfl⟩, ⟨_, _, rfl, rfl⟩, ⟨_, _, rfl, rfl⟩, ⟨_, _, rfl, rfl⟩, ⟨_, _, rfl, rfl⟩, ⟨_, _, rfl, rfl⟩, ⟨_, _, rfl, rfl⟩, ⟨_, _, rfl, rfl⟩, ⟨_, _, rfl, rfl⟩, ⟨_, _, rfl, rfl⟩, ⟨_, _, rfl, rfl⟩, ⟨_, _, rfl, rfl⟩, ⟨_, _, rfl, rfl⟩, ⟨_, _, rfl, rfl⟩, ⟨_, _, rfl, rfl⟩, ⟨_, _, rfl, rfl⟩, trivial⟩)
      (case low_FORMS => rfl)
      (case k_FORMS0 => k_is)
      (case k_FORMS1 => k_is)
      (case k_FORMS2 => k_is)
      (case k_FORMS3 => k_is)
      (case k_FORMS4 => k_is)
      (case k_FORMS5 => k_is)
      (case k_FORMS6 => k_is)
      (case k_FORMS7 => k_is)
      (case k_FORMS8 => k_is)
      (case k_FORMS9 => k_is)
      (case k_FORMS10 => k_is)
      (case k_FORMS11 => k_is)
      (case k_FORMS12 => k_is)
      (case k_FORMS13 => k_is)
      (case k_FORMS14 => k_is)
      (case k_FORMS15 => k_is)
      (case k_FORMS16 => k_is)
      (case k_FORMS17 => k_is)
      (case o_FORMS0 => k_is)
      (case m_OF_CONDS => k_is)
      (case l_OF_CONDS => k_is)
      (case lit_OF_CONDS => exact ⟨⟨_, _, rfl, rfl⟩, ⟨_, _, rfl, rfl⟩, ⟨_, _, rfl, rfl⟩, trivial⟩)
      (case low_OF_CONDS => rfl)
      (case k_OF_CONDS0 => k_is)
      (case k_OF_CONDS1 => k_is)
      (case k_OF_CONDS2 => k_is)
      (case o_OF_CONDS0 => k_is)
      (case o_OF_CONDS1 => k_is)
      (case o_OF_CONDS2 => k_is)
      (case z_isinstance => k_is)
      (case z_int => k_is)
      (case z_bool => k_is)
      (case z_tuple => k_is)
      (case z_len => k_is)
      (case z_str => k_is)
      (case z_all => k_is)
      (case z_zip => k_is)
      (case z_list => k_is)
      (case z_enumerate => k_is)
      (case z_set => k_is)
      (case z_sum => k_is)
      (case z_max => k_is)
      (case z_dict => k_is)
      (case z_range => k_is)
    have e := hmg.symm.trans hl
    cases e
    exact ⟨T.d_law, hb, fun base _ _ => Y.ok_law T⟩

