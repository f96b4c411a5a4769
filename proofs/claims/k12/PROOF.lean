import PyProof.Rows.All
import Wide.All
import OpenK.AllK
import Wide.FinOn
import HandS.ForMost
import HandS.IsInst
import HandS.TupAny
import HandS.Wide
import HandS.Flow
import HandS.TryOnly
import HandS.Codes
import PyProof.StrOps2
import HandS.Sort
import HandS.SortOrd
import PySem.Challenge.RW_roomtables_k12_either
set_option Elab.async false
set_option linter.all false
set_option autoImplicit false
set_option maxRecDepth 100000
namespace L2.DL
open PySem PySem.Spec PyProof.Rows

/-! ### data without addresses -/
inductive D where
  | non | bl (b : Bool) | int (i : Int) | str (x : Str) | atm (v : V)
  | tup (xs : List D) | lst (xs : List D) | dct (kvs : List (Key × D)) | scr (xs : List D)

mutual
inductive Rp (K : PySem.W.Frag) (F : Hp) : V → D → Prop
  | non : Rp K F .non .non
  | bl (b : Bool) : Rp K F (.bl b) (.bl b)
  | int (i : Int) : Rp K F (.int i) (.int i)
  | str (x : Str) : Rp K F (.str x) (.str x)
  | atm (v : V) : Rp K F v (.atm v)
  | tup {a : Addr} {vs : List V} {ds : List D} : SqT K F a vs → RpA K F vs ds → Rp K F (.ref a) (.tup ds)
  | lst {a : Addr} {vs : List V} {ds : List D} : F a = some (.lst vs) → RpA K F vs ds → Rp K F (.ref a) (.lst ds)
  | scr {a : Addr} {vs : List V} {ds : List D} : SqL K F a vs → RpA K F vs ds → Rp K F (.ref a) (.scr ds)
  | dct {a : Addr} {kvs : List (Key × V)} {ds : List (Key × D)} : F a = some (.dK kvs) → RpK K F kvs ds → Rp K F (.ref a) (.dct ds)
inductive RpA (K : PySem.W.Frag) (F : Hp) : List V → List D → Prop
  | nil : RpA K F [] []
  | cons {v : V} {d : D} {vs : List V} {ds : List D} : Rp K F v d → RpA K F vs ds → RpA K F (v :: vs) (d :: ds)
inductive RpK (K : PySem.W.Frag) (F : Hp) : List (Key × V) → List (Key × D) → Prop
  | nil : RpK K F [] []
  | cons {k : Key} {v : V} {d : D} {vs : List (Key × V)} {ds : List (Key × D)} : Rp K F v d → RpK K F vs ds → RpK K F ((k, v) :: vs) ((k, d) :: ds)
end

section
variable {K : PySem.W.Frag} {F F' H H' : Hp} {v : V} {d : D} {vs : List V} {ds : List D}
theorem same_rd {a : Addr} {u : HO} (s : Same F F') (h : Rd F a u) : Rd F' a u := by
  rcases h with h | ⟨o, h⟩
  · exact .inl (s _ _ h)
  · exact .inr ⟨o, s _ _ h⟩
theorem same_sqT {a : Addr} {xs : List V} (s : Same F F') (h : SqT K F a xs) : SqT K F' a xs := by
  rcases h with h | h
  · exact .inl (same_rd s h)
  · exact .inr h
theorem Rp.mono (s : Same F F') (h : Rp K F v d) : Rp K F' v d :=
  Rp.rec (motive_1 := fun v d _ => Rp K F' v d) (motive_2 := fun vs ds _ => RpA K F' vs ds) (motive_3 := fun vs ds _ => RpK K F' vs ds)
    .non .bl .int .str .atm (fun h _ ih => .tup (same_sqT s h) ih) (fun h _ ih => .lst (s _ _ h) ih) (fun h _ ih => .scr (s.seq h) ih) (fun h _ ih => .dct (s _ _ h) ih)
    .nil (fun _ _ i1 i2 => .cons i1 i2) .nil (fun _ _ i1 i2 => .cons i1 i2) h
theorem RpA.mono (s : Same F F') : ∀ {vs : List V} {ds : List D}, RpA K F vs ds → RpA K F' vs ds
  | _, _, .nil => .nil
  | _, _, .cons h t => .cons (h.mono s) (RpA.mono s t)
theorem RpK.mono (s : Same F F') : ∀ {vs : List (Key × V)} {ds : List (Key × D)}, RpK K F vs ds → RpK K F' vs ds
  | _, _, .nil => .nil
  | _, _, .cons h t => .cons (h.mono s) (RpK.mono s t)
theorem RpA.length : ∀ {vs : List V} {ds : List D}, RpA K F vs ds → vs.length = ds.length
  | _, _, .nil => rfl
  | _, _, .cons _ t => by rw [List.length_cons, List.length_cons, RpA.length t]
theorem RpK.length : ∀ {vs : List (Key × V)} {ds : List (Key × D)}, RpK K F vs ds → vs.length = ds.length
  | _, _, .nil => rfl
  | _, _, .cons _ t => by rw [List.length_cons, List.length_cons, RpK.length t]
theorem RpA.get : ∀ {vs : List V} {ds : List D} {i : Nat} {d : D}, RpA K F vs ds → ds[i]? = some d → ∃ v, vs[i]? = some v ∧ Rp K F v d
  | _, _, _, _, .nil, e => by simp at e
  | _, _, 0, _, .cons h _, e => by simp at e; subst e; exact ⟨_, rfl, h⟩
  | _, _, i + 1, d, .cons _ t, e => by
    obtain ⟨u, h1, h2⟩ := RpA.get (i := i) (d := d) t (by simpa using e)
    exact ⟨u, by simpa using h1, h2⟩
theorem RpA.append : ∀ {vs ws : List V} {ds es : List D}, RpA K F vs ds → RpA K F ws es → RpA K F (vs ++ ws) (ds ++ es)
  | _, _, _, _, .nil, s => s
  | _, _, _, _, .cons r t, s => .cons r (RpA.append t s)
theorem RpA.take : ∀ {vs : List V} {ds : List D} (n : Nat), RpA K F vs ds → RpA K F (vs.take n) (ds.take n)
  | _, _, 0, _ => .nil
  | _, _, _ + 1, .nil => .nil
  | _, _, n + 1, .cons r t => .cons r (RpA.take n t)
theorem RpA.drop : ∀ {vs : List V} {ds : List D} (n : Nat), RpA K F vs ds → RpA K F (vs.drop n) (ds.drop n)
  | _, _, 0, r => r
  | _, _, _ + 1, .nil => .nil
  | _, _, n + 1, .cons _ t => RpA.drop n t
theorem RpA.set (h : Rp K F v d) : ∀ {vs : List V} {ds : List D} (i : Nat), RpA K F vs ds → RpA K F (vs.set i v) (ds.set i d)
  | _, _, _, .nil => .nil
  | _, _, 0, .cons _ t => .cons h t
  | _, _, i + 1, .cons q t => .cons q (RpA.set h i t)
theorem RpA.one (h : Rp K F v d) : RpA K F [v] [d] := .cons h .nil
theorem RpA.ints : ∀ ns : List Int, RpA K F (ns.map V.int) (ns.map D.int)
  | [] => .nil
  | _ :: r => .cons (.int _) (RpA.ints r)
theorem RpA.of_ints : ∀ {ns : List Int} {vs : List V}, RpA K F vs (ns.map D.int) → vs = ns.map V.int
  | [], _, .nil => rfl
  | n :: r, _, .cons h t => by
    cases h
    rw [RpA.of_ints t]; rfl
theorem RpA.of_strs : ∀ {ns : List Str} {vs : List V}, RpA K F vs (ns.map D.str) → vs = ns.map V.str
  | [], _, .nil => rfl
  | n :: r, _, .cons h t => by
    cases h
    rw [RpA.of_strs t]; rfl
theorem RpA.of_bls : ∀ {ns : List Bool} {vs : List V}, RpA K F vs (ns.map D.bl) → vs = ns.map V.bl
  | [], _, .nil => rfl
  | n :: r, _, .cons h t => by
    cases h
    rw [RpA.of_bls t]; rfl
end

/-! ### what a name holds: nothing that we know; data that stays; a list or dict of one's own (fr: made in this call; else the caller's, handed in) -/
inductive OC where
  | lst (xs : List D) | dct (kvs : List (Key × D))
inductive Cell where
  | none | val (d : D) | own (fr : Bool) (c : OC) | opq (fr : Bool) (φ : OC → Prop)
abbrev DEnv := List Cell
@[simp] def Cell.isOwn : Cell → Bool
  | .own _ _ => true
  | .opq _ _ => true
  | _ => false
structure Bd where
  M : Addr → Prop
  H0 : Hp
  F0 : Hp
  par : List V
  P : Hp
def OcOk (K : PySem.W.Frag) (F H : Hp) (a : Addr) : OC → Prop
  | .lst xs => ∃ vs, H a = some (.lst vs) ∧ RpA K F vs xs
  | .dct kvs => ∃ ws, H a = some (.dK ws) ∧ RpK K F ws kvs
def OwnOk (K : PySem.W.Frag) (B : Bd) (F H : Hp) (o : Option (Option V)) (i : Nat) (fr : Bool) (c : OC) : Prop :=
  ∃ a, o = some (some (.ref a)) ∧ OcOk K F H a c ∧ F a = Option.none ∧ B.P a = Option.none ∧ (if fr = true then B.H0 a = Option.none else B.M a ∧ B.par[i]? = some (.ref a))
def CellOk (K : PySem.W.Frag) (B : Bd) (F H : Hp) (o : Option (Option V)) (i : Nat) : Cell → Prop
  | .none => True
  | .val d => ∃ v, o = some (some v) ∧ Rp K F v d
  | .own fr c => OwnOk K B F H o i fr c
  | .opq fr φ => ∃ c, φ c ∧ OwnOk K B F H o i fr c
structure Rep (K : PySem.W.Frag) (B : Bd) (F H : Hp) (σ : St) (env : DEnv) : Prop where
  len : env.length = σ.length
  sub : Same F H
  fix : ∀ b o, B.H0 b = some o → ¬ B.M b → H b = some o
  gro : Same B.F0 F
  new : ∀ b, B.F0 b = Option.none → F b ≠ Option.none → B.H0 b = Option.none
  mf : ∀ b, B.M b → F b = Option.none
  mh : ∀ b, B.M b → H b ≠ Option.none
  m0 : ∀ b, B.M b → B.H0 b ≠ Option.none
  pin : Same B.P H
  mp : ∀ b, B.M b → B.P b = Option.none
  pf : ∀ b o, B.P b = some o → F b = Option.none
  cells : ∀ (i : Nat) (c : Cell), env[i]? = some c → CellOk K B F H σ[i]? i c
  dis : ∀ (i j : Nat) (a : Addr) (c c' : Cell), env[i]? = some c → env[j]? = some c' → c.isOwn = true → c'.isOwn = true → σ[i]? = some (some (.ref a)) → σ[j]? = some (some (.ref a)) → i = j

section
variable {K : PySem.W.Frag} {B : Bd} {F F' H H' : Hp} {σ : St} {env : DEnv} {v : V} {d : D} {i : Nat} {c : Cell} {o : Option (Option V)}
theorem OcOk.mono {a : Addr} {c : OC} (s : Same F F') (e : H' a = H a) (h : OcOk K F H a c) : OcOk K F' H' a c := by
  cases c with
  | lst xs => obtain ⟨vs, h1, h2⟩ := h; exact ⟨vs, by rw [e]; exact h1, h2.mono s⟩
  | dct xs => obtain ⟨vs, h1, h2⟩ := h; exact ⟨vs, by rw [e]; exact h1, h2.mono s⟩
theorem OcOk.there {a : Addr} {c : OC} (h : OcOk K F H a c) : H a ≠ Option.none := by
  cases c with
  | lst xs => obtain ⟨vs, h1, _⟩ := h; rw [h1]; simp
  | dct xs => obtain ⟨vs, h1, _⟩ := h; rw [h1]; simp
theorem OwnOk.mono {fr : Bool} {c : OC} (s : Same F F') (e : ∀ a, o = some (some (.ref a)) → H a ≠ Option.none → F a = Option.none → H' a = H a ∧ F' a = Option.none) (h : OwnOk K B F H o i fr c) : OwnOk K B F' H' o i fr c := by
  obtain ⟨a, h1, h2, h3, h5, h4⟩ := h
  obtain ⟨e1, e2⟩ := e a h1 h2.there h3
  exact ⟨a, h1, h2.mono s e1, e2, h5, h4⟩
theorem CellOk.mono (s : Same F F') (e : c.isOwn = true → ∀ a, o = some (some (.ref a)) → H a ≠ Option.none → F a = Option.none → H' a = H a ∧ F' a = Option.none) (h : CellOk K B F H o i c) : CellOk K B F' H' o i c := by
  cases c with
  | none => trivial
  | val d => obtain ⟨v, h1, h2⟩ := h; exact ⟨v, h1, h2.mono s⟩
  | own fr c => exact OwnOk.mono s (e rfl) h
  | opq fr φ => obtain ⟨c, h1, h2⟩ := h; exact ⟨c, h1, h2.mono s (e rfl)⟩
theorem CellOk.own_addr (h : CellOk K B F H o i c) (w : c.isOwn = true) : ∃ a, o = some (some (.ref a)) ∧ F a = Option.none ∧ H a ≠ Option.none ∧ B.P a = Option.none ∧ (B.H0 a = Option.none ∨ B.M a) := by
  have key : ∀ {fr c}, OwnOk K B F H o i fr c → ∃ a, o = some (some (.ref a)) ∧ F a = Option.none ∧ H a ≠ Option.none ∧ B.P a = Option.none ∧ (B.H0 a = Option.none ∨ B.M a) := by
    rintro fr c ⟨a, h1, h2, h3, h5, h4⟩
    refine ⟨a, h1, h3, h2.there, h5, ?_⟩
    cases fr with
    | true => exact .inl (by simpa using h4)
    | false => exact .inr (by simpa using h4.1)
  cases c with
  | none => cases w
  | val d => cases w
  | own fr c => exact key h
  | opq fr φ => obtain ⟨c, _, h2⟩ := h; exact key h2
/-- new objects: H grows where it was empty, F with it or not -/
theorem Rep.grow (R : Rep K B F H σ env) (sF : Same F F') (sH : Same H H') (sub : Same F' H') (nw : ∀ b, F b = Option.none → F' b ≠ Option.none → H b = Option.none) : Rep K B F' H' σ env where
  len := R.len
  sub := sub
  fix := fun b o e m => sH _ _ (R.fix b o e m)
  gro := R.gro.trans sF
  new := fun b e n => by
    by_cases q : F b = Option.none
    · have h := nw b q n
      cases z : B.H0 b with
      | none => rfl
      | some o =>
        by_cases m : B.M b
        · exact absurd h (R.mh b m)
        · rw [R.fix b o z m] at h; cases h
    · exact R.new b e q
  mf := fun b m => by
    cases z : F' b with
    | none => rfl
    | some o =>
      have h := nw b (R.mf b m) (by rw [z]; simp)
      exact absurd h (R.mh b m)
  mh := fun b m => by
    cases z : H b with
    | none => exact absurd z (R.mh b m)
    | some o => rw [sH _ _ z]; simp
  m0 := R.m0
  pin := R.pin.trans sH
  mp := R.mp
  pf := fun b o e => by
    cases z : F' b with
    | none => rfl
    | some x =>
      have h := nw b (R.pf b o e) (by rw [z]; simp)
      rw [R.pin _ _ e] at h; cases h
  cells := fun i c e => (R.cells i c e).mono sF fun _ a _ n f => by
    constructor
    · cases z : H a with
      | none => exact absurd z n
      | some o => exact sH _ _ z
    · cases z : F' a with
      | none => rfl
      | some o => exact absurd (nw a f (by rw [z]; simp)) n
  dis := R.dis
theorem same_upd {p : Addr} {o : HO} (h : H p = Option.none) : Same H (upd H p o) := fun b x e => by
  rw [upd_ne (ne_of_none e h)]; exact e
theorem Rep.freeF (R : Rep K B F H σ env) {p : Addr} (h : H p = Option.none) : F p = Option.none := R.sub.free h
/-- a new object, kept for good -/
theorem Rep.alloc (R : Rep K B F H σ env) {p : Addr} {o : HO} (h : H p = Option.none) : Rep K B (upd F p o) (upd H p o) σ env := by
  refine R.grow (same_upd (R.freeF h)) (same_upd h) (fun b x e => ?_) (fun b e n => ?_)
  · by_cases q : b = p
    · subst q; rw [upd_same] at e ⊢; exact e
    · rw [upd_ne q] at e ⊢; exact R.sub _ _ e
  · by_cases q : b = p
    · subst q; exact h
    · rw [upd_ne q] at n; exact absurd e n
/-- a new object that is not kept -/
theorem Rep.junk (R : Rep K B F H σ env) {p : Addr} {o : HO} (h : H p = Option.none) : Rep K B F (upd H p o) σ env :=
  R.grow (Same.refl _) (same_upd h) (R.sub.trans (same_upd h)) fun b e n => absurd e n
/-- a name gets data -/
theorem Rep.set (R : Rep K B F H σ env) (h : Rp K F v d) (i : Nat) : Rep K B F H (σ.set i (some v)) (env.set i (.val d)) where
  len := by rw [List.length_set, List.length_set]; exact R.len
  sub := R.sub
  fix := R.fix
  gro := R.gro
  new := R.new
  mf := R.mf
  mh := R.mh
  m0 := R.m0
  pin := R.pin
  mp := R.mp
  pf := R.pf
  cells := fun j c e => by
    by_cases q : i = j
    · subst q
      have hl : i < env.length := by
        have := (List.getElem?_eq_some_iff.mp e).1
        rw [List.length_set] at this; exact this
      rw [List.getElem?_set_self hl] at e
      cases e
      exact ⟨v, by rw [List.getElem?_set_self (by rw [← R.len]; exact hl)], h⟩
    · rw [List.getElem?_set_ne q] at e ⊢
      exact R.cells j c e
  dis := fun j k a c c' e1 e2 w1 w2 s1 s2 => by
    by_cases q : i = j
    · subst q
      have hl : i < env.length := by
        have := (List.getElem?_eq_some_iff.mp e1).1
        rw [List.length_set] at this; exact this
      rw [List.getElem?_set_self hl] at e1
      cases e1; cases w1
    · by_cases q' : i = k
      · subst q'
        have hl : i < env.length := by
          have := (List.getElem?_eq_some_iff.mp e2).1
          rw [List.length_set] at this; exact this
        rw [List.getElem?_set_self hl] at e2
        cases e2; cases w2
      · rw [List.getElem?_set_ne q] at e1 s1
        rw [List.getElem?_set_ne q'] at e2 s2
        exact R.dis j k a c c' e1 e2 w1 w2 s1 s2
/-- cells forgotten -/
theorem Rep.weak {env' : DEnv} (R : Rep K B F H σ env) (hl : env'.length = env.length) (h : ∀ (i : Nat) (c : Cell), env'[i]? = some c → env[i]? = some c ∨ c = .none) : Rep K B F H σ env' where
  len := hl.trans R.len
  sub := R.sub
  fix := R.fix
  gro := R.gro
  new := R.new
  mf := R.mf
  mh := R.mh
  m0 := R.m0
  pin := R.pin
  mp := R.mp
  pf := R.pf
  cells := fun i c e => by
    rcases h i c e with q | q
    · exact R.cells i c q
    · subst q; trivial
  dis := fun j k a c c' e1 e2 w1 w2 s1 s2 => by
    rcases h j c e1 with q | q
    · rcases h k c' e2 with q' | q'
      · exact R.dis j k a c c' q q' w1 w2 s1 s2
      · subst q'; cases w2
    · subst q; cases w1
end
end L2.DL

namespace L2.DL
open PySem PySem.Spec PyProof.Rows

abbrev DK := D → DEnv → Prop
abbrev TD := DEnv → DK → Prop
abbrev TDT := DEnv → (Bool → DEnv → Prop) → Prop
abbrev TDA := DEnv → (List D → DEnv → Prop) → Prop

/-- an expression as a transformer of names' contents -/
structure DE (X : Cx) (B : Bd) (e : Expr) (t : TD) : Prop where
  ex : ∃ te, PE X e te ∧ ∀ (F H : Hp) (σ : St) (env : DEnv) (Q : DK) (Q' : VK), Rep X.K B F H σ env → t env Q →
    (∀ d env' v F' H', Q d env' → Same F F' → Rep X.K B F' H' σ env' → Rp X.K F' v d → Q' v H') → te σ H Q'
structure DT (X : Cx) (B : Bd) (e : Expr) (t : TDT) : Prop where
  ex : ∃ te, PT X e te ∧ ∀ (F H : Hp) (σ : St) (env : DEnv) (Q : Bool → DEnv → Prop) (Q' : Bool → Hp → Prop), Rep X.K B F H σ env → t env Q →
    (∀ b env' F' H', Q b env' → Same F F' → Rep X.K B F' H' σ env' → Q' b H') → te σ H Q'
structure DW (X : Cx) (B : Bd) (e : Expr) (t : TDT) : Prop where
  ex : ∃ te, PW X e te ∧ ∀ (F H : Hp) (σ : St) (env : DEnv) (Q : Bool → DEnv → Prop) (Q' : Bool → Hp → Prop), Rep X.K B F H σ env → t env Q →
    (∀ b env' F' H', Q b env' → Same F F' → Rep X.K B F' H' σ env' → Q' b H') → te σ H Q'
structure DA (X : Cx) (B : Bd) (es : List Expr) (t : TDA) : Prop where
  ex : ∃ te, PA X es te ∧ ∀ (F H : Hp) (σ : St) (env : DEnv) (Q : List D → DEnv → Prop) (Q' : List V → Hp → Prop), Rep X.K B F H σ env → t env Q →
    (∀ ds env' vs F' H', Q ds env' → Same F F' → Rep X.K B F' H' σ env' → RpA X.K F' vs ds → Q' vs H') → te σ H Q'

/-- a step of an operation: nothing, or one new object -/
def Stp (F H F' H' : Hp) : Prop := (F' = F ∧ H' = H) ∨ ∃ p o, H p = none ∧ F' = upd F p o ∧ H' = upd H p o
section
variable {K : PySem.W.Frag} {B : Bd} {F F' H H' : Hp} {σ : St} {env : DEnv}
theorem Stp.same (R : Same F H) (s : Stp F H F' H') : Same F F' := by
  rcases s with ⟨rfl, _⟩ | ⟨p, o, n, rfl, _⟩
  · exact Same.refl _
  · exact same_upd (R.free n)
theorem Rep.stp (R : Rep K B F H σ env) (s : Stp F H F' H') : Rep K B F' H' σ env := by
  rcases s with ⟨rfl, rfl⟩ | ⟨p, o, n, rfl, rfl⟩
  · exact R
  · exact R.alloc n
theorem Stp.nil : Stp F H F H := .inl ⟨rfl, rfl⟩
theorem Stp.new {p : Addr} {o : HO} (n : H p = none) : Stp F H (upd F p o) (upd H p o) := .inr ⟨p, o, n, rfl, rfl⟩
end
/-- an operation by values -/
abbrev S2 := D → D → (D → Prop) → Prop
abbrev S1 := D → (D → Prop) → Prop
abbrev SN := List D → (D → Prop) → Prop
def DOp (X : Cx) (f : Value → Value → Sem Value) (s : S2) : Prop :=
  ∃ r, OpR X f r ∧ ∀ (F H : Hp) (x y : V) (d e : D) (Q : D → Prop) (Q' : VK), Same F H → Rp X.K F x d → Rp X.K F y e → s d e Q →
    (∀ d' v F' H', Q d' → Stp F H F' H' → Rp X.K F' v d' → Q' v H') → r x y H Q'
def DIx (X : Cx) (s : S2) : Prop :=
  ∃ r, IxR X r ∧ ∀ (F H : Hp) (x y : V) (d e : D) (Q : D → Prop) (Q' : VK), Same F H → Rp X.K F x d → Rp X.K F y e → s d e Q →
    (∀ d' v F' H', Q d' → Stp F H F' H' → Rp X.K F' v d' → Q' v H') → r x y H Q'
def DUn (X : Cx) (f : Value → Sem Value) (s : S1) : Prop :=
  ∃ r, UnR X f r ∧ ∀ (F H : Hp) (x : V) (d : D) (Q : D → Prop) (Q' : VK), Same F H → Rp X.K F x d → s d Q →
    (∀ d' v F' H', Q d' → Stp F H F' H' → Rp X.K F' v d' → Q' v H') → r x H Q'
def DCl (X : Cx) (f : Value) (s : SN) : Prop :=
  ∃ r, CallR X f r ∧ ∀ (F H : Hp) (xs : List V) (ds : List D) (Q : D → Prop) (Q' : VK), Same F H → RpA X.K F xs ds → s ds Q →
    (∀ d' v F' H', Q d' → Stp F H F' H' → Rp X.K F' v d' → Q' v H') → r xs H Q'

section
variable {X : Cx} {B : Bd} {e a b c : Expr} {ta tb tc : TD} {pos : Pos}

/-! ### names and constants -/
@[simp] def qVar (i : Nat) : TD := fun env Q => match env[i]? with
  | some (.val d) => Q d env
  | _ => False
theorem de_var {i : Nat} {x : Str} (h : PE X (.Name x pos) (tVar i)) : DE X B (.Name x pos) (qVar i) := by
  refine ⟨_, h, fun F H σ env Q Q' R ht k => ?_⟩
  unfold qVar at ht
  cases z : env[i]? with
  | none => rw [z] at ht; exact ht.elim
  | some c =>
    rw [z] at ht
    cases c with
    | val d =>
      obtain ⟨v, e1, e2⟩ := R.cells i _ z
      exact ⟨v, e1, k d env v F H ht (Same.refl _) R e2⟩
    | none => exact ht.elim
    | own _ _ => exact ht.elim
    | opq _ _ => exact ht.elim
/-- a name of the def -/
theorem dv (i : Nat) {x : Str} (hN : X.N[i]? = some x := by rfl) (hv : Vis X.env.scope x := by first | exact Or.inl rfl | exact Or.inr (Or.inl rfl) | exact Or.inr (Or.inr rfl)) (hd : (x == ("__debug__" : Str)) = false := by decide)
    (hcd : (x == ("__classdict__" : Str)) = false := by decide) : DE X B (.Name x pos) (qVar i) := de_var (pe_var hN hv hd hcd)
@[simp] def qC (d : D) : TD := fun env Q => Q d env
theorem de_tC {v : V} {d : D} (h : PE X e (tC v)) (r : ∀ F, Rp X.K F v d) : DE X B e (qC d) :=
  ⟨_, h, fun F H σ env Q Q' R ht k => k d env v F H ht (Same.refl _) R (r F)⟩
theorem de_int {i : Int} {j : Nat} : DE X B (.Constant (.int i) j pos) (qC (.int i)) := de_tC pe_int fun _ => .int i
theorem de_bl {b : Bool} {j : Nat} : DE X B (.Constant (.bool b) j pos) (qC (.bl b)) := de_tC pe_bl fun _ => .bl b
theorem de_non {j : Nat} : DE X B (.Constant .none j pos) (qC .non) := de_tC pe_non fun _ => .non
theorem de_str {x : Str} {j : Nat} : DE X B (.Constant (.str x) j pos) (qC (.str x)) := de_tC pe_str fun _ => .str x
/-- a module's constant -/
theorem de_glob {x : Str} {v : V} {u : Value} {d : D} (hg : Gl X x) (hm : X.mg x = some u) (r : RelV v u) (h : ∀ F, Rp X.K F v d) (hd : (x == ("__debug__" : Str)) = false := by decide) : DE X B (.Name x pos) (qC d) :=
  de_tC (pe_glob hg hm r hd) h

/-! ### operators -/
@[simp] def qOp (s : S2) (ta tb : TD) : TD := fun env Q => ta env fun d env1 => tb env1 fun e env2 => s d e fun r => Q r env2
@[simp] def qUn (s : S1) (ta : TD) : TD := fun env Q => ta env fun d env1 => s d fun r => Q r env1
theorem op_run {f : Value → Value → Sem Value} {s : S2} {te1 te2 : TE} {r : R2} (hr : ∀ (F H : Hp) (x y : V) (d e : D) (Q : D → Prop) (Q' : VK), Same F H → Rp X.K F x d → Rp X.K F y e → s d e Q →
      (∀ d' v F' H', Q d' → Stp F H F' H' → Rp X.K F' v d' → Q' v H') → r x y H Q')
    (h1 : ∀ (F H : Hp) (σ : St) (env : DEnv) (Q : DK) (Q' : VK), Rep X.K B F H σ env → ta env Q → (∀ d env' v F' H', Q d env' → Same F F' → Rep X.K B F' H' σ env' → Rp X.K F' v d → Q' v H') → te1 σ H Q')
    (h2 : ∀ (F H : Hp) (σ : St) (env : DEnv) (Q : DK) (Q' : VK), Rep X.K B F H σ env → tb env Q → (∀ d env' v F' H', Q d env' → Same F F' → Rep X.K B F' H' σ env' → Rp X.K F' v d → Q' v H') → te2 σ H Q') :
    ∀ (F H : Hp) (σ : St) (env : DEnv) (Q : DK) (Q' : VK), Rep X.K B F H σ env → qOp s ta tb env Q → (∀ d env' v F' H', Q d env' → Same F F' → Rep X.K B F' H' σ env' → Rp X.K F' v d → Q' v H') → tOp r te1 te2 σ H Q' := by
  intro F H σ env Q Q' R ht k
  refine h1 F H σ env _ _ R ht fun d env1 x F1 H1 q1 s1 R1 r1 => ?_
  refine h2 F1 H1 σ env1 _ _ R1 q1 fun d2 env2 y F2 H2 q2 s2 R2 r2 => ?_
  refine hr F2 H2 x y d d2 _ _ R2.sub (r1.mono s2) r2 q2 fun d' v F3 H3 q3 s3 r3 => ?_
  exact k d' env2 v F3 H3 q3 ((s1.trans s2).trans (s3.same R2.sub)) (R2.stp s3) r3
theorem de_op {op : Operator} {s : S2} (ho : DOp X (binaryOp op) s) (ha : DE X B a ta) (hb : DE X B b tb) : DE X B (.BinOp a op b pos) (qOp s ta tb) := by
  obtain ⟨r, h, hr⟩ := ho
  obtain ⟨te1, p1, h1⟩ := ha.ex
  obtain ⟨te2, p2, h2⟩ := hb.ex
  exact ⟨_, pe_op h p1 p2, op_run (f := binaryOp op) hr h1 h2⟩
theorem de_cmp {op : CmpOp} {s : S2} (ho : DOp X (compareOp op) s) (ha : DE X B a ta) (hb : DE X B b tb) (hm : behindInMarks op b = false) : DE X B (.Compare a [op] [b] pos) (qOp s ta tb) := by
  obtain ⟨r, h, hr⟩ := ho
  obtain ⟨te1, p1, h1⟩ := ha.ex
  obtain ⟨te2, p2, h2⟩ := hb.ex
  exact ⟨_, pe_cmpR h p1 p2 hm, op_run (f := compareOp op) hr h1 h2⟩
/-- a value that must be a truth -/
@[simp] def qTest (t : TD) : TDT := fun env Q => t env fun d env1 => match d with
  | .bl k => Q k env1
  | _ => False
theorem dt_cmp {op : CmpOp} {s : S2} (ho : DOp X (compareOp op) s) (ha : DE X B a ta) (hb : DE X B b tb) (hm : behindInMarks op b = false) : DT X B (.Compare a [op] [b] pos) (qTest (qOp s ta tb)) := by
  obtain ⟨r, h, hr⟩ := ho
  obtain ⟨te1, p1, h1⟩ := ha.ex
  obtain ⟨te2, p2, h2⟩ := hb.ex
  refine ⟨_, pt_cmpR h p1 p2 hm, fun F H σ env Q Q' R ht k => ?_⟩
  refine op_run (f := compareOp op) hr h1 h2 F H σ env _ _ R ht fun d env' v F' H' q s' R' r' => ?_
  cases d with
  | bl b => cases r' with
    | bl _ => exact ⟨b, rfl, k b env' F' H' q s' R'⟩
  | _ => exact q.elim
theorem dt_val {t : TD} (h : DE X B e t) (he : ∀ whole, isTrue e X.env whole = (do let v ← whole; standAt e.pos; holding [v] (truthy v)) := by intro _; rfl) : DT X B e (qTest t) := by
  obtain ⟨te, p, h⟩ := h.ex
  refine ⟨_, pt_val p he, fun F H σ env Q Q' R ht k => ?_⟩
  refine h F H σ env _ _ R ht fun d env' v F' H' q s' R' r' => ?_
  cases d with
  | bl b => cases r' with
    | bl _ => exact ⟨b, rfl, k b env' F' H' q s' R'⟩
  | _ => exact q.elim
theorem de_un {op : UnaryOp} {s : S1} (ho : DUn X (unaryOp op) s) (ha : DE X B a ta) : DE X B (.UnaryOp op a pos) (qUn s ta) := by
  obtain ⟨r, h, hr⟩ := ho
  obtain ⟨te1, p1, h1⟩ := ha.ex
  refine ⟨_, pe_un h p1, fun F H σ env Q Q' R ht k => ?_⟩
  refine h1 F H σ env _ _ R ht fun d env1 x F1 H1 q1 s1 R1 r1 => ?_
  refine hr F1 H1 x d _ _ R1.sub r1 q1 fun d' v F3 H3 q3 s3 r3 => ?_
  exact k d' env1 v F3 H3 q3 (s1.trans (s3.same R1.sub)) (R1.stp s3) r3
theorem de_ix {s : S2} (ho : DIx X s) (ha : DE X B a ta) (hb : DE X B b tb) (hs : PlainIx b := by exact fun _ _ => rfl) : DE X B (.Subscript a b pos) (qOp s ta tb) := by
  obtain ⟨r, h, hr⟩ := ho
  obtain ⟨te1, p1, h1⟩ := ha.ex
  obtain ⟨te2, p2, h2⟩ := hb.ex
  exact ⟨_, pe_ix h p1 p2 hs, op_run (f := fun a _ => pure a) hr h1 h2⟩
/-- a < b < c -/
@[simp] def qChain (s s' : S2) (ta tb tc : TD) : TD := fun env Q => ta env fun d env1 => tb env1 fun e env2 => s d e fun r => match r with
  | .bl true => tc env2 fun f env3 => s' e f fun r' => Q r' env3
  | .bl false => Q (.bl false) env2
  | _ => False
theorem chain_run {s s' : S2} {te1 te2 te3 : TE} {r r' : R2} (hr : ∀ (F H : Hp) (x y : V) (d e : D) (Q : D → Prop) (Q' : VK), Same F H → Rp X.K F x d → Rp X.K F y e → s d e Q →
      (∀ d' v F' H', Q d' → Stp F H F' H' → Rp X.K F' v d' → Q' v H') → r x y H Q')
    (hr' : ∀ (F H : Hp) (x y : V) (d e : D) (Q : D → Prop) (Q' : VK), Same F H → Rp X.K F x d → Rp X.K F y e → s' d e Q →
      (∀ d' v F' H', Q d' → Stp F H F' H' → Rp X.K F' v d' → Q' v H') → r' x y H Q')
    (h1 : ∀ (F H : Hp) (σ : St) (env : DEnv) (Q : DK) (Q' : VK), Rep X.K B F H σ env → ta env Q → (∀ d env' v F' H', Q d env' → Same F F' → Rep X.K B F' H' σ env' → Rp X.K F' v d → Q' v H') → te1 σ H Q')
    (h2 : ∀ (F H : Hp) (σ : St) (env : DEnv) (Q : DK) (Q' : VK), Rep X.K B F H σ env → tb env Q → (∀ d env' v F' H', Q d env' → Same F F' → Rep X.K B F' H' σ env' → Rp X.K F' v d → Q' v H') → te2 σ H Q')
    (h3 : ∀ (F H : Hp) (σ : St) (env : DEnv) (Q : DK) (Q' : VK), Rep X.K B F H σ env → tc env Q → (∀ d env' v F' H', Q d env' → Same F F' → Rep X.K B F' H' σ env' → Rp X.K F' v d → Q' v H') → te3 σ H Q') :
    ∀ (F H : Hp) (σ : St) (env : DEnv) (Q : DK) (Q' : VK), Rep X.K B F H σ env → qChain s s' ta tb tc env Q → (∀ d env' v F' H', Q d env' → Same F F' → Rep X.K B F' H' σ env' → Rp X.K F' v d → Q' v H') → tChain r r' te1 te2 te3 σ H Q' := by
  intro F H σ env Q Q' R ht k
  refine h1 F H σ env _ _ R ht fun d env1 x F1 H1 q1 s1 R1 r1 => ?_
  refine h2 F1 H1 σ env1 _ _ R1 q1 fun d2 env2 y F2 H2 q2 s2 R2 r2 => ?_
  refine hr F2 H2 x y d d2 _ _ R2.sub (r1.mono s2) r2 q2 fun d' v F3 H3 q3 s3 r3 => ?_
  have R3 := R2.stp s3
  have ss := s3.same R2.sub
  cases d' with
  | bl b => cases r3 with
    | bl _ =>
      cases b with
      | true =>
        refine ⟨true, rfl, iteT ?_⟩
        refine h3 F3 H3 σ env2 _ _ R3 q3 fun d4 env4 z F4 H4 q4 s4 R4 r4 => ?_
        refine hr' F4 H4 y z d2 d4 _ _ R4.sub (r2.mono (ss.trans s4)) r4 q4 fun d' v F5 H5 q5 s5 r5 => ?_
        exact k d' env4 v F5 H5 q5 ((((s1.trans s2).trans ss).trans s4).trans (s5.same R4.sub)) (R4.stp s5) r5
      | false => exact ⟨false, rfl, iteF (k _ env2 _ F3 H3 q3 ((s1.trans s2).trans ss) R3 (.bl false))⟩
  | _ => exact q3.elim
theorem de_chain {op op' : CmpOp} {s s' : S2} (ho : DOp X (compareOp op) s) (ho' : DOp X (compareOp op') s') (ha : DE X B a ta) (hb : DE X B b tb) (hc : DE X B c tc) (hm : lastMarks [op, op'] [b, c] = false := by with_unfolding_all rfl) :
    DE X B (.Compare a [op, op'] [b, c] pos) (qChain s s' ta tb tc) := by
  obtain ⟨r, h, hr⟩ := ho
  obtain ⟨r', h', hr'⟩ := ho'
  obtain ⟨te1, p1, h1⟩ := ha.ex
  obtain ⟨te2, p2, h2⟩ := hb.ex
  obtain ⟨te3, p3, h3⟩ := hc.ex
  exact ⟨_, pe_chain h h' p1 p2 p3 hm, chain_run hr hr' h1 h2 h3⟩
theorem dt_chain {op op' : CmpOp} {s s' : S2} (ho : DOp X (compareOp op) s) (ho' : DOp X (compareOp op') s') (ha : DE X B a ta) (hb : DE X B b tb) (hc : DE X B c tc) (hm : lastMarks [op, op'] [b, c] = false := by with_unfolding_all rfl) :
    DT X B (.Compare a [op, op'] [b, c] pos) (qTest (qChain s s' ta tb tc)) := by
  obtain ⟨r, h, hr⟩ := ho
  obtain ⟨r', h', hr'⟩ := ho'
  obtain ⟨te1, p1, h1⟩ := ha.ex
  obtain ⟨te2, p2, h2⟩ := hb.ex
  obtain ⟨te3, p3, h3⟩ := hc.ex
  refine ⟨_, pt_chain h h' p1 p2 p3 hm, fun F H σ env Q Q' R ht k => ?_⟩
  refine chain_run hr hr' h1 h2 h3 F H σ env _ _ R ht fun d env' v F' H' q s' R' r' => ?_
  cases d with
  | bl b => cases r' with
    | bl _ => exact ⟨b, rfl, k b env' F' H' q s' R'⟩
  | _ => exact q.elim

/-! ### and, or, not, if -/
@[simp] def qAnd (t u : TDT) : TDT := fun env Q => t env fun c env1 => match c with
  | true => u env1 Q
  | false => Q false env1
@[simp] def qOr (t u : TDT) : TDT := fun env Q => t env fun c env1 => match c with
  | true => Q true env1
  | false => u env1 Q
@[simp] def qNot (t : TDT) : TDT := fun env Q => t env fun c env1 => Q (!c) env1
variable {tA tB : TDT} {rest : List Expr}
theorem dw_and1 (ha : DT X B a tA) : DW X B (.BoolOp .And [a] pos) tA := by
  obtain ⟨te, p, h⟩ := ha.ex
  exact ⟨_, pw_and1 p, h⟩
theorem dw_or1 (ha : DT X B a tA) : DW X B (.BoolOp .Or [a] pos) tA := by
  obtain ⟨te, p, h⟩ := ha.ex
  exact ⟨_, pw_or1 p, h⟩
theorem dw_and (ha : DT X B a tA) (hb : DW X B (.BoolOp .And (b :: rest) pos) tB) : DW X B (.BoolOp .And (a :: b :: rest) pos) (qAnd tA tB) := by
  obtain ⟨te, p, h⟩ := ha.ex
  obtain ⟨te2, p2, h2⟩ := hb.ex
  refine ⟨_, pw_and p p2, fun F H σ env Q Q' R ht k => ?_⟩
  refine h F H σ env _ _ R ht fun c env1 F1 H1 q1 s1 R1 => ?_
  cases c with
  | true => exact iteT (h2 F1 H1 σ env1 _ _ R1 q1 fun c env2 F2 H2 q2 s2 R2 => k c env2 F2 H2 q2 (s1.trans s2) R2)
  | false => exact iteF (k _ env1 F1 H1 q1 s1 R1)
theorem dw_or (ha : DT X B a tA) (hb : DW X B (.BoolOp .Or (b :: rest) pos) tB) : DW X B (.BoolOp .Or (a :: b :: rest) pos) (qOr tA tB) := by
  obtain ⟨te, p, h⟩ := ha.ex
  obtain ⟨te2, p2, h2⟩ := hb.ex
  refine ⟨_, pw_or p p2, fun F H σ env Q Q' R ht k => ?_⟩
  refine h F H σ env _ _ R ht fun c env1 F1 H1 q1 s1 R1 => ?_
  cases c with
  | false => exact iteF (h2 F1 H1 σ env1 _ _ R1 q1 fun c env2 F2 H2 q2 s2 R2 => k c env2 F2 H2 q2 (s1.trans s2) R2)
  | true => exact iteT (k _ env1 F1 H1 q1 s1 R1)
theorem DW.dt {t : TDT} (h : DW X B e t) : DT X B e t := by
  obtain ⟨te, p, h⟩ := h.ex
  exact ⟨_, p.pt, h⟩
theorem dt_not (ha : DT X B a tA) : DT X B (.UnaryOp .Not a pos) (qNot tA) := by
  obtain ⟨te, p, h⟩ := ha.ex
  refine ⟨_, pt_not p, fun F H σ env Q Q' R ht k => ?_⟩
  exact h F H σ env _ _ R ht fun c env1 F1 H1 q1 s1 R1 => k _ env1 F1 H1 q1 s1 R1
/-- .. as values -/
@[simp] def qAndV (ta tb : TD) : TD := fun env Q => ta env fun d env1 => match d with
  | .bl true => tb env1 Q
  | .bl false => Q (.bl false) env1
  | _ => False
@[simp] def qOrV (ta tb : TD) : TD := fun env Q => ta env fun d env1 => match d with
  | .bl false => tb env1 Q
  | .bl true => Q (.bl true) env1
  | _ => False
@[simp] def qNotV (ta : TD) : TD := fun env Q => ta env fun d env1 => match d with
  | .bl k => Q (.bl (!k)) env1
  | _ => False
theorem de_one {op : BoolOp} {t : TD} (h : DE X B a t) : DE X B (.BoolOp op [a] pos) t := by
  obtain ⟨te, p, h⟩ := h.ex
  exact ⟨_, pe_one p, h⟩
theorem de_and (ha : DE X B a ta) (hb : DE X B (.BoolOp .And (b :: rest) pos) tb) : DE X B (.BoolOp .And (a :: b :: rest) pos) (qAndV ta tb) := by
  obtain ⟨te, p, h⟩ := ha.ex
  obtain ⟨te2, p2, h2⟩ := hb.ex
  refine ⟨_, pe_and p p2, fun F H σ env Q Q' R ht k => ?_⟩
  refine h F H σ env _ _ R ht fun d env1 v F1 H1 q1 s1 R1 r1 => ?_
  cases d with
  | bl c => cases r1 with
    | bl _ => cases c with
      | true => exact ⟨true, rfl, iteT (h2 F1 H1 σ env1 _ _ R1 q1 fun c env2 v F2 H2 q2 s2 R2 r2 => k c env2 v F2 H2 q2 (s1.trans s2) R2 r2)⟩
      | false => exact ⟨false, rfl, iteF (k _ env1 _ F1 H1 q1 s1 R1 (.bl false))⟩
  | _ => exact q1.elim
theorem de_or (ha : DE X B a ta) (hb : DE X B (.BoolOp .Or (b :: rest) pos) tb) : DE X B (.BoolOp .Or (a :: b :: rest) pos) (qOrV ta tb) := by
  obtain ⟨te, p, h⟩ := ha.ex
  obtain ⟨te2, p2, h2⟩ := hb.ex
  refine ⟨_, pe_or p p2, fun F H σ env Q Q' R ht k => ?_⟩
  refine h F H σ env _ _ R ht fun d env1 v F1 H1 q1 s1 R1 r1 => ?_
  cases d with
  | bl c => cases r1 with
    | bl _ => cases c with
      | false => exact ⟨false, rfl, iteF (h2 F1 H1 σ env1 _ _ R1 q1 fun c env2 v F2 H2 q2 s2 R2 r2 => k c env2 v F2 H2 q2 (s1.trans s2) R2 r2)⟩
      | true => exact ⟨true, rfl, iteT (k _ env1 _ F1 H1 q1 s1 R1 (.bl true))⟩
  | _ => exact q1.elim
theorem de_not (ha : DE X B a ta) : DE X B (.UnaryOp .Not a pos) (qNotV ta) := by
  obtain ⟨te, p, h⟩ := ha.ex
  refine ⟨_, pe_not p, fun F H σ env Q Q' R ht k => ?_⟩
  refine h F H σ env _ _ R ht fun d env1 v F1 H1 q1 s1 R1 r1 => ?_
  cases d with
  | bl c => cases r1 with
    | bl _ => exact ⟨c, rfl, k _ env1 _ F1 H1 q1 s1 R1 (.bl _)⟩
  | _ => exact q1.elim
@[simp] def qIf (t : TDT) (ta tb : TD) : TD := fun env Q => t env fun c env1 => match c with
  | true => ta env1 Q
  | false => tb env1 Q
theorem de_if {c : Expr} (hc : DT X B c tA) (ha : DE X B a ta) (hb : DE X B b tb) : DE X B (.IfExp c a b pos) (qIf tA ta tb) := by
  obtain ⟨tc, p, h⟩ := hc.ex
  obtain ⟨te1, p1, h1⟩ := ha.ex
  obtain ⟨te2, p2, h2⟩ := hb.ex
  refine ⟨_, pe_ifExp p p1 p2, fun F H σ env Q Q' R ht k => ?_⟩
  refine h F H σ env _ _ R ht fun c env1 F1 H1 q1 s1 R1 => ?_
  cases c with
  | true => exact iteT (h1 F1 H1 σ env1 _ _ R1 q1 fun c env2 v F2 H2 q2 s2 R2 r2 => k c env2 v F2 H2 q2 (s1.trans s2) R2 r2)
  | false => exact iteF (h2 F1 H1 σ env1 _ _ R1 q1 fun c env2 v F2 H2 q2 s2 R2 r2 => k c env2 v F2 H2 q2 (s1.trans s2) R2 r2)

/-! ### argument lists, tuples, lists, calls of built-ins -/
variable {es : List Expr} {tr : TDA}
@[simp] def qNil : TDA := fun env Q => Q [] env
@[simp] def qCons (ta : TD) (tr : TDA) : TDA := fun env Q => ta env fun d env1 => tr env1 fun ds env2 => Q (d :: ds) env2
theorem da_nil : DA X B [] qNil := ⟨_, pa_nil, fun F H σ env Q Q' R ht k => k [] env [] F H ht (Same.refl _) R .nil⟩
theorem da_cons (ha : DE X B e ta) (hr : DA X B es tr) (hs : starEach (e :: es) X.env = (false, eval e X.env) :: starEach es X.env := by rfl) : DA X B (e :: es) (qCons ta tr) := by
  obtain ⟨te, p, h⟩ := ha.ex
  obtain ⟨te2, p2, h2⟩ := hr.ex
  refine ⟨_, pa_cons p p2 hs, fun F H σ env Q Q' R ht k => ?_⟩
  refine h F H σ env _ _ R ht fun d env1 v F1 H1 q1 s1 R1 r1 => ?_
  refine h2 F1 H1 σ env1 _ _ R1 q1 fun ds env2 vs F2 H2 q2 s2 R2 r2 => ?_
  exact k _ env2 _ F2 H2 q2 (s1.trans s2) R2 (.cons (r1.mono s2) r2)
@[simp] def qTup (tr : TDA) : TD := fun env Q => tr env fun ds env1 => ds.length ≤ sizeLine ∧ Q (.tup ds) env1
@[simp] def qLst (tr : TDA) : TD := fun env Q => tr env fun ds env1 => ds.length ≤ sizeLine ∧ Q (.lst ds) env1
theorem de_tup {k : Nat} (h : DA X B es tr) : DE X B (.Tuple es k pos) (qTup tr) := by
  obtain ⟨te, p, h⟩ := h.ex
  refine ⟨_, pe_tup p, fun F H σ env Q Q' R ht k => ?_⟩
  refine h F H σ env _ _ R ht fun ds env1 vs F1 H1 q1 s1 R1 r1 => ?_
  refine ⟨by rw [r1.length]; exact q1.1, fun p hp => ?_⟩
  have sF : Same F1 (upd F1 p (.tup vs)) := same_upd (R1.freeF hp)
  exact k _ env1 _ _ _ q1.2 (s1.trans sF) (R1.alloc hp) (.tup (.of upd_same) (r1.mono sF))
theorem de_lst (h : DA X B es tr) : DE X B (.List es pos) (qLst tr) := by
  obtain ⟨te, p, h⟩ := h.ex
  refine ⟨_, pe_lst p, fun F H σ env Q Q' R ht k => ?_⟩
  refine h F H σ env _ _ R ht fun ds env1 vs F1 H1 q1 s1 R1 r1 => ?_
  refine ⟨by rw [r1.length]; exact q1.1, fun p hp => ?_⟩
  have sF : Same F1 (upd F1 p (.lst vs)) := same_upd (R1.freeF hp)
  exact k _ env1 _ _ _ q1.2 (s1.trans sF) (R1.alloc hp) (.lst upd_same (r1.mono sF))
@[simp] def qCl (s : SN) (tr : TDA) : TD := fun env Q => tr env fun ds env1 => s ds fun r => Q r env1
theorem cl_run {s : SN} {te : TA} {r : List V → Hp → VK → Prop} (hr : ∀ (F H : Hp) (xs : List V) (ds : List D) (Q : D → Prop) (Q' : VK), Same F H → RpA X.K F xs ds → s ds Q →
      (∀ d' v F' H', Q d' → Stp F H F' H' → Rp X.K F' v d' → Q' v H') → r xs H Q')
    (h : ∀ (F H : Hp) (σ : St) (env : DEnv) (Q : List D → DEnv → Prop) (Q' : List V → Hp → Prop), Rep X.K B F H σ env → tr env Q →
      (∀ ds env' vs F' H', Q ds env' → Same F F' → Rep X.K B F' H' σ env' → RpA X.K F' vs ds → Q' vs H') → te σ H Q') :
    ∀ (F H : Hp) (σ : St) (env : DEnv) (Q : DK) (Q' : VK), Rep X.K B F H σ env → qCl s tr env Q → (∀ d env' v F' H', Q d env' → Same F F' → Rep X.K B F' H' σ env' → Rp X.K F' v d → Q' v H') → tCB r te σ H Q' := by
  intro F H σ env Q Q' R ht k
  refine h F H σ env _ _ R ht fun ds env1 vs F1 H1 q1 s1 R1 r1 => ?_
  refine hr F1 H1 vs ds _ _ R1.sub r1 q1 fun d' v F3 H3 q3 s3 r3 => ?_
  exact k d' env1 v F3 H3 q3 (s1.trans (s3.same R1.sub)) (R1.stp s3) r3
theorem de_callB {x : Str} {p : Pos} {id : String} {s : SN} (hc : DCl X (.builtin id) s) (hg : Gl X x) (hm : X.mg x = none) (hv : bootBuiltins x = some (.builtin id)) (ha : DA X B (e :: es) tr) (hn : x ≠ "__name__" := by decide) (hdb : (x == ("__debug__" : Str)) = false := by decide)
    (he : starEach (e :: es) X.env = (false, eval e X.env) :: starEach es X.env := by rfl) (hpl : (backTo pos (starEach es X.env)).any (·.1) = false := by rfl) : DE X B (.Call (.Name x p) (e :: es) [] pos) (qCl s tr) := by
  obtain ⟨r, h, hr⟩ := hc
  obtain ⟨te, q, h1⟩ := ha.ex
  exact ⟨_, pe_callB h hg hm hv q hn hdb he hpl, cl_run hr h1⟩
theorem de_callTy {x : Str} {p : Pos} {T : String} {s : SN} (hc : DCl X (.type T) s) (hg : Gl X x) (hm : X.mg x = none) (hv : bootBuiltins x = some (.type T)) (ha : DA X B (e :: es) tr) (hn : x ≠ "__name__" := by decide) (hdb : (x == ("__debug__" : Str)) = false := by decide)
    (he : starEach (e :: es) X.env = (false, eval e X.env) :: starEach es X.env := by rfl) (hpl : (backTo pos (starEach es X.env)).any (·.1) = false := by rfl) : DE X B (.Call (.Name x p) (e :: es) [] pos) (qCl s tr) := by
  obtain ⟨r, h, hr⟩ := hc
  obtain ⟨te, q, h1⟩ := ha.ex
  exact ⟨_, pe_callTy h hg hm hv q hn hdb he hpl, cl_run hr h1⟩
/-! ### slices -/
abbrev TDO := DEnv → (Option Int → DEnv → Prop) → Prop
structure DO (X : Cx) (B : Bd) (e : Option Expr) (t : TDO) : Prop where
  ex : ∃ te, PO X e te ∧ ∀ (F H : Hp) (σ : St) (env : DEnv) (Q : Option Int → DEnv → Prop) (Q' : Option Int → Hp → Prop), Rep X.K B F H σ env → t env Q →
    (∀ o env' F' H', Q o env' → Same F F' → Rep X.K B F' H' σ env' → Q' o H') → te σ H Q'
@[simp] def qNoPart : TDO := fun env Q => Q none env
@[simp] def qPart (t : TD) : TDO := fun env Q => t env fun d env1 => match d with
  | .int i => Q (some i) env1
  | _ => False
theorem do_none : DO X B none qNoPart := ⟨_, po_none, fun F H σ env Q Q' R ht k => k none env F H ht (Same.refl _) R⟩
theorem do_some {t : TD} (h : DE X B e t) : DO X B (some e) (qPart t) := by
  obtain ⟨te, p, h⟩ := h.ex
  refine ⟨_, po_some p, fun F H σ env Q Q' R ht k => ?_⟩
  refine h F H σ env _ _ R ht fun d env' v F' H' q s' R' r' => ?_
  cases d with
  | int i => cases r' with
    | int _ => exact ⟨i, rfl, k _ env' F' H' q s' R'⟩
  | _ => exact q.elim
abbrev S3 := D → Option Int → Option Int → (D → Prop) → Prop
def DSl (X : Cx) (s : S3) : Prop :=
  ∃ r, SlR X r ∧ ∀ (F H : Hp) (x : V) (d : D) (lo hi : Option Int) (Q : D → Prop) (Q' : VK), Same F H → Rp X.K F x d → s d lo hi Q →
    (∀ d' v F' H', Q d' → Stp F H F' H' → Rp X.K F' v d' → Q' v H') → r x lo hi H Q'
@[simp] def qSl (s : S3) (t : TD) (tl th : TDO) : TD := fun env Q => t env fun d env1 => tl env1 fun lo env2 => th env2 fun hi env3 => s d lo hi fun r => Q r env3
theorem de_slice {s : S3} {lo hi : Option Expr} {tl th : TDO} {p2 : Pos} {t : TD} (hs : DSl X s) (he : DE X B e t) (hl : DO X B lo tl) (hh : DO X B hi th) : DE X B (.Subscript e (.Slice lo hi none p2) pos) (qSl s t tl th) := by
  obtain ⟨r, h, hr⟩ := hs
  obtain ⟨te, q, h1⟩ := he.ex
  obtain ⟨tel, ql, h2⟩ := hl.ex
  obtain ⟨teh, qh, h3⟩ := hh.ex
  refine ⟨_, pe_slice h q ql qh, fun F H σ env Q Q' R ht k => ?_⟩
  refine h1 F H σ env _ _ R ht fun d env1 v F1 H1 q1 s1 R1 r1 => ?_
  refine h2 F1 H1 σ env1 _ _ R1 q1 fun lo env2 F2 H2 q2 s2 R2 => ?_
  refine h3 F2 H2 σ env2 _ _ R2 q2 fun hi env3 F3 H3 q3 s3 R3 => ?_
  refine hr F3 H3 v d lo hi _ _ R3.sub (r1.mono (s2.trans s3)) q3 fun d' v F4 H4 q4 s4 r4 => ?_
  exact k d' env3 v F4 H4 q4 (((s1.trans s2).trans s3).trans (s4.same R3.sub)) (R3.stp s4) r4
end
end L2.DL

namespace L2.DL
open PySem PySem.Spec PyProof.Rows

/-! ### statements -/
structure DEnds where
  nx : DEnv → Prop
  rt : D → DEnv → Prop
  bk : DEnv → Prop := fun _ => False
  ct : DEnv → Prop := fun _ => False
abbrev TDS := DEnds → DEnv → Prop
structure Lk (K : PySem.W.Frag) (B : Bd) (F : Hp) (DD : DEnds) (DH : Ends) : Prop where
  nx : ∀ (env' : DEnv) (σ' : St) (F' H' : Hp), DD.nx env' → Same F F' → Rep K B F' H' σ' env' → DH.nx σ' H'
  rt : ∀ (d : D) (env' : DEnv) (v : V) (σ' : St) (F' H' : Hp), DD.rt d env' → Same F F' → Rep K B F' H' σ' env' → Rp K F' v d → DH.rt v H'
  bk : ∀ (env' : DEnv) (σ' : St) (F' H' : Hp), DD.bk env' → Same F F' → Rep K B F' H' σ' env' → DH.bk σ' H'
  ct : ∀ (env' : DEnv) (σ' : St) (F' H' : Hp), DD.ct env' → Same F F' → Rep K B F' H' σ' env' → DH.ct σ' H'
theorem Lk.mono {K : PySem.W.Frag} {B : Bd} {F F1 : Hp} {DD : DEnds} {DH : Ends} (l : Lk K B F DD DH) (s : Same F F1) : Lk K B F1 DD DH :=
  ⟨fun a b c d e f g => l.nx a b c d e (s.trans f) g, fun a b c d e f g h i j => l.rt a b c d e f g (s.trans h) i j, fun a b c d e f g => l.bk a b c d e (s.trans f) g, fun a b c d e f g => l.ct a b c d e (s.trans f) g⟩
structure DS (X : Cx) (B : Bd) (st : Stmt) (t : TDS) : Prop where
  ex : ∃ ts, PS X st ts ∧ ∀ (F H : Hp) (σ : St) (env : DEnv) (DD : DEnds) (DH : Ends), Rep X.K B F H σ env → t DD env → Lk X.K B F DD DH → ts DH σ H
structure DSs (X : Cx) (B : Bd) (st : List Stmt) (t : TDS) : Prop where
  ex : ∃ ts, PSs X st ts ∧ ∀ (F H : Hp) (σ : St) (env : DEnv) (DD : DEnds) (DH : Ends), Rep X.K B F H σ env → t DD env → Lk X.K B F DD DH → ts DH σ H
/-- targets; vs: the names stored -/
abbrev TDG := D → DEnv → (DEnv → Prop) → Prop
abbrev TDGs := List D → DEnv → (DEnv → Prop) → Prop
def Chg (vs : List Nat) (σ σ' : St) : Prop := σ'.length = σ.length ∧ ∀ i, i ∉ vs → σ'[i]? = σ[i]?
theorem Chg.refl {vs : List Nat} {σ : St} : Chg vs σ σ := ⟨rfl, fun _ _ => rfl⟩
theorem Chg.trans {vs : List Nat} {a b c : St} (h : Chg vs a b) (k : Chg vs b c) : Chg vs a c := ⟨k.1.trans h.1, fun i n => (k.2 i n).trans (h.2 i n)⟩
structure DG (X : Cx) (B : Bd) (tg : Expr) (vs : List Nat) (t : TDG) : Prop where
  ex : ∃ g, PG X tg g ∧ ∀ (F H : Hp) (σ : St) (env : DEnv) (d : D) (v : V) (Q : DEnv → Prop) (Q' : St → Hp → Prop), Rep X.K B F H σ env → Rp X.K F v d → t d env Q →
    (∀ env' σ', Q env' → Chg vs σ σ' → Rep X.K B F H σ' env' → Q' σ' H) → g v σ H Q'
structure DGs (X : Cx) (B : Bd) (tgs : List Expr) (vs : List Nat) (t : TDGs) : Prop where
  ex : ∃ g, PGs X tgs g ∧ ∀ (F H : Hp) (σ : St) (env : DEnv) (ds : List D) (us : List V) (Q : DEnv → Prop) (Q' : St → Hp → Prop), Rep X.K B F H σ env → RpA X.K F us ds → t ds env Q →
    (∀ env' σ', Q env' → Chg vs σ σ' → Rep X.K B F H σ' env' → Q' σ' H) → g us σ H Q'

section
variable {X : Cx} {B : Bd} {e a b c : Expr} {ta tb tc te : TD} {pos : Pos} {st : Stmt} {rest sts : List Stmt} {t u : TDS}
@[simp] def sNext : TDS := fun DD env => DD.nx env
@[simp] def sSeq (t u : TDS) : TDS := fun DD env => t { DD with nx := u DD } env
theorem dss_nil : DSs X B [] sNext := ⟨_, pss_nil, fun F H σ env DD DH R ht l => l.nx env σ F H ht (Same.refl _) R⟩
theorem dss_cons (h1 : DS X B st t) (h2 : DSs X B rest u) : DSs X B (st :: rest) (sSeq t u) := by
  obtain ⟨ts, p1, h1⟩ := h1.ex
  obtain ⟨us, p2, h2⟩ := h2.ex
  refine ⟨_, pss_cons p1 p2, fun F H σ env DD DH R ht l => ?_⟩
  refine h1 F H σ env _ _ R ht ⟨fun env' σ' F' H' q s R' => ?_, l.rt, l.bk, l.ct⟩
  exact h2 F' H' σ' env' _ _ R' q (l.mono s)
theorem dss_one (h1 : DS X B st t) : DSs X B [st] t := by
  obtain ⟨ts, p1, h1⟩ := h1.ex
  exact ⟨_, pss_one p1, h1⟩
theorem ds_pass : DS X B (.Pass pos) sNext := ⟨_, ps_pass, fun F H σ env DD DH R ht l => l.nx env σ F H ht (Same.refl _) R⟩
@[simp] def sBreak : TDS := fun DD env => DD.bk env
@[simp] def sCont : TDS := fun DD env => DD.ct env
theorem ds_break : DS X B (.Break pos) sBreak := ⟨_, ps_break, fun F H σ env DD DH R ht l => l.bk env σ F H ht (Same.refl _) R⟩
theorem ds_continue : DS X B (.Continue pos) sCont := ⟨_, ps_continue, fun F H σ env DD DH R ht l => l.ct env σ F H ht (Same.refl _) R⟩
theorem ds_doc {x : Str} {j : Nat} {pos' : Pos} : DS X B (.Expr (.Constant (.str x) j pos) pos') sNext := ⟨_, ps_doc, fun F H σ env DD DH R ht l => l.nx env σ F H ht (Same.refl _) R⟩
@[simp] def sDrop (te : TD) : TDS := fun DD env => te env fun _ env1 => DD.nx env1
theorem ds_expr (he : DE X B e te) (hs : swapsWith e none pos.line X.env = pure false := by rfl) : DS X B (.Expr e pos) (sDrop te) := by
  obtain ⟨ts, p, h⟩ := he.ex
  refine ⟨_, ps_expr p hs, fun F H σ env DD DH R ht l => ?_⟩
  exact h F H σ env _ _ R ht fun d env' v F' H' q s R' _ => l.nx env' σ F' H' q s R'
@[simp] def sRet (te : TD) : TDS := fun DD env => te env DD.rt
theorem ds_ret (he : DE X B e te) : DS X B (.Return (some e) pos) (sRet te) := by
  obtain ⟨ts, p, h⟩ := he.ex
  refine ⟨_, ps_ret p, fun F H σ env DD DH R ht l => ?_⟩
  exact h F H σ env _ _ R ht fun d env' v F' H' q s R' r => l.rt d env' v σ F' H' q s R' r
@[simp] def sRetN : TDS := fun DD env => DD.rt .non env
theorem ds_retN : DS X B (.Return none pos) sRetN := ⟨_, ps_retN, fun F H σ env DD DH R ht l => l.rt .non env .non σ F H ht (Same.refl _) R .non⟩
@[simp] def sIf (c : TDT) (t u : TDS) : TDS := fun DD env => c env fun b env1 => match b with
  | true => t DD env1
  | false => u DD env1
theorem ds_if {c : Expr} {a b : List Stmt} {tc : TDT} (hc : DT X B c tc) (ha : DSs X B a t) (hb : DSs X B b u) : DS X B (.If c a b pos) (sIf tc t u) := by
  obtain ⟨tcs, p, h⟩ := hc.ex
  obtain ⟨ts, p1, h1⟩ := ha.ex
  obtain ⟨us, p2, h2⟩ := hb.ex
  refine ⟨_, ps_if p p1 p2, fun F H σ env DD DH R ht l => ?_⟩
  refine h F H σ env _ _ R ht fun b env' F' H' q s R' => ?_
  cases b with
  | true => exact iteT (h1 F' H' σ env' _ _ R' q (l.mono s))
  | false => exact iteF (h2 F' H' σ env' _ _ R' q (l.mono s))
@[simp] def sNever : TDS := fun _ _ => False
theorem ds_never : DS X B st sNever := ⟨_, ps_never, fun _ _ _ _ _ _ _ h _ => h.elim⟩
theorem dss_never : DSs X B sts sNever := ⟨_, pss_never, fun _ _ _ _ _ _ _ h _ => h.elim⟩

/-! ### targets -/
@[simp] def gN (i : Nat) : TDG := fun d env Q => Q (env.set i (.val d))
theorem dg_name {i : Nat} {x : Str} (hN : X.N.Nodup) (hi : X.N[i]? = some x := by rfl) (hx : Loc X.env.scope x := by first | exact Or.inl rfl | exact Or.inr rfl) (hf : X.fn x = true ∨ X.env.scope.names.lookup x = some .local := by first | exact .inl rfl | exact .inr rfl | assumption) : DG X B (.Name x pos) [i] (gN i) := by
  refine ⟨_, pg_name (i := i) hN hi hx hf, fun F H σ env d v Q Q' R r ht k => ?_⟩
  refine k (env.set i (.val d)) (σ.set i (some v)) ht ⟨List.length_set, fun j n => ?_⟩ (R.set r i)
  exact List.getElem?_set_ne (fun e => n (by simp [e]))
@[simp] def gNilD : TDGs := fun ds env Q => ds = [] ∧ Q env
@[simp] def gConsD (t : TDG) (u : TDGs) : TDGs := fun ds env Q => match ds with
  | d :: r => t d env fun env1 => u r env1 Q
  | [] => False
theorem dgs_nil : DGs X B [] [] gNilD := by
  refine ⟨_, pgs_nil, fun F H σ env ds us Q Q' R r ht k => ?_⟩
  obtain ⟨rfl, ht⟩ := ht
  cases r
  exact ⟨rfl, k env σ ht .refl R⟩
theorem Chg.app {vs ws : List Nat} {σ σ1 σ2 : St} (h : Chg vs σ σ1) (k : Chg ws σ1 σ2) : Chg (vs ++ ws) σ σ2 :=
  ⟨k.1.trans h.1, fun i n => by
    rw [List.mem_append, not_or] at n
    exact (k.2 i n.2).trans (h.2 i n.1)⟩
theorem dgs_cons {es : List Expr} {vs ws : List Nat} {t : TDG} {u : TDGs} (h1 : DG X B e vs t) (h2 : DGs X B es ws u)
    (hs : (assignEach (e :: es) X.env).map (·.2) = assign e X.env :: (assignEach es X.env).map (·.2) := by rfl) : DGs X B (e :: es) (vs ++ ws) (gConsD t u) := by
  obtain ⟨g, p, h⟩ := h1.ex
  obtain ⟨g2, p2, h2⟩ := h2.ex
  refine ⟨_, pgs_cons p p2 hs, fun F H σ env ds us Q Q' R r ht k => ?_⟩
  cases r with
  | nil => exact ht.elim
  | cons r rr =>
    refine ⟨_, _, rfl, ?_⟩
    refine h F H σ env _ _ _ _ R r ht fun env1 σ1 q1 c1 R1 => ?_
    exact h2 F H σ1 env1 _ _ _ _ R1 rr q1 fun env2 σ2 q2 c2 R2 => k env2 σ2 q2 (c1.app c2) R2
@[simp] def gTupD (n : Nat) (t : TDGs) : TDG := fun d env Q => match d with
  | .tup ds => ds.length = n ∧ t ds env Q
  | _ => False
theorem dg_tup {es : List Expr} {k : Nat} {t : TDGs} {n : Nat} {vs : List Nat} (hc : X.calm = true) (h : DGs X B es vs t)
    (hn : (assignEach es X.env).length = n := by rfl) (hst : (assignEach es X.env).findIdx? (·.1) = none := by rfl) : DG X B (.Tuple es k pos) vs (gTupD n t) := by
  obtain ⟨g, p, h⟩ := h.ex
  refine ⟨_, pg_tup hc p hn hst, fun F H σ env d v Q Q' R r ht kk => ?_⟩
  cases r with
  | tup q ra => exact ⟨_, _, rfl, same_sqT R.sub q, ra.length.trans ht.1, h F H σ env _ _ _ _ R ra ht.2 kk⟩
  | _ => exact ht.elim
@[simp] def sAsg (te : TD) (g : TDG) : TDS := fun DD env => te env fun d env1 => g d env1 DD.nx
theorem ds_asg {tg : Expr} {g : TDG} {vs : List Nat} (he : DE X B e te) (hg : DG X B tg vs g) (hs : swapsWithSole [tg] e pos.line X.env = pure false := by rfl) (hw : swappedStores [tg] e X.env = pure none := by rfl)
    (h1 : (assignEach [tg] X.env).map (·.2) = [assign tg X.env] := by rfl) : DS X B (.Assign [tg] e pos) (sAsg te g) := by
  obtain ⟨ts, p, h⟩ := he.ex
  obtain ⟨gs, p2, h2⟩ := hg.ex
  refine ⟨_, ps_asg p p2 hs hw h1, fun F H σ env DD DH R ht l => ?_⟩
  refine h F H σ env _ _ R ht fun d env1 v F1 H1 q s1 R1 r1 => ?_
  exact h2 F1 H1 σ env1 d v _ _ R1 r1 q fun env2 σ2 q2 _ R2 => l.nx env2 σ2 F1 H1 q2 s1 R2
theorem ds_set {i : Nat} {x : Str} {pos' : Pos} (hN : X.N.Nodup) (he : DE X B e te) (hi : X.N[i]? = some x := by rfl) (hx : Loc X.env.scope x := by first | exact Or.inl rfl | exact Or.inr rfl) (hs : swapsWith e (some (.Name x pos')) pos.line X.env = pure false := by rfl) (hf : X.fn x = true ∨ X.env.scope.names.lookup x = some .local := by first | exact .inl rfl | exact .inr rfl | assumption) :
    DS X B (.Assign [.Name x pos'] e pos) (sAsg te (gN i)) := by
  obtain ⟨ts, p, h⟩ := he.ex
  refine ⟨_, ps_set (i := i) hN hi hx p hs hf, fun F H σ env DD DH R ht l => ?_⟩
  refine h F H σ env _ _ R ht fun d env1 v F1 H1 q s1 R1 r1 => ?_
  exact l.nx _ _ F1 H1 q s1 (R1.set r1 i)

/-! ### what a loop goes through -/
abbrev TDI := DEnv → (List D → DEnv → Prop) → Prop
def IterOk (K : PySem.W.Frag) (J : It) (ds : List D) (F0 : Hp) : Prop :=
  ∀ (F H : Hp) (i : Nat), Same F0 F → Same F H → (i = ds.length → J.stop i H) ∧ ∀ d, ds[i]? = some d → J.go i H ∧ ∀ x H', J.yld i H x H' → ∃ F', Stp F H F' H' ∧ Rp K F' x d
structure DI (X : Cx) (B : Bd) (tg iter : Expr) (t : TDI) : Prop where
  ex : ∃ wi, PI X tg iter wi ∧ ∀ (F H : Hp) (σ : St) (env : DEnv) (Q : List D → DEnv → Prop) (R' : It → Hp → Prop), Rep X.K B F H σ env → t env Q →
    (∀ ds env' J F' H', Q ds env' → Same F F' → Rep X.K B F' H' σ env' → IterOk X.K J ds F' → R' J H') → wi σ H R'
def forL0 (body : D → TDS) : List D → TDS
  | [], DD, env => DD.nx env
  | d :: r, DD, env => body d { nx := forL0 body r DD, ct := forL0 body r DD, bk := DD.nx, rt := DD.rt } env
@[irreducible] def forL (body : D → TDS) : List D → TDS := forL0 body
theorem forL_nil (body : D → TDS) (DD : DEnds) (env : DEnv) : forL body [] DD env = DD.nx env := by unfold forL; rfl
theorem forL_cons (body : D → TDS) (d : D) (r : List D) (DD : DEnds) (env : DEnv) : forL body (d :: r) DD env = body d { nx := forL body r DD, ct := forL body r DD, bk := DD.nx, rt := DD.rt } env := by unfold forL; rfl
@[simp] def sFor (ti : TDI) (g : TDG) (tb : TDS) : TDS := fun DD env => ti env fun ds env1 => forL (fun d DD env => g d env fun env2 => tb DD env2) ds DD env1
theorem ds_for {tg iter : Expr} {body : List Stmt} {ti : TDI} {g : TDG} {tb : TDS} {vs : List Nat} (hp : PassesOwn (model X.prog X.w) X.A X.env X.xe) (hc : X.calm = true) (hi : DI X B tg iter ti) (hg : DG X B tg vs g) (hb : DSs X B body tb)
    (hs : ∀ x, foldedSetIterable iter X.env x = pure x := by intro _; rfl) : DS X B (.For tg iter body [] pos) (sFor ti g tb) := by
  obtain ⟨wi, p, h⟩ := hi.ex
  obtain ⟨gs, p2, h2⟩ := hg.ex
  obtain ⟨ts, p3, h3⟩ := hb.ex
  refine ⟨_, ps_for hp hc p p2 p3 hs, fun F H σ env DD DH R ht l => ?_⟩
  refine h F H σ env _ _ R ht fun ds env1 J F1 H1 q s1 R1 io => ?_
  have l1 := l.mono s1
  refine ⟨fun i m σ H => ∃ F env, Same F1 F ∧ Rep X.K B F H σ env ∧ forL (fun d DD env => g d env fun env2 => tb DD env2) (ds.drop i) DD env ∧ m = ds.length - i ∧ i ≤ ds.length,
    ⟨ds.length, F1, env1, Same.refl _, R1, by simpa using q, by simp, Nat.zero_le _⟩, ?_⟩
  rintro i m σ3 H3 ⟨F3, env3, s3, R3, q3, rfl, hle⟩
  obtain ⟨i1, i2⟩ := io F3 H3 i s3 R3.sub
  by_cases hlt : i < ds.length
  · have hd : ds[i]? = some ds[i] := List.getElem?_eq_getElem hlt
    obtain ⟨go, yl⟩ := i2 _ hd
    rw [List.drop_eq_getElem_cons hlt, forL_cons] at q3
    refine .inr ⟨go, fun σ H => ∃ F env, Same F1 F ∧ Rep X.K B F H σ env ∧ forL (fun d DD env => g d env fun env2 => tb DD env2) (ds.drop (i + 1)) DD env, ?_, ?_⟩
    · rintro σ' H' ⟨F', env', s', R', q'⟩
      exact ⟨ds.length - (i + 1), by omega, F', env', s', R', q', rfl, hlt⟩
    · intro x H4 y4
      obtain ⟨F4, st4, r4⟩ := yl x H4 y4
      have R4 := R3.stp st4
      have s4 := s3.trans (st4.same R3.sub)
      refine h2 F4 H4 σ3 env3 _ x _ _ R4 r4 q3 fun env5 σ5 q5 _ R5 => ?_
      refine h3 F4 H4 σ5 env5 _ _ R5 q5 ⟨?_, fun d env' v σ' F' H' q s R' r' => l1.rt d env' v σ' F' H' q (s4.trans s) R' r', fun env' σ' F' H' q s R' => l1.nx env' σ' F' H' q (s4.trans s) R', ?_⟩
      · exact fun env' σ' F' H' q s R' => ⟨F', env', s4.trans s, R', q⟩
      · exact fun env' σ' F' H' q s R' => ⟨F', env', s4.trans s, R', q⟩
  · have e : i = ds.length := by omega
    refine .inl ⟨i1 e, ?_⟩
    rw [e, List.drop_length, forL_nil] at q3
    exact l1.nx env3 σ3 F3 H3 q3 s3 R3
/-- by what holds and a number that falls -/
def sWhile (tc : TDT) (tb : TDS) : TDS := fun DD env => ∃ W : Nat → DEnv → Prop, (∃ m, W m env) ∧ ∀ m env, W m env → tc env fun b env1 => match b with
  | true => tb { nx := fun e => ∃ m', m' < m ∧ W m' e, ct := fun e => ∃ m', m' < m ∧ W m' e, bk := DD.nx, rt := DD.rt } env1
  | false => DD.nx env1
theorem ds_while {c : Expr} {body : List Stmt} {tc : TDT} {tb : TDS} (hp : PassesOwn (model X.prog X.w) X.A X.env X.xe) (hc : DT X B c tc) (hb : DSs X B body tb) : DS X B (.While c body [] pos) (sWhile tc tb) := by
  obtain ⟨tcs, p, h⟩ := hc.ex
  obtain ⟨ts, p3, h3⟩ := hb.ex
  refine ⟨_, ps_while hp p p3, fun F H σ env DD DH R ht l => ?_⟩
  obtain ⟨W, ⟨m0, w0⟩, turn⟩ := ht
  refine ⟨fun m σ H => ∃ F' env, Same F F' ∧ Rep X.K B F' H σ env ∧ W m env, ⟨m0, F, env, Same.refl _, R, w0⟩, ?_⟩
  rintro m σ1 H1 ⟨F1, env1, s1, R1, w1⟩
  refine h F1 H1 σ1 env1 _ _ R1 (turn m env1 w1) fun b env2 F2 H2 q2 s2 R2 => ?_
  cases b with
  | true =>
    refine iteT ⟨fun σ H => ∃ m' F' env, m' < m ∧ Same F F' ∧ Rep X.K B F' H σ env ∧ W m' env, ?_, ?_⟩
    · rintro σ' H' ⟨m', F', env', hm, s', R', w'⟩
      exact ⟨m', hm, F', env', s', R', w'⟩
    · refine h3 F2 H2 σ1 env2 _ _ R2 q2 ⟨?_, fun d env' v σ' F' H' q s R' r' => l.rt d env' v σ' F' H' q ((s1.trans s2).trans s) R' r', fun env' σ' F' H' q s R' => l.nx env' σ' F' H' q ((s1.trans s2).trans s) R', ?_⟩
      · rintro env' σ' F' H' ⟨m', hm, w'⟩ s R'
        exact ⟨m', F', env', hm, (s1.trans s2).trans s, R', w'⟩
      · rintro env' σ' F' H' ⟨m', hm, w'⟩ s R'
        exact ⟨m', F', env', hm, (s1.trans s2).trans s, R', w'⟩
  | false => exact iteF (l.nx env2 σ1 F2 H2 q2 (s1.trans s2) R2)
/-- lists, tuples -/
@[simp] def qSeqI (t : TD) : TDI := fun env Q => t env fun d env1 => match d with
  | .lst ds => Q ds env1
  | .scr ds => Q ds env1
  | _ => False
@[simp] def qTupI (t : TD) : TDI := fun env Q => t env fun d env1 => match d with
  | .tup ds => Q ds env1
  | _ => False
theorem di_list {tg l : Expr} {t : TD} (hl : DE X B l t) : DI X B tg l (qSeqI t) := by
  obtain ⟨ts, p, h⟩ := hl.ex
  refine ⟨_, pi_list p, fun F H σ env Q R' R ht k => ?_⟩
  refine h F H σ env _ _ R ht fun d env1 v F1 H1 q1 s1 R1 r1 => ?_
  have key : ∀ {a : Addr} {vs : List V} {ds : List D}, SqL X.K F1 a vs → RpA X.K F1 vs ds → Q ds env1 → ∃ a', V.ref a = V.ref a' ∧ (∃ xs, SqL X.K H1 a' xs) ∧ R' (Itl X.K a') H1 := by
    intro a vs ds hs ra q1
    refine ⟨a, rfl, ⟨vs, R1.sub.seq hs⟩, k _ env1 _ F1 H1 q1 s1 R1 fun F H i s0 sH => ?_⟩
    have hq := sH.seq (s0.seq hs)
    refine ⟨fun e => ⟨vs, hq, by rw [ra.length, e]; exact Nat.le_refl _⟩, fun d e => ?_⟩
    obtain ⟨v, hv, rv⟩ := ra.get e
    refine ⟨⟨vs, v, hq, hv⟩, ?_⟩
    rintro x H' ⟨rfl, y⟩
    have := y vs hq
    rw [hv] at this; cases this
    exact ⟨F, .nil, rv.mono s0⟩
  cases r1 with
  | lst hs ra => exact key (.of hs) ra q1
  | scr hs ra => exact key hs ra q1
  | _ => exact q1.elim
theorem di_tup {tg l : Expr} {t : TD} (hl : DE X B l t) : DI X B tg l (qTupI t) := by
  obtain ⟨ts, p, h⟩ := hl.ex
  refine ⟨_, pi_tup p, fun F H σ env Q R' R ht k => ?_⟩
  refine h F H σ env _ _ R ht fun d env1 v F1 H1 q1 s1 R1 r1 => ?_
  cases r1 with
  | @tup a vs ds hs ra =>
    refine ⟨a, rfl, ⟨vs, same_sqT R1.sub hs⟩, k _ env1 _ F1 H1 q1 s1 R1 fun F H i s0 sH => ?_⟩
    have hq := same_sqT sH (same_sqT s0 hs)
    refine ⟨fun e => ⟨vs, hq, by rw [ra.length, e]; exact Nat.le_refl _⟩, fun d e => ?_⟩
    obtain ⟨v, hv, rv⟩ := ra.get e
    refine ⟨⟨vs, v, hq, hv⟩, ?_⟩
    rintro x H' ⟨rfl, y⟩
    have := y vs hq
    rw [hv] at this; cases this
    exact ⟨F, .nil, rv.mono s0⟩
  | _ => exact q1.elim
def rgD (lo : Int) (n : Nat) : List D := (List.range n).map fun (i : Nat) => D.int (lo + (i : Int))
theorem rgD_get {lo : Int} {n i : Nat} : (rgD lo n)[i]? = if i < n then some (D.int (lo + i)) else none := by
  unfold rgD
  rw [List.getElem?_map]
  by_cases h : i < n
  · rw [List.getElem?_range h, if_pos h]; rfl
  · rw [List.getElem?_eq_none (by simpa using Nat.le_of_not_lt h), if_neg h]; rfl
theorem rgD_len {lo : Int} {n : Nat} : (rgD lo n).length = n := by unfold rgD; simp
theorem iter_range {K : PySem.W.Frag} {lo : Int} {n : Nat} {F0 : Hp} : IterOk K (Itr lo n) (rgD lo n) F0 := fun F H i s0 sH => by
  refine ⟨fun e => by rw [rgD_len] at e; exact Nat.le_of_eq e.symm, fun d e => ?_⟩
  rw [rgD_get] at e
  by_cases h : i < n
  · rw [if_pos h] at e; cases e
    refine ⟨h, ?_⟩
    rintro x H' ⟨rfl, rfl⟩
    exact ⟨F, .nil, .int _⟩
  · rw [if_neg h] at e; cases e
@[simp] def SmallR (i : Int) : Prop := -(2 ^ 62) ≤ i ∧ i < 2 ^ 62
@[simp] def qRg1 (tr : TDA) : TDI := fun env Q => tr env fun ds env1 => match ds with
  | [.int j] => SmallR j ∧ Q (rgD 0 j.toNat) env1
  | _ => False
@[simp] def qRg2 (tr : TDA) : TDI := fun env Q => tr env fun ds env1 => match ds with
  | [.int i, .int j] => SmallR i ∧ SmallR j ∧ Q (rgD i (j - i).toNat) env1
  | _ => False
theorem RpA.int1 {K : PySem.W.Frag} {F : Hp} {vs : List V} {i : Int} (r : RpA K F vs [.int i]) : vs = [.int i] := by
  cases r with
  | cons r rr => cases rr; cases r; rfl
theorem RpA.int2 {K : PySem.W.Frag} {F : Hp} {vs : List V} {i j : Int} (r : RpA K F vs [.int i, .int j]) : vs = [.int i, .int j] := by
  cases r with
  | cons r rr => cases r; rw [rr.int1]
theorem di_range1 {tg a : Expr} {tr : TDA} {p : Pos} (hg : Gl X "range") (hm : X.mg "range" = none) (ha : DA X B [a] tr) (hs : starEach [a] X.env = [(false, eval a X.env)] := by rfl) : DI X B tg (.Call (.Name "range" p) [a] [] pos) (qRg1 tr) := by
  obtain ⟨ts, q, h⟩ := ha.ex
  refine ⟨_, pi_range1 hg hm q hs, fun F H σ env Q R' R ht k => ?_⟩
  refine h F H σ env _ _ R ht fun ds env1 vs F1 H1 q1 s1 R1 r1 => ?_
  split at q1
  · obtain ⟨⟨h1, h2⟩, q1⟩ := q1
    exact ⟨_, r1.int1, h1, h2, k _ env1 _ F1 H1 q1 s1 R1 iter_range⟩
  · exact q1.elim
theorem di_range2 {tg a b : Expr} {tr : TDA} {p : Pos} (hg : Gl X "range") (hm : X.mg "range" = none) (ha : DA X B [a, b] tr) (hs : starEach [a, b] X.env = [(false, eval a X.env), (false, eval b X.env)] := by rfl) (hs2 : starEach [b] X.env = [(false, eval b X.env)] := by rfl) :
    DI X B tg (.Call (.Name "range" p) [a, b] [] pos) (qRg2 tr) := by
  obtain ⟨ts, q, h⟩ := ha.ex
  refine ⟨_, pi_range2 hg hm q hs hs2, fun F H σ env Q R' R ht k => ?_⟩
  refine h F H σ env _ _ R ht fun ds env1 vs F1 H1 q1 s1 R1 r1 => ?_
  split at q1
  · obtain ⟨⟨h1, h2⟩, ⟨h3, h4⟩, q1⟩ := q1
    exact ⟨_, _, r1.int2, ⟨h1, h2, h3, h4⟩, k _ env1 _ F1 H1 q1 s1 R1 iter_range⟩
  · exact q1.elim
end
end L2.DL

namespace L2.DL
open PySem PySem.Spec PyProof.Rows

@[simp] def OC.frz : OC → D
  | .lst xs => .lst xs
  | .dct kvs => .dct kvs
def Apart (p : Addr) (σ : St) (env : DEnv) : Prop := ∀ (i : Nat) (c : Cell), env[i]? = some c → c.isOwn = true → σ[i]? ≠ some (some (.ref p))
section
variable {K : PySem.W.Frag} {B : Bd} {F F' H H' : Hp} {σ : St} {env : DEnv} {v : V} {d : D} {i : Nat} {c : OC} {p : Addr}
theorem Rep.newp (R : Rep K B F H σ env) (h : H p = none) : F p = none ∧ B.H0 p = none ∧ B.P p = none ∧ Apart p σ env := by
  refine ⟨R.freeF h, ?_, R.pin.free h, fun i c e w q => ?_⟩
  · cases z : B.H0 p with
    | none => rfl
    | some o =>
      by_cases m : B.M p
      · exact absurd h (R.mh p m)
      · rw [R.fix p o z m] at h; cases h
  · obtain ⟨a, e1, _, e3, _⟩ := (R.cells i c e).own_addr w
    rw [q] at e1; cases e1
    exact e3 h
/-- an object of one's own becomes data -/
theorem Rep.keepF (R : Rep K B F H σ env) {o : HO} (hH : H p = some o) (hF : F p = none) (h0 : B.H0 p = none) (hP : B.P p = none) (ap : Apart p σ env) : Rep K B (upd F p o) H σ env where
  len := R.len
  sub := fun b x e => by
    by_cases q : b = p
    · subst q; rw [upd_same] at e; rw [hH]; exact e
    · rw [upd_ne q] at e; exact R.sub _ _ e
  fix := R.fix
  gro := R.gro.trans (same_upd hF)
  new := fun b e n => by
    by_cases q : b = p
    · subst q; exact h0
    · rw [upd_ne q] at n; exact R.new b e n
  mf := fun b m => by
    have q : b ≠ p := fun q => by subst q; exact R.m0 b m h0
    rw [upd_ne q]; exact R.mf b m
  mh := R.mh
  m0 := R.m0
  pin := R.pin
  mp := R.mp
  pf := fun b x e => by
    have q : b ≠ p := fun q => by subst q; rw [hP] at e; cases e
    rw [upd_ne q]; exact R.pf b x e
  cells := fun j c e => (R.cells j c e).mono (same_upd hF) fun w a s n f => ⟨rfl, by
    have q : a ≠ p := fun q => by subst q; exact ap j c e w s
    rw [upd_ne q]; exact f⟩
  dis := R.dis
theorem OcOk.rp (h : OcOk K F H p c) (hF : F p = none) : ∃ o, H p = some o ∧ Rp K (upd F p o) (.ref p) c.frz := by
  cases c with
  | lst xs => obtain ⟨vs, h1, h2⟩ := h; exact ⟨_, h1, .lst upd_same (h2.mono (same_upd hF))⟩
  | dct xs => obtain ⟨vs, h1, h2⟩ := h; exact ⟨_, h1, .dct upd_same (h2.mono (same_upd hF))⟩
theorem Rep.setCell (R : Rep K B F H σ env) {cl : Cell} (i : Nat) (hc : i < env.length → CellOk K B F H (some (some v)) i cl) (hd : cl.isOwn = true → ∀ a, v = .ref a → ∀ (j : Nat) (c : Cell), j ≠ i → env[j]? = some c → c.isOwn = true → σ[j]? ≠ some (some (.ref a))) :
    Rep K B F H (σ.set i (some v)) (env.set i cl) where
  len := by rw [List.length_set, List.length_set]; exact R.len
  sub := R.sub
  fix := R.fix
  gro := R.gro
  new := R.new
  mf := R.mf
  mh := R.mh
  m0 := R.m0
  pin := R.pin
  mp := R.mp
  pf := R.pf
  cells := fun j c e => by
    by_cases q : i = j
    · subst q
      have hl : i < env.length := by
        have := (List.getElem?_eq_some_iff.mp e).1
        rw [List.length_set] at this; exact this
      rw [List.getElem?_set_self hl] at e
      cases e
      rw [List.getElem?_set_self (by rw [← R.len]; exact hl)]
      exact hc hl
    · rw [List.getElem?_set_ne q] at e ⊢
      exact R.cells j c e
  dis := fun j k a c c' e1 e2 w1 w2 s1 s2 => by
    have at_i : ∀ {j : Nat} {c : Cell}, i = j → (env.set i cl)[j]? = some c → (σ.set i (some v))[j]? = some (some (.ref a)) → c = cl ∧ v = .ref a := by
      intro j c q e s
      subst q
      have hl : i < env.length := by
        have := (List.getElem?_eq_some_iff.mp e).1
        rw [List.length_set] at this; exact this
      rw [List.getElem?_set_self hl] at e
      rw [List.getElem?_set_self (by rw [← R.len]; exact hl)] at s
      cases e; cases s; exact ⟨rfl, rfl⟩
    by_cases q : i = j
    · by_cases q' : i = k
      · exact q.symm.trans q'
      · obtain ⟨rfl, rfl⟩ := at_i q e1 s1
        rw [List.getElem?_set_ne q'] at e2 s2
        exact absurd s2 (hd w1 a rfl k c' (Ne.symm q') e2 w2)
    · by_cases q' : i = k
      · obtain ⟨rfl, rfl⟩ := at_i q' e2 s2
        rw [List.getElem?_set_ne q] at e1 s1
        exact absurd s1 (hd w2 a rfl j c (Ne.symm q) e1 w1)
      · rw [List.getElem?_set_ne q] at e1 s1
        rw [List.getElem?_set_ne q'] at e2 s2
        exact R.dis j k a c c' e1 e2 w1 w2 s1 s2
theorem Rep.setOwn (R : Rep K B F H σ env) (i : Nat) (h : OcOk K F H p c) (hF : F p = none) (h0 : B.H0 p = none) (hP : B.P p = none) (ap : Apart p σ env) : Rep K B F H (σ.set i (some (.ref p))) (env.set i (.own true c)) :=
  R.setCell i (fun _ => ⟨p, rfl, h, hF, hP, by simpa using h0⟩) fun _ a e j cl _ ej w => by cases e; exact ap j cl ej w
theorem set_id {α : Type} {l : List α} {i : Nat} {x : α} (h : l[i]? = some x) : l.set i x = l := by
  apply List.ext_getElem?
  intro j
  by_cases q : i = j
  · subst q
    rw [List.getElem?_set_self (List.getElem?_eq_some_iff.mp h).1, h]
  · rw [List.getElem?_set_ne q]
/-- a name's own object becomes data -/
theorem Rep.freezeAt (R : Rep K B F H σ env) (e : env[i]? = some (.own true c)) : ∃ F', Same F F' ∧ Rep K B F' H σ (env.set i (.val c.frz)) := by
  obtain ⟨a, s, h, hF, hP, h0⟩ := R.cells i _ e
  have h0 : B.H0 a = none := by simpa using h0
  obtain ⟨o, hH, r⟩ := h.rp hF
  have R1 : Rep K B F H σ (env.set i .none) := R.weak (by simp) fun j cl q => by
    by_cases w : i = j
    · subst w
      rw [List.getElem?_set_self (List.getElem?_eq_some_iff.mp e).1] at q
      cases q; exact .inr rfl
    · rw [List.getElem?_set_ne w] at q; exact .inl q
  have R2 := R1.keepF hH hF h0 hP fun j cl q w z => by
    by_cases y : i = j
    · subst y
      rw [List.getElem?_set_self (List.getElem?_eq_some_iff.mp e).1] at q
      cases q; cases w
    · rw [List.getElem?_set_ne y] at q
      exact y (R.dis i j a _ _ e q rfl w s z)
  refine ⟨upd F a o, same_upd hF, ?_⟩
  have R3 := R2.set r i
  rw [List.set_set, set_id s] at R3
  exact R3
/-- a name's own object changes -/
theorem Rep.writeAt (R : Rep K B F H σ env) {fr : Bool} {c c' : OC} {a : Addr} {o : HO} (e : env[i]? = some (.own fr c)) (s : σ[i]? = some (some (.ref a))) (h : OcOk K F (upd H a o) a c') : Rep K B F (upd H a o) σ (env.set i (.own fr c')) := by
  obtain ⟨a', s', hc, hF, hP, h0⟩ := R.cells i _ e
  rw [s] at s'; cases s'
  have sub : Same F (upd H a o) := fun b x q => by
    have : b ≠ a := fun z => by subst z; rw [hF] at q; cases q
    rw [upd_ne this]; exact R.sub _ _ q
  have R1 : Rep K B F (upd H a o) σ (env.set i .none) := by
    refine ⟨by rw [List.length_set]; exact R.len, sub, fun b x q m => ?_, R.gro, R.new, R.mf, fun b m => ?_, R.m0, fun b x q => ?_, R.mp, R.pf, fun j cl q => ?_, ?_⟩
    · have : b ≠ a := fun z => by
        subst z
        cases fr with
        | true => have : B.H0 b = none := by simpa using h0
                  rw [this] at q; cases q
        | false => exact m (by simpa using h0.1)
      rw [upd_ne this]; exact R.fix b x q m
    · by_cases z : b = a
      · subst z; rw [upd_same]; simp
      · rw [upd_ne z]; exact R.mh b m
    · have : b ≠ a := fun z => by subst z; rw [hP] at q; cases q
      rw [upd_ne this]; exact R.pin _ _ q
    · by_cases w : i = j
      · subst w
        rw [List.getElem?_set_self (List.getElem?_eq_some_iff.mp e).1] at q
        cases q; trivial
      · rw [List.getElem?_set_ne w] at q
        refine (R.cells j cl q).mono (Same.refl _) fun w' b s' n f => ⟨?_, f⟩
        have : b ≠ a := fun z => by subst z; exact w (R.dis i j b _ _ e q rfl w' s s')
        rw [upd_ne this]
    · intro j k b cl cl' e1 e2 w1 w2 s1 s2
      have n1 : i ≠ j := fun z => by
        subst z
        rw [List.getElem?_set_self (List.getElem?_eq_some_iff.mp e).1] at e1
        cases e1; cases w1
      have n2 : i ≠ k := fun z => by
        subst z
        rw [List.getElem?_set_self (List.getElem?_eq_some_iff.mp e).1] at e2
        cases e2; cases w2
      rw [List.getElem?_set_ne n1] at e1
      rw [List.getElem?_set_ne n2] at e2
      exact R.dis j k b _ _ e1 e2 w1 w2 s1 s2
  have R2 := R1.setCell (v := .ref a) (cl := .own fr c') i (fun _ => ⟨a, rfl, h, hF, hP, h0⟩) fun _ b eb j cl nj ej w z => by
    cases eb
    rw [List.getElem?_set_ne (Ne.symm nj)] at ej
    exact nj (R.dis j i a _ _ ej e w rfl z s)
  rw [List.set_set, set_id s] at R2
  exact R2
end

/-! ### what makes a new list or dict -/
abbrev TDF := DEnv → (OC → DEnv → Prop) → Prop
structure DF (X : Cx) (B : Bd) (e : Expr) (t : TDF) : Prop where
  ex : ∃ te, PE X e te ∧ ∀ (F H : Hp) (σ : St) (env : DEnv) (Q : OC → DEnv → Prop) (Q' : VK), Rep X.K B F H σ env → t env Q →
    (∀ c env' p F' H', Q c env' → Same F F' → Rep X.K B F' H' σ env' → OcOk X.K F' H' p c → F' p = none → B.H0 p = none → B.P p = none → Apart p σ env' → Q' (.ref p) H') → te σ H Q'
section
variable {X : Cx} {B : Bd} {e a b c : Expr} {ta tb tc te : TD} {pos : Pos} {st : Stmt} {rest sts : List Stmt} {t u : TDS} {tf : TDF} {es : List Expr} {tr : TDA}
@[simp] def qFz (t : TDF) : TD := fun env Q => t env fun c env1 => Q c.frz env1
theorem DF.de (h : DF X B e tf) : DE X B e (qFz tf) := by
  obtain ⟨te, p, h⟩ := h.ex
  refine ⟨te, p, fun F H σ env Q Q' R ht k => ?_⟩
  refine h F H σ env _ _ R ht fun c env' p F' H' q s R' oc hF h0 hP ap => ?_
  obtain ⟨o, hH, r⟩ := oc.rp hF
  exact k _ env' _ _ _ q (s.trans (same_upd hF)) (R'.keepF hH hF h0 hP ap) r
@[simp] def fLst (tr : TDA) : TDF := fun env Q => tr env fun ds env1 => ds.length ≤ sizeLine ∧ Q (.lst ds) env1
theorem df_lst (h : DA X B es tr) : DF X B (.List es pos) (fLst tr) := by
  obtain ⟨te, p, h⟩ := h.ex
  refine ⟨_, pe_lst p, fun F H σ env Q Q' R ht k => ?_⟩
  refine h F H σ env _ _ R ht fun ds env1 vs F1 H1 q1 s1 R1 r1 => ?_
  refine ⟨by rw [r1.length]; exact q1.1, fun p hp => ?_⟩
  obtain ⟨n1, n2, n4, n3⟩ := R1.newp hp
  exact k _ env1 p F1 _ q1.2 s1 (R1.junk hp) ⟨vs, upd_same, r1⟩ n1 n2 n4 n3
/-- a new object of one's own gets a name -/
@[simp] def sOwn (i : Nat) (tf : TDF) : TDS := fun DD env => tf env fun c env1 => DD.nx (env1.set i (.own true c))
theorem ds_own {i : Nat} {x : Str} {pos' : Pos} (hN : X.N.Nodup) (he : DF X B e tf) (hi : X.N[i]? = some x := by rfl) (hx : Loc X.env.scope x := by first | exact Or.inl rfl | exact Or.inr rfl) (hs : swapsWith e (some (.Name x pos')) pos.line X.env = pure false := by rfl) (hf : X.fn x = true ∨ X.env.scope.names.lookup x = some .local := by first | exact .inl rfl | exact .inr rfl | assumption) :
    DS X B (.Assign [.Name x pos'] e pos) (sOwn i tf) := by
  obtain ⟨ts, p, h⟩ := he.ex
  refine ⟨_, ps_set (i := i) hN hi hx p hs hf, fun F H σ env DD DH R ht l => ?_⟩
  refine h F H σ env _ _ R ht fun c env1 p F1 H1 q s1 R1 oc hF h0 hP ap => ?_
  exact l.nx _ _ F1 H1 q s1 (R1.setOwn i oc hF h0 hP ap)
/-- (no step of the program) a name's own object becomes data -/
@[simp] def sFz (i : Nat) (t : TDS) : TDS := fun DD env => match env[i]? with
  | some (.own true c) => t DD (env.set i (.val c.frz))
  | _ => False
theorem fz_run {ts : TS} {i : Nat} {K : PySem.W.Frag} (h : ∀ (F H : Hp) (σ : St) (env : DEnv) (DD : DEnds) (DH : Ends), Rep K B F H σ env → t DD env → Lk K B F DD DH → ts DH σ H) :
    ∀ (F H : Hp) (σ : St) (env : DEnv) (DD : DEnds) (DH : Ends), Rep K B F H σ env → sFz i t DD env → Lk K B F DD DH → ts DH σ H := by
  intro F H σ env DD DH R ht l
  unfold sFz at ht
  split at ht
  · rename_i c e
    obtain ⟨F', s, R'⟩ := R.freezeAt e
    exact h F' H σ _ DD DH R' ht (l.mono s)
  · exact ht.elim
theorem dss_fz (i : Nat) (h : DSs X B sts t) : DSs X B sts (sFz i t) := by
  obtain ⟨ts, p, h⟩ := h.ex
  exact ⟨ts, p, fz_run h⟩
theorem ds_fz (i : Nat) (h : DS X B st t) : DS X B st (sFz i t) := by
  obtain ⟨ts, p, h⟩ := h.ex
  exact ⟨ts, p, fz_run h⟩
/-- (no step) what is only known in part is opened -/
@[simp] def sOp (i : Nat) (t : TDS) : TDS := fun DD env => match env[i]? with
  | some (.opq fr φ) => ∀ c, φ c → t DD (env.set i (.own fr c))
  | _ => False
theorem Rep.openAt {K : PySem.W.Frag} {F H : Hp} {σ : St} {env : DEnv} {i : Nat} {fr : Bool} {φ : OC → Prop} (R : Rep K B F H σ env) (e : env[i]? = some (.opq fr φ)) : ∃ c, φ c ∧ Rep K B F H σ (env.set i (.own fr c)) := by
  obtain ⟨c, hc, ok⟩ := R.cells i _ e
  obtain ⟨a, s, _⟩ := id ok
  refine ⟨c, hc, ?_⟩
  have R2 := R.setCell (v := .ref a) (cl := .own fr c) i (fun _ => by rw [← s]; exact ok) fun _ b eb j cl nj ej w z => by
    cases eb
    exact nj (R.dis j i a _ _ ej e w rfl z s)
  rw [set_id s] at R2
  exact R2
theorem dss_op (i : Nat) (h : DSs X B sts t) : DSs X B sts (sOp i t) := by
  obtain ⟨ts, p, h⟩ := h.ex
  refine ⟨ts, p, fun F H σ env DD DH R ht l => ?_⟩
  unfold sOp at ht
  split at ht
  · rename_i fr φ e
    obtain ⟨c, hc, R'⟩ := R.openAt e
    exact h F H σ _ DD DH R' (ht c hc) l
  · exact ht.elim

/-- (no step) of one's own object no more is kept than what φ says -/
@[simp] def sCl (i : Nat) (φ : OC → Prop) (t : TDS) : TDS := fun DD env => match env[i]? with
  | some (.own fr c) => φ c ∧ t DD (env.set i (.opq fr φ))
  | _ => False
theorem Rep.closeAt {K : PySem.W.Frag} {F H : Hp} {σ : St} {env : DEnv} {i : Nat} {fr : Bool} {c : OC} {φ : OC → Prop} (R : Rep K B F H σ env) (e : env[i]? = some (.own fr c)) (hc : φ c) : Rep K B F H σ (env.set i (.opq fr φ)) := by
  have ok : OwnOk K B F H σ[i]? i fr c := R.cells i _ e
  obtain ⟨a, s, _⟩ := id ok
  have R2 := R.setCell (v := .ref a) (cl := .opq fr φ) i (fun _ => ⟨c, hc, by rw [← s]; exact ok⟩) fun _ b eb j cl nj ej w z => by
    cases eb
    exact nj (R.dis j i a _ _ ej e w rfl z s)
  rw [set_id s] at R2
  exact R2
theorem dss_cl (i : Nat) (φ : OC → Prop) (h : DSs X B sts t) : DSs X B sts (sCl i φ t) := by
  obtain ⟨ts, p, h⟩ := h.ex
  refine ⟨ts, p, fun F H σ env DD DH R ht l => ?_⟩
  unfold sCl at ht
  split at ht
  · rename_i fr c e
    exact h F H σ _ DD DH (R.closeAt e ht.1) ht.2 l
  · exact ht.elim

/-! ### one's own list: append, pop, items stored -/
@[simp] def ownL (env : DEnv) (i : Nat) (k : Bool → List D → Prop) : Prop := match env[i]? with
  | some (.own fr (.lst xs)) => k fr xs
  | _ => False
theorem ownL_of {env : DEnv} {i : Nat} {k : Bool → List D → Prop} (h : ownL env i k) : ∃ fr xs, env[i]? = some (.own fr (.lst xs)) ∧ k fr xs := by
  unfold ownL at h
  split at h
  · rename_i fr xs e
    exact ⟨fr, xs, e, h⟩
  · exact h.elim
@[simp] def sApp (i : Nat) (te : TD) : TDS := fun DD env => ownL env i fun _ _ => te env fun d env1 => ownL env1 i fun fr xs =>
  xs.length < sizeLine ∧ DD.nx (env1.set i (.own fr (.lst (xs ++ [d]))))
theorem own_read {K : PySem.W.Frag} {F H : Hp} {σ : St} {env : DEnv} {i : Nat} {fr : Bool} {xs : List D} (R : Rep K B F H σ env) (e : env[i]? = some (.own fr (.lst xs))) : ∃ a vs, σ[i]? = some (some (.ref a)) ∧ H a = some (.lst vs) ∧ RpA K F vs xs := by
  obtain ⟨a, s, ⟨vs, h1, h2⟩, _⟩ := R.cells i _ e
  exact ⟨a, vs, s, h1, h2⟩
/-- as a term of the layer below -/
def canE (K : PySem.W.Frag) (B : Bd) (t : TD) : TE := fun σ H Q' => ∃ (F : Hp) (env : DEnv) (Q : DK), Rep K B F H σ env ∧ t env Q ∧
  ∀ d env' v F' H', Q d env' → Same F F' → Rep K B F' H' σ env' → Rp K F' v d → Q' v H'
theorem DE.pe (h : DE X B e te) : PE X e (canE X.K B te) := by
  obtain ⟨ts, p, h⟩ := h.ex
  exact ⟨fun pins s σ H Q I ⟨F, env, Qd, R, ht, k⟩ => p.run pins s σ H Q I (h F H σ env Qd Q R ht k)⟩
def canT (K : PySem.W.Frag) (B : Bd) (t : TDT) : TT := fun σ H Q' => ∃ (F : Hp) (env : DEnv) (Q : Bool → DEnv → Prop), Rep K B F H σ env ∧ t env Q ∧
  ∀ b env' F' H', Q b env' → Same F F' → Rep K B F' H' σ env' → Q' b H'
theorem DT.pt {e : Expr} {t : TDT} (h : DT X B e t) : PT X e (canT X.K B t) := by
  obtain ⟨ts, p, h⟩ := h.ex
  exact ⟨fun pins s σ H Q I ⟨F, env, Qd, R, ht, k⟩ => p.run pins s σ H Q I (h F H σ env Qd Q R ht k)⟩
def canG (K : PySem.W.Frag) (B : Bd) (vs : List Nat) (t : TDG) : TG := fun v σ H Q' => ∃ (F : Hp) (env : DEnv) (d : D) (Q : DEnv → Prop), Rep K B F H σ env ∧ Rp K F v d ∧ t d env Q ∧
  ∀ env' σ', Q env' → Chg vs σ σ' → Rep K B F H σ' env' → Q' σ' H
theorem DG.pg {e : Expr} {vs : List Nat} {t : TDG} (h : DG X B e vs t) : PG X e (canG X.K B vs t) := by
  obtain ⟨ts, p, h⟩ := h.ex
  exact ⟨fun pins s σ H v u Q I r ⟨F, env, d, Qd, R, rd, ht, k⟩ => p.run pins s σ H v u Q I r (h F H σ env d v Qd Q R rd ht k)⟩
theorem ds_append {i : Nat} {ce : Expr} {pos' : Pos} (p : PE X ce (tBM X.K "list" rAppend (tVar i) (tCons (canE X.K B te) tNil))) (hs' : swapsWith ce none pos'.line X.env = pure false := by rfl) :
    DS X B (.Expr ce pos') (sApp i te) := by
  refine ⟨_, ps_expr p hs', fun F H σ env DD DH R ht l => ?_⟩
  obtain ⟨fr, xs, e0, ht⟩ := ownL_of ht
  obtain ⟨a, vs, s, h1, _⟩ := own_read R e0
  refine ⟨_, s, .inl ⟨rfl, _, SqL.of h1⟩, F, env, _, R, ht, fun d env1 v F1 H1 q s1 R1 r1 => ?_⟩
  obtain ⟨fr, xs, e1, q⟩ := ownL_of q
  obtain ⟨a', vs', s', h1', ra⟩ := own_read R1 e1
  rw [s] at s'; cases s'
  refine ⟨a, vs', v, rfl, rfl, h1', by rw [ra.length]; exact q.1, ?_⟩
  exact l.nx _ σ F1 _ q.2 s1 (R1.writeAt e1 s ⟨_, upd_same, ra.append (.one r1)⟩)
/-- x[k] = e, x one's own list -/
@[simp] def sSetL (i : Nat) (te tk : TD) : TDS := fun DD env => te env fun d env1 => ownL env1 i fun _ _ => tk env1 fun k env2 => match k with
  | .int j => ownL env2 i fun fr xs => ∃ m, ixN xs.length j = some m ∧ DD.nx (env2.set i (.own fr (.lst (xs.set m d))))
  | _ => False
theorem ds_setL {i : Nat} {tg : Expr} {tk : TD} (he : DE X B e te) (hg : PG X tg (gSub (tVar i) (canE X.K B tk) rSetL)) (hs : swapsWithSole [tg] e pos.line X.env = pure false := by rfl) (hw : swappedStores [tg] e X.env = pure none := by rfl)
    (h1 : (assignEach [tg] X.env).map (·.2) = [assign tg X.env] := by rfl) : DS X B (.Assign [tg] e pos) (sSetL i te tk) := by
  obtain ⟨ts, p, h⟩ := he.ex
  refine ⟨_, ps_asg p hg hs hw h1, fun F H σ env DD DH R ht l => ?_⟩
  refine h F H σ env _ _ R ht fun d env1 v F1 H1 q s1 R1 r1 => ?_
  obtain ⟨fr, xs, e1, q⟩ := ownL_of q
  obtain ⟨a, vs, s, h1, _⟩ := own_read R1 e1
  refine ⟨_, s, F1, env1, _, R1, q, fun k env2 w F2 H2 q2 s2 R2 r2 => ?_⟩
  split at q2
  · obtain ⟨fr, xs, e2, m, hm, q2⟩ := ownL_of q2
    obtain ⟨a', vs', s', h2, ra⟩ := own_read R2 e2
    rw [s] at s'; cases s'
    cases r2
    refine ⟨a, vs', _, m, rfl, rfl, h2, by rw [ra.length]; exact hm, ?_⟩
    exact l.nx _ σ F2 _ q2 (s1.trans s2) (R2.writeAt e2 s ⟨_, upd_same, ra.set (r1.mono s2) m⟩)
  · exact q2.elim
/-- an item of one's own list -/
@[simp] def qIxO (i : Nat) (tk : TD) : TD := fun env Q => ownL env i fun _ _ => tk env fun k env1 => match k with
  | .int j => ownL env1 i fun _ xs => ∃ d, atI xs j = some d ∧ Q d env1
  | _ => False
theorem RpA.at {K : PySem.W.Frag} {F : Hp} {vs : List V} {ds : List D} {j : Int} {d : D} (r : RpA K F vs ds) (h : atI ds j = some d) : ∃ v, atI vs j = some v ∧ Rp K F v d := by
  unfold atI at h ⊢
  rw [r.length]
  cases z : ixN ds.length j with
  | none => rw [z] at h; cases h
  | some m =>
    rw [z] at h
    exact r.get h
theorem de_ixO {i : Nat} {ce : Expr} {tk : TD} (p : PE X ce (tOp (rIxL X.K) (tVar i) (canE X.K B tk))) : DE X B ce (qIxO i tk) := by
  refine ⟨_, p, fun F H σ env Q Q' R ht k => ?_⟩
  obtain ⟨fr, xs, e0, ht⟩ := ownL_of ht
  obtain ⟨a, vs, s, h1, _⟩ := own_read R e0
  refine ⟨_, s, F, env, _, R, ht, fun d env1 v F1 H1 q s1 R1 r1 => ?_⟩
  split at q
  · obtain ⟨fr, xs, e1, dd, hd, q⟩ := ownL_of q
    obtain ⟨a', vs', s', h2, ra⟩ := own_read R1 e1
    rw [s] at s'; cases s'
    cases r1
    obtain ⟨w, hw, rw'⟩ := ra.at hd
    exact ⟨a, vs', _, w, rfl, rfl, SqL.of h2, hw, k dd env1 w F1 H1 q s1 R1 rw'⟩
  · exact q.elim
/-- f(x), x one's own object: an answer that is no object -/
@[simp] def scalD (Q : D → Prop) : D → Prop
  | .non => Q .non
  | .bl b => Q (.bl b)
  | .int i => Q (.int i)
  | .str x => Q (.str x)
  | _ => False
theorem scal_rp {K : PySem.W.Frag} {F F' : Hp} {Q : D → Prop} {d : D} {v : V} (h : scalD Q d) (r : Rp K F v d) : Q d ∧ Rp K F' v d := by
  cases d with
  | non => cases r; exact ⟨h, .non⟩
  | bl b => cases r; exact ⟨h, .bl b⟩
  | int b => cases r; exact ⟨h, .int b⟩
  | str b => cases r; exact ⟨h, .str b⟩
  | _ => exact h.elim
theorem Rep.junkS {K : PySem.W.Frag} {F G G' H H' : Hp} {σ : St} {env : DEnv} (R : Rep K B F H σ env) (s : Stp G H G' H') : Rep K B F H' σ env := by
  rcases s with ⟨_, rfl⟩ | ⟨p, o, n, _, rfl⟩
  · exact R
  · exact R.junk n
/-- a view of one's own object -/
theorem own_view {K : PySem.W.Frag} {F H : Hp} {σ : St} {env : DEnv} {i : Nat} {fr : Bool} {c : OC} (R : Rep K B F H σ env) (e : env[i]? = some (.own fr c)) : ∃ a G, σ[i]? = some (some (.ref a)) ∧ Same F G ∧ Same G H ∧ Rp K G (.ref a) c.frz := by
  obtain ⟨a, s, oc, hF, _⟩ := R.cells i _ e
  obtain ⟨o, hH, r⟩ := oc.rp hF
  refine ⟨a, _, s, same_upd hF, fun b x q => ?_, r⟩
  by_cases z : b = a
  · subst z; rw [upd_same] at q; rw [hH]; exact q
  · rw [upd_ne z] at q; exact R.sub _ _ q
@[simp] def ownC (env : DEnv) (i : Nat) (k : Bool → OC → Prop) : Prop := match env[i]? with
  | some (.own fr c) => k fr c
  | _ => False
theorem ownC_of {env : DEnv} {i : Nat} {k : Bool → OC → Prop} (h : ownC env i k) : ∃ fr c, env[i]? = some (.own fr c) ∧ k fr c := by
  unfold ownC at h
  split at h
  · rename_i fr xs e
    exact ⟨fr, xs, e, h⟩
  · exact h.elim
@[simp] def qClO (s : SN) (i : Nat) : TD := fun env Q => ownC env i fun _ c => s [c.frz] (scalD fun r => Q r env)
theorem de_clO {i : Nat} {ce : Expr} {s : SN} {f : Value} (hc : DCl X f s) (p : ∀ r, CallR X f r → PE X ce (tCB r (tCons (tVar i) tNil))) : DE X B ce (qClO s i) := by
  obtain ⟨r, hr, h⟩ := hc
  refine ⟨_, p r hr, fun F H σ env Q Q' R ht k => ?_⟩
  obtain ⟨fr, c, e, ht⟩ := ownC_of ht
  obtain ⟨a, G, s1, s2, s3, rp⟩ := own_view R e
  refine ⟨_, s1, h G H _ _ _ _ s3 (.one rp) ht fun d' v G' H' q st r' => ?_⟩
  obtain ⟨q, r''⟩ := scal_rp (F' := F) q r'
  exact k d' env v F H' q (Same.refl _) (R.junkS st) r''
/-- x op e, e op x with one's own x: an answer that is no object -/
@[simp] def qOpL (s : S2) (i : Nat) (tb : TD) : TD := fun env Q => ownC env i fun _ _ => tb env fun d env1 => ownC env1 i fun _ c => s c.frz d (scalD fun r => Q r env1)
@[simp] def qOpR (s : S2) (ta : TD) (i : Nat) : TD := fun env Q => ta env fun d env1 => ownC env1 i fun _ c => s d c.frz (scalD fun r => Q r env1)
theorem op_runL {i : Nat} {s : S2} {r : R2} (h : ∀ (F H : Hp) (x y : V) (d e : D) (Q : D → Prop) (Q' : VK), Same F H → Rp X.K F x d → Rp X.K F y e → s d e Q →
    (∀ d' v F' H', Q d' → Stp F H F' H' → Rp X.K F' v d' → Q' v H') → r x y H Q') : ∀ (F H : Hp) (σ : St) (env : DEnv) (Q : DK) (Q' : VK), Rep X.K B F H σ env → qOpL s i tb env Q →
    (∀ d env' v F' H', Q d env' → Same F F' → Rep X.K B F' H' σ env' → Rp X.K F' v d → Q' v H') → tOp r (tVar i) (canE X.K B tb) σ H Q' := by
  intro F H σ env Q Q' R ht k
  obtain ⟨fr, c, e, ht⟩ := ownC_of ht
  obtain ⟨a, G, z1, z2, z3, rp⟩ := own_view R e
  refine ⟨_, z1, F, env, _, R, ht, fun d env1 v F1 H1 q s1 R1 r1 => ?_⟩
  obtain ⟨fr, c, e, q⟩ := ownC_of q
  obtain ⟨a', G, w1, w2, w3, rp⟩ := own_view R1 e
  rw [z1] at w1; cases w1
  refine h G H1 _ _ _ _ _ _ w3 rp (r1.mono w2) q fun d' v G' H' q st r' => ?_
  obtain ⟨q, r''⟩ := scal_rp (F' := F1) q r'
  exact k d' env1 v F1 H' q s1 (R1.junkS st) r''
theorem op_runR {i : Nat} {s : S2} {r : R2} (h : ∀ (F H : Hp) (x y : V) (d e : D) (Q : D → Prop) (Q' : VK), Same F H → Rp X.K F x d → Rp X.K F y e → s d e Q →
    (∀ d' v F' H', Q d' → Stp F H F' H' → Rp X.K F' v d' → Q' v H') → r x y H Q') : ∀ (F H : Hp) (σ : St) (env : DEnv) (Q : DK) (Q' : VK), Rep X.K B F H σ env → qOpR s ta i env Q →
    (∀ d env' v F' H', Q d env' → Same F F' → Rep X.K B F' H' σ env' → Rp X.K F' v d → Q' v H') → tOp r (canE X.K B ta) (tVar i) σ H Q' := by
  intro F H σ env Q Q' R ht k
  refine ⟨F, env, _, R, ht, fun d env1 v F1 H1 q s1 R1 r1 => ?_⟩
  obtain ⟨fr, c, e, q⟩ := ownC_of q
  obtain ⟨a', G, w1, w2, w3, rp⟩ := own_view R1 e
  refine ⟨_, w1, h G H1 _ _ _ _ _ _ w3 (r1.mono w2) rp q fun d' v G' H' q st r' => ?_⟩
  obtain ⟨q, r''⟩ := scal_rp (F' := F1) q r'
  exact k d' env1 v F1 H' q s1 (R1.junkS st) r''
theorem de_cmpL {i : Nat} {op : CmpOp} {s : S2} {x : Str} {p : Pos} (ho : DOp X (compareOp op) s) (ha : PE X (.Name x p) (tVar i)) (hb : DE X B b tb) (hm : behindInMarks op b = false) : DE X B (.Compare (.Name x p) [op] [b] pos) (qOpL s i tb) := by
  obtain ⟨r, h, hr⟩ := ho
  exact ⟨_, pe_cmpR h ha hb.pe hm, op_runL hr⟩
theorem de_cmpRo {i : Nat} {op : CmpOp} {s : S2} {x : Str} {p : Pos} (ho : DOp X (compareOp op) s) (ha : DE X B a ta) (hb : PE X (.Name x p) (tVar i)) (hm : behindInMarks op (.Name x p) = false) : DE X B (.Compare a [op] [.Name x p] pos) (qOpR s ta i) := by
  obtain ⟨r, h, hr⟩ := ho
  exact ⟨_, pe_cmpR h ha.pe hb hm, op_runR hr⟩
theorem dt_cmpL {i : Nat} {op : CmpOp} {s : S2} {x : Str} {p : Pos} (ho : DOp X (compareOp op) s) (ha : PE X (.Name x p) (tVar i)) (hb : DE X B b tb) (hm : behindInMarks op b = false) : DT X B (.Compare (.Name x p) [op] [b] pos) (qTest (qOpL s i tb)) := by
  obtain ⟨r, h, hr⟩ := ho
  refine ⟨_, pt_cmpR h ha hb.pe hm, fun F H σ env Q Q' R ht k => ?_⟩
  refine op_runL hr F H σ env _ _ R ht fun d env' v F' H' q s' R' r' => ?_
  cases d with
  | bl b => cases r' with
    | bl _ => exact ⟨b, rfl, k b env' F' H' q s' R'⟩
  | _ => exact q.elim
theorem dt_cmpRo {i : Nat} {op : CmpOp} {s : S2} {x : Str} {p : Pos} (ho : DOp X (compareOp op) s) (ha : DE X B a ta) (hb : PE X (.Name x p) (tVar i)) (hm : behindInMarks op (.Name x p) = false) : DT X B (.Compare a [op] [.Name x p] pos) (qTest (qOpR s ta i)) := by
  obtain ⟨r, h, hr⟩ := ho
  refine ⟨_, pt_cmpR h ha.pe hb hm, fun F H σ env Q Q' R ht k => ?_⟩
  refine op_runR hr F H σ env _ _ R ht fun d env' v F' H' q s' R' r' => ?_
  cases d with
  | bl b => cases r' with
    | bl _ => exact ⟨b, rfl, k b env' F' H' q s' R'⟩
  | _ => exact q.elim
end
end L2.DL

namespace L2.DL
open PySem PySem.Spec PyProof.Rows

/-! ### list comprehensions -/
@[simp] def wipeE (env : DEnv) : List Nat → DEnv
  | [] => env
  | v :: vs => (wipeE env vs).set v .none
@[simp] def Cell.dat : Cell → Cell
  | .val d => .val d
  | _ => .none
/-- behind a block: its own names are as they were -/
@[simp] def backE (env env' : DEnv) : List Nat → DEnv
  | [] => env'
  | v :: vs => (backE env env' vs).set v ((env[v]?.getD .none).dat)
section
variable {K : PySem.W.Frag} {B : Bd} {F F' H H' : Hp} {σ σ' : St} {env env' : DEnv}
theorem wipeE_len : ∀ vs : List Nat, (wipeE env vs).length = env.length
  | [] => rfl
  | v :: vs => by unfold wipeE; rw [List.length_set, wipeE_len vs]
theorem wipeE_get {i : Nat} {c : Cell} : ∀ {vs : List Nat}, (wipeE env vs)[i]? = some c → (env[i]? = some c ∧ i ∉ vs) ∨ c = .none
  | [], h => .inl ⟨h, by simp⟩
  | v :: vs, h => by
    unfold wipeE at h
    by_cases q : v = i
    · subst q
      by_cases hl : v < (wipeE env vs).length
      · rw [List.getElem?_set_self hl] at h; cases h; exact .inr rfl
      · rw [List.getElem?_eq_none (by simpa using hl)] at h; cases h
    · rw [List.getElem?_set_ne q] at h
      rcases wipeE_get h with ⟨h1, h2⟩ | h1
      · exact .inl ⟨h1, by simp only [List.mem_cons, not_or]; exact ⟨fun e => q e.symm, h2⟩⟩
      · exact .inr h1
theorem wipe_out' {i : Nat} : ∀ {vs : List Nat}, i ∉ vs → (wipe σ vs)[i]? = σ[i]?
  | [], _ => rfl
  | v :: vs, h => by
    unfold wipe
    simp only [List.mem_cons, not_or] at h
    rw [List.getElem?_set_ne (Ne.symm h.1), wipe_out' h.2]
theorem wipe_in {i : Nat} : ∀ {vs : List Nat}, i ∈ vs → i < σ.length → (wipe σ vs)[i]? = some none
  | v :: vs, h, hl => by
    unfold wipe
    by_cases q : v = i
    · subst q
      rw [List.getElem?_set_self (by rw [wipe_length]; exact hl)]
    · rw [List.getElem?_set_ne q]
      rcases List.mem_cons.mp h with e | e
      · exact absurd e.symm q
      · exact wipe_in e hl
theorem wipe_chg {vs : List Nat} (h : Chg vs σ σ') : wipe σ' vs = wipe σ vs := by
  apply List.ext_getElem?
  intro i
  by_cases hi : i ∈ vs
  · by_cases hl : i < σ.length
    · rw [wipe_in hi hl, wipe_in hi (by rw [h.1]; exact hl)]
    · rw [List.getElem?_eq_none (by rw [wipe_length, h.1]; omega), List.getElem?_eq_none (by rw [wipe_length]; omega)]
  · rw [wipe_out' hi, wipe_out' hi, h.2 i hi]
theorem wipe_wipe {vs : List Nat} : wipe (wipe σ vs) vs = wipe σ vs := wipe_chg ⟨wipe_length σ vs, fun i n => wipe_out' n⟩
/-- into a block -/
theorem Rep.wipe (R : Rep K B F H σ env) (vs : List Nat) : Rep K B F H (wipe σ vs) (wipeE env vs) where
  len := by rw [wipeE_len, wipe_length]; exact R.len
  sub := R.sub
  fix := R.fix
  gro := R.gro
  new := R.new
  mf := R.mf
  mh := R.mh
  m0 := R.m0
  pin := R.pin
  mp := R.mp
  pf := R.pf
  cells := fun i c e => by
    rcases wipeE_get e with ⟨h1, h2⟩ | h1
    · rw [wipe_out' h2]; exact R.cells i c h1
    · subst h1; trivial
  dis := fun i j a c c' e1 e2 w1 w2 s1 s2 => by
    rcases wipeE_get e1 with ⟨h1, h2⟩ | h1
    · rcases wipeE_get e2 with ⟨h3, h4⟩ | h3
      · rw [wipe_out' h2] at s1
        rw [wipe_out' h4] at s2
        exact R.dis i j a c c' h1 h3 w1 w2 s1 s2
      · subst h3; cases w2
    · subst h1; cases w1
theorem backE_len (h : env'.length = env.length) : ∀ vs : List Nat, (backE env env' vs).length = env.length
  | [] => h
  | v :: vs => by unfold backE; rw [List.length_set, backE_len h vs]
theorem backE_get {i : Nat} {c : Cell} : ∀ {vs : List Nat}, (backE env env' vs)[i]? = some c → (env'[i]? = some c ∧ i ∉ vs) ∨ c = ((env[i]?.getD .none).dat)
  | [], h => .inl ⟨h, by simp⟩
  | v :: vs, h => by
    unfold backE at h
    by_cases q : v = i
    · subst q
      by_cases hl : v < (backE env env' vs).length
      · rw [List.getElem?_set_self hl] at h; cases h; exact .inr rfl
      · rw [List.getElem?_eq_none (by simpa using hl)] at h; cases h
    · rw [List.getElem?_set_ne q] at h
      rcases backE_get h with ⟨h1, h2⟩ | h1
      · exact .inl ⟨h1, by simp only [List.mem_cons, not_or]; exact ⟨fun e => q e.symm, h2⟩⟩
      · exact .inr h1
/-- out of a block -/
theorem Rep.back {vs : List Nat} (R : Rep K B F H σ env) (R' : Rep K B F' H' (L2.wipe σ vs) env') (s : Same F F') : Rep K B F' H' σ (backE env env' vs) where
  len := by rw [backE_len (by rw [R'.len, wipe_length, R.len])]; exact R.len
  sub := R'.sub
  fix := R'.fix
  gro := R'.gro
  new := R'.new
  mf := R'.mf
  mh := R'.mh
  m0 := R'.m0
  pin := R'.pin
  mp := R'.mp
  pf := R'.pf
  cells := fun i c e => by
    rcases backE_get e with ⟨h1, h2⟩ | h1
    · have := R'.cells i c h1
      rw [wipe_out' h2] at this; exact this
    · subst h1
      cases z : env[i]? with
      | none => trivial
      | some c =>
        cases c with
        | val d =>
          obtain ⟨v, e1, r⟩ := R.cells i _ z
          exact ⟨v, e1, r.mono s⟩
        | _ => trivial
  dis := fun i j a c c' e1 e2 w1 w2 s1 s2 => by
    have dat : ∀ {i : Nat} {c : Cell}, c = ((env[i]?.getD .none).dat) → c.isOwn = true → False := by
      rintro i c rfl w
      cases z : (env[i]?.getD Cell.none) <;> rw [z] at w <;> cases w
    rcases backE_get e1 with ⟨h1, h2⟩ | h1
    · rcases backE_get e2 with ⟨h3, h4⟩ | h3
      · exact R'.dis i j a c c' h1 h3 w1 w2 (by rw [wipe_out' h2]; exact s1) (by rw [wipe_out' h4]; exact s2)
      · exact (dat h3 w2).elim
    · exact (dat h1 w1).elim
end
/-- the tests of a comprehension: none, one -/
structure DTs (X : Cx) (B : Bd) (ifs : List Expr) (t : TDT) : Prop where
  pt : PTs X ifs (canT X.K B t)
@[simp] def qYes : TDT := fun env Q => Q true env
section
variable {X : Cx} {B : Bd} {e a b c : Expr} {ta tb tc te : TD} {pos : Pos} {st : Stmt} {rest sts : List Stmt} {t u : TDS} {tf : TDF} {es : List Expr} {tr : TDA}
theorem dts_nil : DTs X B [] qYes := ⟨⟨fun pins s σ H Q I ⟨F, env, Qd, R, ht, k⟩ => pts_nil.run pins s σ H Q I (k _ _ F H ht (Same.refl _) R)⟩⟩
theorem dts_one {c : Expr} {t : TDT} (h : DT X B c t) : DTs X B [c] t := ⟨pts_one h.pt⟩
def mapL0 (vs : List Nat) (g : TDG) (tt : TDT) (te : TD) : List D → DEnv → (List D → DEnv → Prop) → Prop
  | [], env, Q => Q [] env
  | d :: r, env, Q => g d env fun env1 => tt env1 fun b env2 => match b with
    | true => te env2 fun x env3 => mapL0 vs g tt te r (wipeE env3 vs) fun xs env4 => Q (x :: xs) env4
    | false => mapL0 vs g tt te r (wipeE env2 vs) Q
@[irreducible] def mapL (vs : List Nat) (g : TDG) (tt : TDT) (te : TD) : List D → DEnv → (List D → DEnv → Prop) → Prop := mapL0 vs g tt te
theorem mapL_nil (vs : List Nat) (g : TDG) (tt : TDT) (te : TD) (env : DEnv) (Q : List D → DEnv → Prop) : mapL vs g tt te [] env Q = Q [] env := by unfold mapL; rfl
theorem mapL_cons (vs : List Nat) (g : TDG) (tt : TDT) (te : TD) (d : D) (r : List D) (env : DEnv) (Q : List D → DEnv → Prop) : mapL vs g tt te (d :: r) env Q = g d env fun env1 => tt env1 fun b env2 => match b with
    | true => te env2 fun x env3 => mapL vs g tt te r (wipeE env3 vs) fun xs env4 => Q (x :: xs) env4
    | false => mapL vs g tt te r (wipeE env2 vs) Q := by unfold mapL; rfl
@[simp] def fComp (ti : TDI) (g : TDG) (tt : TDT) (te : TD) (vs : List Nat) : TDF := fun env Q => ti env fun ds env1 => ds.length ≤ sizeLine ∧ mapL vs g tt te ds (wipeE env1 vs) fun xs env2 => Q (.lst xs) (backE env1 env2 vs)
abbrev Bd.withP (B : Bd) (P : Hp) : Bd := { B with P := P }
theorem Rep.pinned {K : PySem.W.Frag} {F H : Hp} {σ : St} {env : DEnv} {p : Addr} {o : HO} (R : Rep K B F H σ env) (hH : H p = some o) (hF : F p = none) (h0 : B.H0 p = none) (ap : Apart p σ env) : Rep K (B.withP (upd B.P p o)) F H σ env := by
  have own : ∀ {q : Option (Option V)} {i : Nat} {fr : Bool} {c : OC}, (∀ a, q = some (some (.ref a)) → a ≠ p) → OwnOk K B F H q i fr c → OwnOk K (B.withP (upd B.P p o)) F H q i fr c := by
    rintro q i fr c n ⟨a, h1, h2, h3, h4, h5⟩
    exact ⟨a, h1, h2, h3, by show upd B.P p o a = none; rw [upd_ne (n a h1)]; exact h4, h5⟩
  refine ⟨R.len, R.sub, R.fix, R.gro, R.new, R.mf, R.mh, R.m0, fun b x e => ?_, fun b m => ?_, fun b x e => ?_, fun i c e => ?_, R.dis⟩
  · have e : upd B.P p o b = some x := e
    by_cases q : b = p
    · subst q; rw [upd_same] at e; rw [hH]; exact e
    · rw [upd_ne q] at e; exact R.pin _ _ e
  · have q : b ≠ p := fun q => by subst q; exact R.m0 b m h0
    show upd B.P p o b = none
    rw [upd_ne q]; exact R.mp b m
  · have e : upd B.P p o b = some x := e
    by_cases q : b = p
    · subst q; exact hF
    · rw [upd_ne q] at e; exact R.pf b x e
  · have h := R.cells i c e
    cases c with
    | none => trivial
    | val d => exact h
    | own fr c => exact own (fun a q z => ap i _ e rfl (by rw [q, z])) h
    | opq fr φ =>
      obtain ⟨c, h1, h2⟩ := h
      exact ⟨c, h1, own (fun a q z => ap i _ e rfl (by rw [q, z])) h2⟩
theorem Rep.unpinned {K : PySem.W.Frag} {F H : Hp} {σ : St} {env : DEnv} {p : Addr} {o : HO} (hp : B.P p = none) (R : Rep K (B.withP (upd B.P p o)) F H σ env) : Rep K B F H σ env ∧ H p = some o ∧ F p = none ∧ Apart p σ env := by
  have sP : Same B.P (upd B.P p o) := same_upd hp
  have own : ∀ {q : Option (Option V)} {i : Nat} {fr : Bool} {c : OC}, OwnOk K (B.withP (upd B.P p o)) F H q i fr c → OwnOk K B F H q i fr c ∧ ∀ a, q = some (some (.ref a)) → a ≠ p := by
    rintro q i fr c ⟨a, h1, h2, h3, h4, h5⟩
    have h4 : upd B.P p o a = none := h4
    refine ⟨⟨a, h1, h2, h3, sP.free h4, h5⟩, fun b e z => ?_⟩
    rw [h1] at e; cases e
    subst z; rw [upd_same] at h4; cases h4
  refine ⟨⟨R.len, R.sub, R.fix, R.gro, R.new, R.mf, R.mh, R.m0, fun b x e => R.pin _ _ (sP _ _ e), fun b m => sP.free (R.mp b m), fun b x e => R.pf b x (sP _ _ e), fun i c e => ?_, R.dis⟩, R.pin p o upd_same, R.pf p o upd_same, fun i c e w q => ?_⟩
  · have h := R.cells i c e
    cases c with
    | none => trivial
    | val d => exact h
    | own fr c => exact (own h).1
    | opq fr φ => obtain ⟨c, h1, h2⟩ := h; exact ⟨c, h1, (own h2).1⟩
  · have h := R.cells i c e
    cases c with
    | none => cases w
    | val d => cases w
    | own fr c => exact (own h).2 p q rfl
    | opq fr φ => obtain ⟨c, h1, h2⟩ := h; exact (own h2).2 p q rfl
/-- an object that nobody else knows changes -/
theorem Rep.poke {K : PySem.W.Frag} {F H : Hp} {σ : St} {env : DEnv} {p : Addr} {o o' : HO} (R : Rep K B F H σ env) (hH : H p = some o) (hF : F p = none) (h0 : B.H0 p = none) (hP : B.P p = none) (ap : Apart p σ env) : Rep K B F (upd H p o') σ env := by
  refine ⟨R.len, fun b x e => ?_, fun b x e m => ?_, R.gro, R.new, R.mf, fun b m => ?_, R.m0, fun b x e => ?_, R.mp, R.pf, fun i c e => ?_, R.dis⟩
  · have q : b ≠ p := fun q => by subst q; rw [hF] at e; cases e
    rw [upd_ne q]; exact R.sub _ _ e
  · have q : b ≠ p := fun q => by subst q; rw [h0] at e; cases e
    rw [upd_ne q]; exact R.fix b x e m
  · have q : b ≠ p := fun q => by subst q; exact R.m0 b m h0
    rw [upd_ne q]; exact R.mh b m
  · have q : b ≠ p := fun q => by subst q; rw [hP] at e; cases e
    rw [upd_ne q]; exact R.pin _ _ e
  · refine (R.cells i c e).mono (Same.refl _) fun w a s n f => ⟨?_, f⟩
    have q : a ≠ p := fun q => by subst q; exact ap i c e w s
    rw [upd_ne q]
def xE (K : PySem.W.Frag) (B : Bd) (t : TD) : TE := fun σ H Q => ∃ P, canE K (B.withP P) t σ H Q
def xT (K : PySem.W.Frag) (B : Bd) (t : TDT) : TT := fun σ H Q => ∃ P, canT K (B.withP P) t σ H Q
def xG (K : PySem.W.Frag) (B : Bd) (vs : List Nat) (t : TDG) : TG := fun v σ H Q => ∃ P, canG K (B.withP P) vs t v σ H Q
theorem xe' {X : Cx} {K : PySem.W.Frag} {t : TD} (h : ∀ P, PE X e (canE K (B.withP P) t)) : PE X e (xE K B t) := ⟨fun pins s σ H Q I ⟨P, q⟩ => (h P).run pins s σ H Q I q⟩
theorem xt {X : Cx} {K : PySem.W.Frag} {ifs : List Expr} {t : TDT} (h : ∀ P, PTs X ifs (canT K (B.withP P) t)) : PTs X ifs (xT K B t) := ⟨fun pins s σ H Q I ⟨P, q⟩ => (h P).run pins s σ H Q I q⟩
theorem xg {X : Cx} {K : PySem.W.Frag} {vs : List Nat} {t : TDG} (h : ∀ P, PG X e (canG K (B.withP P) vs t)) : PG X e (xG K B vs t) := ⟨fun pins s σ H v u Q I r ⟨P, q⟩ => (h P).run pins s σ H v u Q I r q⟩
theorem comp_read {wi : TI} {ti : TDI} {g : TDG} {tt : TDT} {vs : List Nat}
    (h : ∀ (F H : Hp) (σ : St) (env : DEnv) (Q : List D → DEnv → Prop) (R' : It → Hp → Prop), Rep X.K B F H σ env → ti env Q →
      (∀ ds env' J F' H', Q ds env' → Same F F' → Rep X.K B F' H' σ env' → IterOk X.K J ds F' → R' J H') → wi σ H R') :
    ∀ (F H : Hp) (σ : St) (env : DEnv) (Q : OC → DEnv → Prop) (Q' : VK), Rep X.K B F H σ env → fComp ti g tt te vs env Q →
    (∀ c env' p F' H', Q c env' → Same F F' → Rep X.K B F' H' σ env' → OcOk X.K F' H' p c → F' p = none → B.H0 p = none → B.P p = none → Apart p σ env' → Q' (.ref p) H') → tLc wi (xG X.K B vs g) (xT X.K B tt) (xE X.K B te) vs σ H Q' := by
  intro F H σ env Q Q' R hq k
  refine h F H σ env _ _ R hq fun ds env1 J F1 H1 q1 s1 R1 io => ?_
  obtain ⟨hsz, q1⟩ := q1
  intro D hD
  obtain ⟨n1, n2, n4, n3⟩ := R1.newp hD
  have apw : ∀ {env : DEnv} {σ' : St}, Apart D σ' env → Apart D (wipe σ' vs) (wipeE env vs) := by
    intro env σ' n i c e w q
    rcases wipeE_get e with ⟨h1, h2⟩ | h1
    · rw [wipe_out' h2] at q; exact n i c h1 w q
    · subst h1; cases w
  refine ⟨fun i m H => ∃ F env acc vacc, Same F1 F ∧ Rep X.K B F H (wipe σ vs) env ∧ H D = some (.lst vacc) ∧ RpA X.K F vacc acc ∧ F D = none ∧ Apart D (wipe σ vs) env ∧ acc.length ≤ i ∧
      mapL vs g tt te (ds.drop i) env (fun xs env2 => Q (.lst (acc ++ xs)) (backE env1 env2 vs)) ∧ m = ds.length - i ∧ i ≤ ds.length, ⟨ds.length, F1, wipeE env1 vs, [], [], Same.refl _, (R1.junk hD).wipe vs, upd_same, .nil, n1, apw n3, Nat.le_refl _, by simpa using q1, by simp, Nat.zero_le _⟩, ?_⟩
  rintro i m H3 ⟨F3, env3, acc, vacc, s3, R3, hD3, ra3, fD3, ap3, hle, q3, rfl, hi⟩
  obtain ⟨j1, j2⟩ := io F3 H3 i s3 R3.sub
  by_cases hlt : i < ds.length
  · have hd : ds[i]? = some ds[i] := List.getElem?_eq_getElem hlt
    obtain ⟨go, yl⟩ := j2 _ hd
    rw [List.drop_eq_getElem_cons hlt, mapL_cons] at q3
    refine .inr ⟨go, fun H => ∃ F env acc vacc, Same F1 F ∧ Rep X.K B F H (wipe σ vs) env ∧ H D = some (.lst vacc) ∧ RpA X.K F vacc acc ∧ F D = none ∧ Apart D (wipe σ vs) env ∧ acc.length ≤ i + 1 ∧
      mapL vs g tt te (ds.drop (i + 1)) env (fun xs env2 => Q (.lst (acc ++ xs)) (backE env1 env2 vs)), ?_, ?_⟩
    · rintro H' ⟨F', env', acc', vacc', a1, a2, a3, a4, a5, a6, a7, a8⟩
      exact ⟨ds.length - (i + 1), by omega, F', env', acc', vacc', a1, a2, a3, a4, a5, a6, a7, a8, rfl, hlt⟩
    · intro x H4 y4
      obtain ⟨F4, st4, r4⟩ := yl x H4 y4
      have R3p := R3.pinned hD3 fD3 n2 ap3
      have R4 := R3p.stp st4
      have s34 := st4.same R3p.sub
      refine ⟨upd B.P D (.lst vacc), F4, env3, _, _, R4, r4, q3, fun env5 σ5 q5 c5 R5 => ⟨(wipe_chg c5).trans wipe_wipe, ?_⟩⟩
      have w5 : wipe σ5 vs = wipe σ vs := (wipe_chg c5).trans wipe_wipe
      refine ⟨upd B.P D (.lst vacc), F4, env5, _, R5, q5, fun b env6 F6 H6 q6 s6 R6 => ?_⟩
      cases b with
      | true =>
        refine iteT ⟨upd B.P D (.lst vacc), F6, env6, _, R6, q6, fun d env7 v7 F7 H7 q7 s7 R7 r7 => ?_⟩
        obtain ⟨R7', hD7, fD7, ap7⟩ := Rep.unpinned n4 R7
        refine ⟨vacc, hD7, ?_, ?_⟩
        · rw [ra3.length]; omega
        · have ss : Same F3 F7 := (s34.trans s6).trans s7
          have R8 := R7'.wipe vs
          rw [w5] at R8
          have ap8 := apw ap7
          rw [w5] at ap8
          refine ⟨F7, wipeE env7 vs, acc ++ [d], vacc ++ [v7], s3.trans ss, ?_, upd_same, (ra3.mono ss).append (.one r7), fD7, ap8, by rw [List.length_append]; show acc.length + 1 ≤ i + 1; omega, ?_⟩
          · exact R8.poke hD7 fD7 n2 n4 ap8
          · simpa [List.append_assoc] using q7
      | false =>
        refine iteF ?_
        obtain ⟨R7', hD7, fD7, ap7⟩ := Rep.unpinned n4 R6
        have R8 := R7'.wipe vs
        rw [w5] at R8
        have ap8 := apw ap7
        rw [w5] at ap8
        exact ⟨F6, wipeE env6 vs, acc, vacc, s3.trans (s34.trans s6), R8, hD7, ra3.mono (s34.trans s6), fD7, ap8, by omega, q6⟩
  · have e : i = ds.length := by omega
    refine .inl ⟨j1 e, ?_⟩
    rw [e, List.drop_length, mapL_nil] at q3
    have q3 : Q (.lst (acc ++ [])) (backE env1 env3 vs) := q3
    rw [List.append_nil] at q3
    have RB := R1.back R3 s3
    refine k _ _ D F3 H3 q3 (s1.trans s3) RB ⟨vacc, hD3, ra3⟩ fD3 n2 n4 ?_
    intro j c ec w q
    rcases backE_get ec with ⟨h1, h2⟩ | h1
    · exact ap3 j c h1 w (by rw [wipe_out' h2]; exact q)
    · subst h1
      cases z : (env1[j]?.getD Cell.none) <;> rw [z] at w <;> cases w
theorem df_comp {elt tg iter : Expr} {ifs : List Expr} {scope : Scope} {own : List (Str × Nat)} {ti : TDI} {g : TDG} {tt : TDT} (hc : X.calm = true) (hN : X.N.Nodup) (hi : DI X B tg iter ti) (ok : BlkOk X.N X.env.scope scope own)
    (hg : ∀ (P : Hp) (s : Shared) (H : Hp) (C : Addr) (cl : List (Str × Addr)) (fp : List Addr), DG (X.blk s H scope (compEnvC scope cl C X.env) fp) (B.withP P) tg (own.map (·.2)) g) (ht : ∀ (P : Hp) (s : Shared) (H : Hp) (C : Addr) (cl : List (Str × Addr)) (fp : List Addr), DTs (X.blk s H scope (compEnvC scope cl C X.env) fp) (B.withP P) ifs tt)
    (he : ∀ (P : Hp) (s : Shared) (H : Hp) (C : Addr) (cl : List (Str × Addr)) (fp : List Addr), DE (X.blk s H scope (compEnvC scope cl C X.env) fp) (B.withP P) elt te) (hs : ∀ x, foldedSetIterable iter X.env x = pure x := by intro _; rfl) :
    DF X B (.ListComp elt [⟨tg, iter, ifs, 0⟩] scope pos) (fComp ti g tt te (own.map (·.2))) := by
  obtain ⟨wi, p, h⟩ := hi.ex
  exact ⟨_, pe_lc (g := xG X.K B (own.map (·.2)) g) (tt := xT X.K B tt) (te := xE X.K B te) hc hN p ok (fun s H C cl fp => xg (fun P => (hg P s H C cl fp).pg)) (fun s H C cl fp => xt (fun P => (ht P s H C cl fp).pt)) (fun s H C cl fp => xe' (fun P => (he P s H C cl fp).pe)) hs, comp_read h⟩
/-- x = [..] on one line -/
theorem ds_ownLc {i : Nat} {y : Str} {py spos : Pos} {elt tg iter : Expr} {ifs : List Expr} {scope : Scope} {own : List (Str × Nat)} {ti : TDI} {g : TDG} {tt : TDT} (hc : X.calm = true) (hN : X.N.Nodup) (hi : DI X B tg iter ti) (ok : BlkOk X.N X.env.scope scope own)
    (hg : ∀ (P : Hp) (s : Shared) (H : Hp) (C : Addr) (cl : List (Str × Addr)) (fp : List Addr), DG (X.blk s H scope (compEnvC scope cl C X.env) fp) (B.withP P) tg (own.map (·.2)) g) (ht : ∀ (P : Hp) (s : Shared) (H : Hp) (C : Addr) (cl : List (Str × Addr)) (fp : List Addr), DTs (X.blk s H scope (compEnvC scope cl C X.env) fp) (B.withP P) ifs tt)
    (he : ∀ (P : Hp) (s : Shared) (H : Hp) (C : Addr) (cl : List (Str × Addr)) (fp : List Addr), DE (X.blk s H scope (compEnvC scope cl C X.env) fp) (B.withP P) elt te)
    (hsw : swapsWith (.ListComp elt [⟨tg, iter, ifs, 0⟩] scope pos) (some (.Name y py)) spos.line X.env = pure true) (hy : X.N[i]? = some y := by rfl) (hyl : X.env.scope.names.lookup y = some .local := by rfl) (hs : ∀ x, foldedSetIterable iter X.env x = pure x := by intro _; rfl) :
    DS X B (.Assign [.Name y py] (.ListComp elt [⟨tg, iter, ifs, 0⟩] scope pos) spos) (sOwn i (fComp ti g tt te (own.map (·.2)))) := by
  obtain ⟨wi, p, h⟩ := hi.ex
  refine ⟨_, ps_setLc (i := i) (g := xG X.K B (own.map (·.2)) g) (tt := xT X.K B tt) (te := xE X.K B te) hc hN hy hyl hsw p ok (fun s H C cl fp => xg (fun P => (hg P s H C cl fp).pg)) (fun s H C cl fp => xt (fun P => (ht P s H C cl fp).pt)) (fun s H C cl fp => xe' (fun P => (he P s H C cl fp).pe)) hs, fun F H σ env DD DH R ht l => ?_⟩
  refine comp_read h F H σ env _ _ R ht fun c env1 p F1 H1 q s1 R1 oc hF h0 hP ap => ?_
  exact l.nx _ _ F1 H1 q s1 (R1.setOwn i oc hF h0 hP ap)
/-- what was made is kept as data at once -/
@[simp] def sFzAt (i : Nat) (t : TDS) : TDS := fun DD env => t { DD with nx := fun env1 => match env1[i]? with
  | some (.own true c) => DD.nx (env1.set i (.val c.frz))
  | _ => False } env
theorem ds_keep (i : Nat) (h : DS X B st t) : DS X B st (sFzAt i t) := by
  obtain ⟨ts, p, h⟩ := h.ex
  refine ⟨ts, p, fun F H σ env DD DH R ht l => ?_⟩
  refine h F H σ env _ _ R ht ⟨fun env' σ' F' H' q s R' => ?_, l.rt, l.bk, l.ct⟩
  have q : (match env'[i]? with
    | some (.own true c) => DD.nx (env'.set i (.val c.frz))
    | _ => False) := q
  split at q
  · rename_i c e
    obtain ⟨F2, s2, R2⟩ := R'.freezeAt e
    exact l.nx _ σ' F2 H' q (s.trans s2) R2
  · exact q.elim
end
end L2.DL

namespace L2.DL
open PySem PySem.Spec PyProof.Rows

/-! ### what a def does with the contents of its parameters: the answer, and the contents behind (none where it is data) -/
abbrev FSpec := List Cell → (D → List Cell → Prop) → Prop
def spD (K : PySem.W.Frag) (n : Nat) (spec : FSpec) : Sp := fun vs H Q _ => ∃ (F : Hp) (M : Addr → Prop) (cs : List Cell), vs.length = n ∧ Rep K ⟨M, H, F, vs, fun _ => none⟩ F H (vs.map some) cs ∧
  ∃ Qd, spec cs Qd ∧ ∀ d cs' v F' H', Qd d cs' → Same F F' → Rep K ⟨M, H, F, vs, fun _ => none⟩ F' H' (vs.map some) cs' → Rp K F' v d → Q v H'
/-- weaker knowledge of a content -/
@[simp] def Cell.le : Cell → Cell → Prop
  | _, .none => True
  | .own false c, .own false c' => c = c'
  | .own false c, .opq false φ => φ c
  | .opq false φ, .opq false φ' => ∀ c, φ c → φ' c
  | _, _ => False
@[simp] def Outs : DEnv → List Cell → Prop
  | _, [] => True
  | e :: env, c :: cs => e.le c ∧ Outs env cs
  | [], _ :: _ => False
theorem Outs.get : ∀ {env : DEnv} {cs' : List Cell}, Outs env cs' → ∀ (i : Nat) (c : Cell), cs'[i]? = some c → ∃ e, env[i]? = some e ∧ e.le c
  | _, [], _, i, c, e => by simp at e
  | e :: env, c :: cs, h, 0, c', q => by
    rw [List.getElem?_cons_zero] at q; cases q
    exact ⟨e, rfl, h.1⟩
  | e :: env, c :: cs, h, i + 1, c', q => Outs.get (env := env) (cs' := cs) h.2 i c' (by simpa using q)
  | [], _ :: _, h, _, _, _ => h.elim
@[simp] def fnEnds (n : Nat) (Q : D → List Cell → Prop) : DEnds := { nx := fun env => ∃ cs', cs'.length = n ∧ Outs env cs' ∧ Q .non cs', rt := fun d env => ∃ cs', cs'.length = n ∧ Outs env cs' ∧ Q d cs' }
section
variable {K : PySem.W.Frag} {B : Bd} {F F' H H' : Hp} {σ σ' : St} {env env' : DEnv}
theorem Rep.pad (R : Rep K B F H σ env) (k : Nat) : Rep K B F H (σ ++ List.replicate k none) (env ++ List.replicate k .none) where
  len := by rw [List.length_append, List.length_append, List.length_replicate, List.length_replicate, R.len]
  sub := R.sub
  fix := R.fix
  gro := R.gro
  new := R.new
  mf := R.mf
  mh := R.mh
  m0 := R.m0
  pin := R.pin
  mp := R.mp
  pf := R.pf
  cells := fun i c e => by
    by_cases hl : i < env.length
    · rw [List.getElem?_append_left hl] at e
      rw [List.getElem?_append_left (by rw [← R.len]; exact hl)]
      exact R.cells i c e
    · rw [List.getElem?_append_right (by omega), List.getElem?_replicate] at e
      split at e
      · cases e; trivial
      · cases e
  dis := fun i j a c c' e1 e2 w1 w2 s1 s2 => by
    have low : ∀ {i : Nat} {c : Cell}, (env ++ List.replicate k Cell.none)[i]? = some c → c.isOwn = true → i < env.length := by
      intro i c e w
      by_cases hl : i < env.length
      · exact hl
      · rw [List.getElem?_append_right (by omega), List.getElem?_replicate] at e
        split at e
        · cases e; cases w
        · cases e
    have l1 := low e1 w1
    have l2 := low e2 w2
    rw [List.getElem?_append_left l1] at e1
    rw [List.getElem?_append_left l2] at e2
    rw [List.getElem?_append_left (by rw [← R.len]; exact l1)] at s1
    rw [List.getElem?_append_left (by rw [← R.len]; exact l2)] at s2
    exact R.dis i j a c c' e1 e2 w1 w2 s1 s2
theorem le_own {e c : Cell} {o : Option (Option V)} {i : Nat} (h : e.le c) (w : c.isOwn = true) (ok : CellOk K B F H o i e) : CellOk K B F H o i c ∧ e.isOwn = true ∧ ∃ a, o = some (some (.ref a)) ∧ B.par[i]? = some (.ref a) := by
  have key : ∀ {x : OC}, OwnOk K B F H o i false x → ∃ a, o = some (some (.ref a)) ∧ B.par[i]? = some (.ref a) := by
    rintro x ⟨a, h1, _, _, _, h4⟩
    exact ⟨a, h1, by simpa using h4.2⟩
  cases c with
  | none => cases w
  | val d => cases w
  | own fr x =>
    cases e with
    | own fr' x' =>
      cases fr' with
      | true => cases fr <;> exact False.elim h
      | false =>
        cases fr with
        | true => exact False.elim h
        | false => obtain rfl : x' = x := h; exact ⟨ok, rfl, key ok⟩
    | opq fr' φ => cases fr' <;> cases fr <;> exact False.elim h
    | none => cases fr <;> exact False.elim h
    | val d => cases fr <;> exact False.elim h
  | opq fr φ =>
    cases e with
    | own fr' x' =>
      cases fr' with
      | true => cases fr <;> exact False.elim h
      | false =>
        cases fr with
        | true => exact False.elim h
        | false => exact ⟨⟨x', h, ok⟩, rfl, key ok⟩
    | opq fr' φ' =>
      cases fr' with
      | true => cases fr <;> exact False.elim h
      | false =>
        cases fr with
        | true => exact False.elim h
        | false =>
          obtain ⟨c, h1, h2⟩ := ok
          exact ⟨⟨c, h c h1, h2⟩, rfl, key h2⟩
    | none => cases fr <;> exact False.elim h
    | val d => cases fr <;> exact False.elim h
/-- the parameters' contents behind the body -/
theorem Rep.outs {vs : List V} {cs' : List Cell} (R : Rep K B F' H' σ' env') (hv : B.par = vs) (hl : cs'.length = vs.length) (h : Outs env' cs') : Rep K B F' H' (vs.map some) cs' where
  len := by rw [List.length_map]; exact hl
  sub := R.sub
  fix := R.fix
  gro := R.gro
  new := R.new
  mf := R.mf
  mh := R.mh
  m0 := R.m0
  pin := R.pin
  mp := R.mp
  pf := R.pf
  cells := fun i c e => by
    obtain ⟨e', h1, h2⟩ := h.get i c e
    cases w : c.isOwn with
    | true =>
      obtain ⟨k1, _, a, k3, k4⟩ := le_own h2 w (R.cells i e' h1)
      have : (vs.map some)[i]? = σ'[i]? := by
        rw [List.getElem?_map, ← hv, k4, k3]; rfl
      rw [this]; exact k1
    | false =>
      cases c with
      | none => trivial
      | val d => cases e' <;> exact False.elim h2
      | own _ _ => cases w
      | opq _ _ => cases w
  dis := fun i j a c c' e1 e2 w1 w2 s1 s2 => by
    obtain ⟨x1, h1, l1⟩ := h.get i c e1
    obtain ⟨x2, h2, l2⟩ := h.get j c' e2
    obtain ⟨_, o1, a1, k1, p1⟩ := le_own l1 w1 (R.cells i x1 h1)
    obtain ⟨_, o2, a2, k2, p2⟩ := le_own l2 w2 (R.cells j x2 h2)
    rw [List.getElem?_map, ← hv, p1] at s1
    rw [List.getElem?_map, ← hv, p2] at s2
    cases s1; cases s2
    exact R.dis i j a x1 x2 h1 h2 o1 o2 k1 k2
end
section
variable {P : Program} {w : World} {K : PySem.W.Frag} {mg : Str → Option Value} {base : Heap}
/-- THE RULE for a def -/
theorem okD {x qual : Str} {st : Stmt} {f : Addr} {fd : FuncData} {N ps : List Str} {k : Nat} {spec : FSpec} (F : Fun K x qual st f fd) (S : FnScope N ps (defScope st))
    (hbody : ∀ (cdv : Value) (A : Around) (outer : List Env) (s : Shared) (H : Hp) (E : XK) (B : Bd) (cs : List Cell) (Q : D → List Cell → Prop), Room k (A.deeper (envOfC qual (defScope st) s.heap.objs.size f cdv)) → cs.length = ps.length → spec cs Q →
      ∃ t, DSs (cxOf CX0 P w K mg base N qual (defScope st) f cdv A outer s H E).nox B (defBody st) t ∧ t (fnEnds ps.length Q) (cs ++ List.replicate (N.length - ps.length) .none)) :
    FnOk P w K mg base CX0 (k + 1) f fd ps (spD K ps.length spec) := by
  refine F.ok S (fun vs H Q E h => ?_) (fun cdv A outer s H vs Q E hr h => ?_)
  · obtain ⟨_, _, _, h, _⟩ := h; exact h
  · obtain ⟨F0, M, cs, hl, R, Qd, hs, hq⟩ := h
    have hcs : cs.length = ps.length := by rw [R.len, List.length_map, hl]
    obtain ⟨t, d, ht⟩ := hbody cdv A outer s H E ⟨M, H, F0, vs, fun _ => none⟩ cs _ hr hcs hs
    obtain ⟨ts, p, h⟩ := d.ex
    refine ⟨ts, p, ?_⟩
    have R0 := R.pad (N.length - ps.length)
    have e0 : start N vs = vs.map some ++ List.replicate (N.length - ps.length) none := by unfold start; rw [hl]
    rw [e0]
    refine h F0 H _ _ _ _ R0 ht ⟨?_, ?_, fun _ _ _ _ q => q.elim, fun _ _ _ _ q => q.elim⟩
    · rintro env' σ' F' H' ⟨cs', l', o', q'⟩ s' R'
      exact hq _ _ .non F' H' q' s' (R'.outs rfl (l'.trans hl.symm) o') .non
    · rintro d env' v σ' F' H' ⟨cs', l', o', q'⟩ s' R' r'
      exact hq _ _ v F' H' q' s' (R'.outs rfl (l'.trans hl.symm) o') r'
end

/-! ### a call: arguments by their data, or a name's own object handed in -/
inductive Arg where
  | d (x : D) | s (i : Nat)
abbrev TDR := DEnv → (List Arg → DEnv → Prop) → Prop
def ArgR (K : PySem.W.Frag) (F : Hp) (σ : St) (v : V) : Arg → Prop
  | .d x => Rp K F v x
  | .s i => σ[i]? = some (some v)
abbrev ArgsR (K : PySem.W.Frag) (F : Hp) (σ : St) : List V → List Arg → Prop := Paired (ArgR K F σ)
structure DR (X : Cx) (B : Bd) (es : List Expr) (t : TDR) : Prop where
  ex : ∃ te, PA X es te ∧ ∀ (F H : Hp) (σ : St) (env : DEnv) (Q : List Arg → DEnv → Prop) (Q' : List V → Hp → Prop), Rep X.K B F H σ env → t env Q →
    (∀ as env' vs F' H', Q as env' → Same F F' → Rep X.K B F' H' σ env' → ArgsR X.K F' σ vs as → Q' vs H') → te σ H Q'
@[simp] def isS (i : Nat) : Arg → Bool
  | .s j => i == j
  | .d _ => false
@[simp] def Cell.hand : Cell → Cell
  | .own _ c => .own false c
  | .opq _ φ => .opq false φ
  | c => c
@[simp] def Cell.fr : Cell → Bool
  | .own b _ => b
  | .opq b _ => b
  | _ => false
@[simp] def Cell.take (old new : Cell) : Cell := match old.isOwn, new with
  | true, .own _ c => .own old.fr c
  | true, .opq _ φ => .opq old.fr φ
  | true, _ => .none
  | false, _ => old
@[simp] def handIn (env : DEnv) (as : List Arg) : List Cell := as.map fun
  | .d x => .val x
  | .s i => (env[i]?.getD .none).hand
@[simp] def takeBack (env : DEnv) (as : List Arg) (cs : List Cell) : DEnv := env.mapIdx fun i c => match as.findIdx? (isS i) with
  | some k => c.take (cs.getD k .none)
  | none => c
@[simp] def slotsOf (as : List Arg) : List Nat := as.filterMap fun
  | .s i => some i
  | .d _ => none
section
variable {X : Cx} {B : Bd} {e a b c : Expr} {ta tb tc te : TD} {pos : Pos} {es : List Expr} {tr : TDR}
@[simp] def rNil : TDR := fun env Q => Q [] env
@[simp] def rCons (ta : TD) (tr : TDR) : TDR := fun env Q => ta env fun d env1 => tr env1 fun as env2 => Q (.d d :: as) env2
@[simp] def rSlot (i : Nat) (tr : TDR) : TDR := fun env Q => match env[i]? with
  | some c => (match c.isOwn with
    | true => tr env fun as env2 => Q (.s i :: as) env2
    | false => False)
  | none => False
theorem dr_nil : DR X B [] rNil := ⟨_, pa_nil, fun F H σ env Q Q' R ht k => k [] env [] F H ht (Same.refl _) R .nil⟩
theorem ArgR.mono {K : PySem.W.Frag} {F F' : Hp} {σ : St} {v : V} {a : Arg} (s : Same F F') (h : ArgR K F σ v a) : ArgR K F' σ v a := by
  cases a with
  | d x => exact Rp.mono s h
  | s i => exact h
theorem dr_cons (ha : DE X B e ta) (hr : DR X B es tr) (hs : starEach (e :: es) X.env = (false, eval e X.env) :: starEach es X.env := by rfl) : DR X B (e :: es) (rCons ta tr) := by
  obtain ⟨te, p, h⟩ := ha.ex
  obtain ⟨te2, p2, h2⟩ := hr.ex
  refine ⟨_, pa_cons p p2 hs, fun F H σ env Q Q' R ht k => ?_⟩
  refine h F H σ env _ _ R ht fun d env1 v F1 H1 q1 s1 R1 r1 => ?_
  refine h2 F1 H1 σ env1 _ _ R1 q1 fun ds env2 vs F2 H2 q2 s2 R2 r2 => ?_
  exact k _ env2 _ F2 H2 q2 (s1.trans s2) R2 (.cons (Rp.mono s2 r1) r2)
theorem dr_slot {i : Nat} {x : Str} {p : Pos} (ha : PE X (.Name x p) (tVar i)) (hr : DR X B es tr) (hs : starEach (.Name x p :: es) X.env = (false, eval (.Name x p) X.env) :: starEach es X.env := by rfl) : DR X B (.Name x p :: es) (rSlot i tr) := by
  obtain ⟨te2, p2, h2⟩ := hr.ex
  refine ⟨_, pa_cons ha p2 hs, fun F H σ env Q Q' R ht k => ?_⟩
  have ht : (∃ c, env[i]? = some c ∧ c.isOwn = true) ∧ tr env fun as env2 => Q (.s i :: as) env2 := by
    unfold rSlot at ht
    split at ht
    · rename_i c hc
      split at ht
      · rename_i hw; exact ⟨⟨c, hc, hw⟩, ht⟩
      · exact ht.elim
    · exact ht.elim
  obtain ⟨⟨c, e, w⟩, ht⟩ := ht
  obtain ⟨a, s, _⟩ := (R.cells i c e).own_addr w
  refine ⟨_, s, h2 F H σ env _ _ R ht fun ds env2 vs F2 H2 q2 s2 R2 r2 => ?_⟩
  exact k _ env2 _ F2 H2 q2 s2 R2 (.cons s r2)
theorem mem_slots {i : Nat} {as : List Arg} : i ∈ slotsOf as ↔ .s i ∈ as := by
  unfold slotsOf
  rw [List.mem_filterMap]
  constructor
  · rintro ⟨a, h, e⟩
    cases a with
    | s j => cases e; exact h
    | d x => cases e
  · exact fun h => ⟨_, h, rfl⟩
theorem slots_inj {as : List Arg} {i k l : Nat} (nd : (slotsOf as).Nodup) (h1 : as[k]? = some (.s i)) (h2 : as[l]? = some (.s i)) : k = l := by
  induction as generalizing k l with
  | nil => simp at h1
  | cons a r ih =>
    have nd' : (slotsOf r).Nodup := by
      cases a with
      | d x => exact nd
      | s j => exact (List.nodup_cons.mp nd).2
    cases k with
    | zero =>
      cases l with
      | zero => rfl
      | succ l =>
        simp at h1 h2
        subst h1
        have : i ∈ slotsOf r := mem_slots.mpr (List.mem_of_getElem? h2)
        exact absurd this (List.nodup_cons.mp nd).1
    | succ k =>
      cases l with
      | zero =>
        simp at h1 h2
        subst h2
        have : i ∈ slotsOf r := mem_slots.mpr (List.mem_of_getElem? h1)
        exact absurd this (List.nodup_cons.mp nd).1
      | succ l => exact congrArg (· + 1) (ih (k := k) (l := l) nd' (by simpa using h1) (by simpa using h2))
theorem args_get {K : PySem.W.Frag} {F : Hp} {σ : St} : ∀ {vs : List V} {as : List Arg} {k : Nat} {a : Arg}, ArgsR K F σ vs as → as[k]? = some a → ∃ v, vs[k]? = some v ∧ ArgR K F σ v a
  | _, _, _, _, .nil, e => by simp at e
  | _, _, 0, _, .cons r _, e => by simp at e; subst e; exact ⟨_, rfl, r⟩
  | _, _, k + 1, a, .cons _ t, e => by
    obtain ⟨u, h1, h2⟩ := args_get (k := k) (a := a) t (by simpa using e)
    exact ⟨u, by simpa using h1, h2⟩
end
end L2.DL

namespace L2.DL
open PySem PySem.Spec PyProof.Rows

section
variable {K : PySem.W.Frag} {B : Bd} {F H : Hp} {σ : St} {env : DEnv} {vs : List V} {as : List Arg}
theorem hand_own {c : Cell} (w : c.hand.isOwn = true) : c.isOwn = true := by
  cases c with
  | none => cases w
  | val d => cases w
  | own _ _ => rfl
  | opq _ _ => rfl
/-- the addresses handed in -/
def HandM (σ : St) (env : DEnv) (as : List Arg) : Addr → Prop := fun b => ∃ i c, Arg.s i ∈ as ∧ env[i]? = some c ∧ c.isOwn = true ∧ σ[i]? = some (some (.ref b))
theorem HandM.addr (R : Rep K B F H σ env) {b : Addr} (h : HandM σ env as b) : F b = none ∧ H b ≠ none ∧ B.P b = none ∧ (B.H0 b = none ∨ B.M b) := by
  obtain ⟨i, c, _, e, w, s⟩ := h
  obtain ⟨a, s', r⟩ := (R.cells i c e).own_addr w
  rw [s] at s'; cases s'
  exact r
theorem handIn_get {k : Nat} {c : Cell} (e : (handIn env as)[k]? = some c) : ∃ a, as[k]? = some a ∧ c = (match a with | .d x => .val x | .s i => (env[i]?.getD .none).hand) := by
  unfold handIn at e
  rw [List.getElem?_map] at e
  cases z : as[k]? with
  | none => rw [z] at e; cases e
  | some a => rw [z] at e; cases e; exact ⟨a, rfl, by cases a <;> rfl⟩
theorem Rep.handed (R : Rep K B F H σ env) (ra : ArgsR K F σ vs as) (nd : (slotsOf as).Nodup) : Rep K ⟨HandM σ env as, H, F, vs, fun _ => none⟩ F H (vs.map some) (handIn env as) where
  len := by unfold handIn; rw [List.length_map, List.length_map, Paired.length ra]
  sub := R.sub
  fix := fun b o e _ => e
  gro := Same.refl _
  new := fun b e n => absurd e n
  mf := fun b m => (m.addr R).1
  mh := fun b m => (m.addr R).2.1
  m0 := fun b m => (m.addr R).2.1
  pin := fun b o e => by cases e
  mp := fun _ _ => rfl
  pf := fun b o e => by cases e
  cells := fun k c e => by
    obtain ⟨a, ea, rfl⟩ := handIn_get e
    obtain ⟨v, ev, rv⟩ := args_get ra ea
    have ev' : (vs.map some)[k]? = some (some v) := by rw [List.getElem?_map, ev]; rfl
    cases a with
    | d x => exact ⟨v, ev', rv⟩
    | s i =>
      have sv : σ[i]? = some (some v) := rv
      show CellOk _ _ _ _ _ _ ((env[i]?.getD .none).hand)
      cases z : env[i]? with
      | none => trivial
      | some c0 =>
        have h := R.cells i c0 z
        have own : ∀ {fr : Bool} {c : OC}, c0.isOwn = true → OwnOk K B F H σ[i]? i fr c → OwnOk K ⟨HandM σ env as, H, F, vs, fun _ => none⟩ F H (vs.map some)[k]? k false c := by
          rintro fr c w ⟨a, h1, h2, h3, h4, h5⟩
          rw [sv] at h1; cases h1
          exact ⟨a, ev', h2, h3, rfl, by simpa using ⟨⟨i, c0, List.mem_of_getElem? ea, z, w, sv⟩, ev⟩⟩
        cases c0 with
        | none => trivial
        | val d =>
          obtain ⟨v', h1, h2⟩ := h
          rw [sv] at h1; cases h1
          exact ⟨v, ev', h2⟩
        | own fr c => exact own rfl h
        | opq fr φ => obtain ⟨c, h1, h2⟩ := h; exact ⟨c, h1, own rfl h2⟩
  dis := fun k l b c c' e1 e2 w1 w2 s1 s2 => by
    have key : ∀ {k : Nat} {c : Cell}, (handIn env as)[k]? = some c → c.isOwn = true → (vs.map some)[k]? = some (some (.ref b)) → ∃ i c0, as[k]? = some (.s i) ∧ env[i]? = some c0 ∧ c0.isOwn = true ∧ σ[i]? = some (some (.ref b)) := by
      intro k c e w s
      obtain ⟨a, ea, rfl⟩ := handIn_get e
      obtain ⟨v, ev, rv⟩ := args_get ra ea
      rw [List.getElem?_map, ev] at s
      cases s
      cases a with
      | d x => cases w
      | s i =>
        have w : ((env[i]?.getD .none).hand).isOwn = true := w
        cases z : env[i]? with
        | none => rw [z] at w; cases w
        | some c0 =>
          rw [z] at w
          exact ⟨i, c0, ea, z, hand_own w, rv⟩
    obtain ⟨i, c0, a1, z1, o1, t1⟩ := key e1 w1 s1
    obtain ⟨j, c1, a2, z2, o2, t2⟩ := key e2 w2 s2
    have := R.dis i j b c0 c1 z1 z2 o1 o2 t1 t2
    subst this
    exact slots_inj nd a1 a2
theorem find_slot {i k : Nat} (h : as.findIdx? (isS i) = some k) : as[k]? = some (.s i) := by
  obtain ⟨hk, h1, _⟩ := List.findIdx?_eq_some_iff_getElem.mp h
  rw [List.getElem?_eq_getElem hk]
  cases z : as[k] with
  | d x => rw [z] at h1; cases h1
  | s j => rw [z] at h1; rw [eq_of_beq (show (i == j) = true from h1)]
theorem find_none {i : Nat} (h : as.findIdx? (isS i) = none) : Arg.s i ∉ as := fun m => by
  have := List.findIdx?_eq_none_iff.mp h _ m
  simp [isS] at this
theorem Rep.taken {F' H' : Hp} {cs : List Cell} (R : Rep K B F H σ env) (ra : ArgsR K F σ vs as) (s : Same F F') (R' : Rep K ⟨HandM σ env as, H, F, vs, fun _ => none⟩ F' H' (vs.map some) cs) : Rep K B F' H' σ (takeBack env as cs) := by
  have newF : ∀ b, F b = none → H b ≠ none → F' b = none := fun b f h => by
    cases z : F' b with
    | none => rfl
    | some o => exact absurd (R'.new b f (by rw [z]; simp)) h
  have keep : ∀ b o, H b = some o → ¬ HandM σ env as b → H' b = some o := R'.fix
  have nget : ∀ {i : Nat} {c : Cell}, (takeBack env as cs)[i]? = some c → ∃ c0, env[i]? = some c0 ∧ c = (match as.findIdx? (isS i) with | some k => c0.take (cs.getD k .none) | none => c0) := by
    intro i c e
    unfold takeBack at e
    rw [List.getElem?_mapIdx] at e
    cases z : env[i]? with
    | none => rw [z] at e; cases e
    | some c0 => rw [z] at e; cases e; exact ⟨c0, rfl, rfl⟩
  have oldOwn : ∀ {i : Nat} {c0 : Cell}, ((match as.findIdx? (isS i) with | some k => c0.take (cs.getD k .none) | none => c0) : Cell).isOwn = true → c0.isOwn = true := by
    intro i c0 w
    cases z : as.findIdx? (isS i) with
    | none => rw [z] at w; exact w
    | some k =>
      rw [z] at w
      cases y : c0.isOwn with
      | true => rfl
      | false =>
        have w : (c0.take (cs.getD k .none)).isOwn = true := w
        unfold Cell.take at w
        rw [y] at w
        generalize cs.getD k Cell.none = cc at w
        cases cc <;> (have w' : c0.isOwn = true := w; rw [y] at w'; cases w')
  refine ⟨?_, R'.sub, fun b o e m => ?_, R.gro.trans s, fun b e n => ?_, fun b m => newF b (R.mf b m) (R.mh b m), fun b m => ?_, R.m0, fun b o e => ?_, R.mp, fun b o e => newF b (R.pf b o e) (by rw [R.pin b o e]; simp), fun i c e => ?_, ?_⟩
  · unfold takeBack; rw [List.length_mapIdx]; exact R.len
  · refine keep b o (R.fix b o e m) fun h => ?_
    rcases (h.addr R).2.2.2 with q | q
    · rw [q] at e; cases e
    · exact m q
  · by_cases q : F b = none
    · exact (R.newp (R'.new b q n)).2.1
    · exact R.new b e q
  · by_cases q : HandM σ env as b
    · exact R'.mh b q
    · cases z : H b with
      | none => exact absurd z (R.mh b m)
      | some o => rw [keep b o z q]; simp
  · refine keep b o (R.pin b o e) fun h => ?_
    have := (h.addr R).2.2.1
    rw [this] at e; cases e
  · obtain ⟨c0, e0, rfl⟩ := nget e
    have h0 := R.cells i c0 e0
    cases z : as.findIdx? (isS i) with
    | none =>
      refine h0.mono s fun w a sa n f => ⟨?_, newF a f n⟩
      cases y : H a with
      | none => exact absurd y n
      | some o =>
        refine keep a o y ?_
        rintro ⟨j, c1, m1, e1, w1, s1⟩
        have := R.dis i j a c0 c1 e0 e1 w w1 sa s1
        subst this
        exact find_none z m1
    | some k =>
      have ea := find_slot z
      obtain ⟨v, ev, rv⟩ := args_get ra ea
      have sv : σ[i]? = some (some v) := rv
      show CellOk K B F' H' σ[i]? i (c0.take (cs.getD k .none))
      unfold Cell.take
      cases y : c0.isOwn with
      | false =>
        have mn : CellOk K B F' H' σ[i]? i c0 := h0.mono s fun w => by rw [y] at w; cases w
        cases (cs.getD k Cell.none) <;> exact mn
      | true =>
        obtain ⟨a, sa, fa, na, pa, _⟩ := h0.own_addr y
        rw [sv] at sa; cases sa
        have flag : if c0.fr = true then B.H0 a = none else B.M a ∧ B.par[i]? = some (.ref a) := by
          cases c0 with
          | none => cases y
          | val d => cases y
          | own fr c =>
            obtain ⟨a', h1, _, _, _, h5⟩ := h0
            rw [sv] at h1; cases h1; exact h5
          | opq fr φ =>
            obtain ⟨c, _, a', h1, _, _, _, h5⟩ := h0
            rw [sv] at h1; cases h1; exact h5
        have ok : ∀ {fr : Bool} {x : OC}, OwnOk K ⟨HandM σ env as, H, F, vs, fun _ => none⟩ F' H' (vs.map some)[k]? k fr x → OwnOk K B F' H' σ[i]? i c0.fr x := by
          rintro fr x ⟨b, h1, h2, h3, _, _⟩
          rw [List.getElem?_map, ev] at h1
          cases h1
          exact ⟨a, sv, h2, h3, pa, flag⟩
        rw [List.getD_eq_getElem?_getD]
        cases y2 : cs[k]? with
        | none => trivial
        | some c' =>
          have h' := R'.cells k c' y2
          cases c' with
          | none => trivial
          | val d => trivial
          | own fr x => exact ok h'
          | opq fr φ => obtain ⟨x, h1, h2⟩ := h'; exact ⟨x, h1, ok h2⟩
  · intro i j a c c' e1 e2 w1 w2 s1 s2
    obtain ⟨c0, z1, rfl⟩ := nget e1
    obtain ⟨c1, z2, rfl⟩ := nget e2
    exact R.dis i j a c0 c1 z1 z2 (oldOwn w1) (oldOwn w2) s1 s2
end
section
variable {X : Cx} {B : Bd} {e : Expr} {es : List Expr} {pos : Pos} {tr : TDR}
/-- what a call leaves behind in the caller's names, slot by slot -/
def putBack : DEnv → List Arg → List Cell → DEnv
  | env, [], _ => env
  | env, .d _ :: as, cs => putBack env as cs.tail
  | env, .s i :: as, cs => putBack (env.set i ((env[i]?.getD .none).take (cs.headD .none))) as cs.tail
theorem take_get (i : Nat) : ∀ (as : List Arg) (cs : List Cell) (env : DEnv), (slotsOf as).Nodup →
    (putBack env as cs)[i]? = env[i]?.map fun c => match as.findIdx? (isS i) with | some k => c.take (cs.getD k .none) | none => c
  | [], cs, env, _ => by
    show env[i]? = _
    cases env[i]? <;> rfl
  | .d x :: as, cs, env, nd => by
    show (putBack env as cs.tail)[i]? = _
    rw [take_get i as cs.tail env nd, List.findIdx?_cons]
    show _ = env[i]?.map fun c => match (as.findIdx? (isS i)).map (· + 1) with | some k => c.take (cs.getD k .none) | none => c
    cases as.findIdx? (isS i) with
    | none => rfl
    | some k => cases cs <;> rfl
  | .s j :: as, cs, env, nd => by
    have nd : (j :: slotsOf as).Nodup := nd
    obtain ⟨nj, nd⟩ := List.nodup_cons.mp nd
    show (putBack (env.set j ((env[j]?.getD .none).take (cs.headD .none))) as cs.tail)[i]? = _
    rw [take_get i as cs.tail _ nd, List.findIdx?_cons]
    by_cases q : i = j
    · subst q
      have fn : as.findIdx? (isS i) = none := List.findIdx?_eq_none_iff.mpr fun a m => by
        cases a with
        | d x => rfl
        | s k =>
          cases z : (isS i (.s k)) with
          | false => rfl
          | true =>
            have : i = k := eq_of_beq z
            subst this
            exact absurd (mem_slots.mpr m) nj
      have t : isS i (.s i) = true := beq_self_eq_true i
      rw [fn, if_pos t, List.getElem?_set_self']
      cases e : env[i]? with
      | none => rfl
      | some c => cases cs <;> rfl
    · have t : ¬ isS i (.s j) = true := fun h => q (eq_of_beq h)
      rw [if_neg t, List.getElem?_set_ne (fun h => q h.symm)]
      cases as.findIdx? (isS i) with
      | none => rfl
      | some k => cases cs <;> rfl
theorem take_put {env : DEnv} {as : List Arg} {cs : List Cell} (nd : (slotsOf as).Nodup) : takeBack env as cs = putBack env as cs := by
  refine List.ext_getElem? fun i => ?_
  rw [take_get i as cs env nd]
  unfold takeBack
  first | (rw [List.getElem?_mapIdx]; done) | (rw [List.getElem?_mapIdx]; rfl)
def nodB : List Nat → Bool
  | [] => true
  | x :: r => !(r.any fun y => Nat.beq x y) && nodB r
theorem nodB_ok : ∀ {l : List Nat}, nodB l = true → l.Nodup
  | [], _ => .nil
  | x :: r, h => by
    have h : (!(r.any fun y => Nat.beq x y) && nodB r) = true := h
    rw [Bool.and_eq_true] at h
    refine List.nodup_cons.mpr ⟨fun m => ?_, nodB_ok h.2⟩
    have : (r.any fun y => Nat.beq x y) = true := List.any_eq_true.mpr ⟨x, m, Nat.beq_refl x⟩
    rw [this] at h; cases h.1
def callOk (n : Nat) (as : List Arg) : Bool := Nat.beq as.length n && nodB (slotsOf as)
theorem callOk_ok {n : Nat} {as : List Arg} (h : callOk n as = true) : as.length = n ∧ (slotsOf as).Nodup := by
  unfold callOk at h
  rw [Bool.and_eq_true] at h
  exact ⟨Nat.eq_of_beq_eq_true h.1, nodB_ok h.2⟩
@[simp] def qCall (spec : FSpec) (n : Nat) (tr : TDR) : TD := fun env Q => tr env fun as env1 => match callOk n as with
  | true => spec (handIn env1 as) fun d cs => Q d (putBack env1 as cs)
  | false => False
theorem de_call {k n : Nat} {f : Addr} {fd : FuncData} {ps : List Str} {spec : FSpec} {x : Str} {p : Pos} (G : FnOk X.prog X.w X.K X.mg X.base CX0 k f fd ps (spD X.K n spec)) (hr : Room k X.A) (hg : Gl X x) (hm : X.mg x = some (.ref f)) (hk : PySem.W.keepIn X.K (.ref f) = true) (hb : Binds X.K fd ps [])
    (ha : DR X B (e :: es) tr) (hdb : (x == ("__debug__" : Str)) = false := by decide) (he : starEach (e :: es) X.env = (false, eval e X.env) :: starEach es X.env := by rfl) (hpl : (backTo pos (starEach es X.env)).any (·.1) = false := by rfl) :
    DE X B (.Call (.Name x p) (e :: es) [] pos) (qCall spec n tr) := by
  obtain ⟨te, q, h⟩ := ha.ex
  refine ⟨_, pe_call G hr hg hm hk hb .nil pass0 q hdb he hpl, fun F H σ env Q Q' R ht k => ?_⟩
  refine h F H σ env _ _ R ht fun as env1 vs F1 H1 q1 s1 R1 ra => ?_
  have q1 : callOk n as = true ∧ spec (handIn env1 as) fun d cs => Q d (putBack env1 as cs) := by
    split at q1
    · rename_i hc; exact ⟨hc, q1⟩
    · exact q1.elim
  obtain ⟨hc, hs⟩ := q1
  obtain ⟨hn, nd⟩ := callOk_ok hc
  rw [List.append_nil]
  refine ⟨F1, HandM σ env1 as, handIn env1 as, by rw [Paired.length ra, hn], R1.handed ra nd, _, hs, fun d cs v F' H' q s' R' r' => ?_⟩
  exact k d _ v F' H' q (s1.trans s') (take_put (cs := cs) nd ▸ R1.taken ra s' R') r'
end
end L2.DL

namespace L2.DL
open PySem PySem.Spec PyProof.Rows

/-! ### data as PyData, for == at any depth -/
mutual
def D.py : D → PyData
  | .non => .none
  | .bl b => .bool b
  | .int i => .int i
  | .str x => .str x
  | .tup xs => .tuple (D.pys xs)
  | .lst xs => .list (D.pys xs)
  | .scr xs => .list (D.pys xs)
  | .atm _ => .none
  | .dct _ => .none
def D.pys : List D → List PyData
  | [] => []
  | d :: r => d.py :: D.pys r
end
mutual
/-- no dict, no class, no def within -/
def D.pl : D → Bool
  | .non => true
  | .bl _ => true
  | .int _ => true
  | .str _ => true
  | .tup xs => D.pls xs
  | .lst xs => D.pls xs
  | .scr xs => D.pls xs
  | .atm _ => false
  | .dct _ => false
def D.pls : List D → Bool
  | [] => true
  | d :: r => d.pl && D.pls r
end
section
variable {K : PySem.W.Frag} {F H : Hp}
mutual
theorem dp_of (s : Same F H) : ∀ (d : D) (v : V), Rp K F v d → d.pl = true → Dp K H v d.py
  | .non, _, h, _ => by cases h; rw [D.py]; exact .non
  | .bl b, _, h, _ => by cases h; rw [D.py]; exact .bl b
  | .int b, _, h, _ => by cases h; rw [D.py]; exact .int b
  | .str b, _, h, _ => by cases h; rw [D.py]; exact .str b
  | .tup xs, _, h, p => by
    cases h with
    | tup hs ha => rw [D.py]; exact .tup (same_sqT s hs) (dps_of s xs _ ha (by rw [D.pl] at p; exact p))
  | .lst xs, _, h, p => by
    cases h with
    | lst hs ha => rw [D.py]; exact .lst (.of (s _ _ hs)) (dps_of s xs _ ha (by rw [D.pl] at p; exact p))
  | .scr xs, _, h, p => by
    cases h with
    | scr hs ha => rw [D.py]; exact .lst (s.seq hs) (dps_of s xs _ ha (by rw [D.pl] at p; exact p))
  | .atm _, _, _, p => by rw [D.pl] at p; cases p
  | .dct _, _, _, p => by rw [D.pl] at p; cases p
theorem dps_of (s : Same F H) : ∀ (ds : List D) (vs : List V), RpA K F vs ds → D.pls ds = true → DpAll K H vs (D.pys ds)
  | [], _, h, _ => by cases h; rw [D.pys]; exact .nil
  | d :: r, _, h, p => by
    cases h with
    | cons h1 h2 =>
      rw [D.pls, Bool.and_eq_true] at p
      rw [D.pys]
      exact .cons (dp_of s d _ h1 p.1) (dps_of s r _ h2 p.2)
end
end
/-- == of data that are no objects -/
@[simp] def eqS : D → D → Option Bool
  | .non, .non => some true
  | .int i, .int j => some (decide (i = j))
  | .bl i, .bl j => some (decide (i = j))
  | .str i, .str j => some (decide (i = j))
  | .non, .int _ => some false
  | .non, .bl _ => some false
  | .non, .str _ => some false
  | .int _, .non => some false
  | .bl _, .non => some false
  | .str _, .non => some false
  | .int _, .str _ => some false
  | .str _, .int _ => some false
  | .bl _, .str _ => some false
  | .str _, .bl _ => some false
  | _, _ => none
def deepOk (d e : D) : Prop := d.pl = true ∧ e.pl = true ∧ SeqAt.shaped d.py = true ∧ SeqAt.shaped e.py = true
@[simp] def eqD : S2 := fun d e Q => match eqS d e with
  | some b => Q (.bl b)
  | none => deepOk d e ∧ Q (.bl (PyData.eqv d.py e.py))
@[simp] def neD : S2 := fun d e Q => match eqS d e with
  | some b => Q (.bl (!b))
  | none => deepOk d e ∧ Q (.bl (!PyData.eqv d.py e.py))
theorem eqS_rp {K : PySem.W.Frag} {F : Hp} {x y : V} {d e : D} {b : Bool} (h : eqS d e = some b) (rx : Rp K F x d) (ry : Rp K F y e) : scal x y = true ∧ decide (x = y) = b := by
  cases rx <;> cases ry <;> first
    | (cases h; done)
    | (injection h with h; subst h; refine ⟨rfl, ?_⟩; first | rfl | (rw [decide_eq_decide]; simp) | simp)
section
variable {X : Cx}
theorem o_eq (hu : X.A.units + 64 < cLine) : DOp X (compareOp .Eq) eqD := by
  refine ⟨_, op_eq.or (op_eqD hu), fun F H x y d e Q Q' s rx ry h k => ?_⟩
  unfold eqD at h
  split at h
  · rename_i b hb
    obtain ⟨h1, h2⟩ := eqS_rp hb rx ry
    exact .inl ⟨h1, by rw [h2]; exact k _ _ F H h .nil (.bl _)⟩
  · obtain ⟨⟨p1, p2, p3, p4⟩, h⟩ := h
    exact .inr ⟨_, _, dp_of s d x rx p1, dp_of s e y ry p2, p3, p4, k _ _ F H h .nil (.bl _)⟩
theorem o_ne (hu : X.A.units + 64 < cLine) : DOp X (compareOp .NotEq) neD := by
  refine ⟨_, op_ne.or (op_neD hu), fun F H x y d e Q Q' s rx ry h k => ?_⟩
  unfold neD at h
  split at h
  · rename_i b hb
    obtain ⟨h1, h2⟩ := eqS_rp hb rx ry
    exact .inl ⟨h1, by rw [h2]; exact k _ _ F H h .nil (.bl _)⟩
  · obtain ⟨⟨p1, p2, p3, p4⟩, h⟩ := h
    exact .inr ⟨_, _, dp_of s d x rx p1, dp_of s e y ry p2, p3, p4, k _ _ F H h .nil (.bl _)⟩

/-! ### whole numbers -/
@[simp] def i2 (f : Int → Int → (D → Prop) → Prop) : S2 := fun d e Q => match d, e with
  | .int i, .int j => f i j Q
  | _, _ => False
theorem o_int {f : Value → Value → Sem Value} {C : Int → Int → Prop} {g : Int → Int → V} {g' : Int → Int → D} (h : OpR X f (rI C g)) (hg : ∀ F i j, Rp X.K F (g i j) (g' i j)) : DOp X f (i2 fun i j Q => C i j ∧ Q (g' i j)) := by
  refine ⟨_, h, fun F H x y d e Q Q' s rx ry h k => ?_⟩
  cases rx <;> cases ry <;> first | exact h.elim | exact ⟨_, _, rfl, rfl, h.1, k _ _ F H h.2 .nil (hg F _ _)⟩
theorem o_int0 {f : Value → Value → Sem Value} {g : Int → Int → V} {g' : Int → Int → D} (h : OpR X f (rI0 g)) (hg : ∀ F i j, Rp X.K F (g i j) (g' i j)) : DOp X f (i2 fun i j Q => Q (g' i j)) := by
  refine ⟨_, h, fun F H x y d e Q Q' s rx ry h k => ?_⟩
  cases rx <;> cases ry <;> first | exact h.elim | exact ⟨_, _, rfl, rfl, k _ _ F H h .nil (hg F _ _)⟩
theorem o_sub : DOp X (binaryOp .Sub) (i2 fun i j Q => Q (.int (i - j))) := o_int0 op_sub fun _ _ _ => .int _
theorem o_mod : DOp X (binaryOp .Mod) (i2 fun i j Q => 0 < j ∧ Q (.int (i % j))) := o_int op_mod fun _ _ _ => .int _
theorem o_pow : DOp X (binaryOp .Pow) (i2 fun i j Q => CPow i j ∧ Q (.int (i ^ j.toNat))) := o_int op_pow fun _ _ _ => .int _
theorem o_shl : DOp X (binaryOp .LShift) (i2 fun i j Q => CPow i j ∧ Q (.int (i * 2 ^ j.toNat))) := o_int op_shl fun _ _ _ => .int _
theorem o_shr : DOp X (binaryOp .RShift) (i2 fun i j Q => 0 ≤ j ∧ Q (.int (i / 2 ^ j.toNat))) := o_int op_shr fun _ _ _ => .int _
theorem o_band : DOp X (binaryOp .BitAnd) (i2 fun i j Q => Q (.int (Builtin.bitAnd i j))) := o_int0 op_and fun _ _ _ => .int _
theorem o_bor : DOp X (binaryOp .BitOr) (i2 fun i j Q => Q (.int (Builtin.bitOr i j))) := o_int0 op_or fun _ _ _ => .int _
def CDv (i j : Int) : Prop := CDiv i j ∨ CDivW i j
theorem o_fdiv : DOp X (binaryOp .FloorDiv) (i2 fun i j Q => CDv i j ∧ Q (.int (i / j))) := by
  refine ⟨_, op_fdiv.or op_fdivW, fun F H x y d e Q Q' s rx ry h k => ?_⟩
  cases rx <;> cases ry <;> first | exact h.elim | skip
  rcases h.1 with c | c
  · exact .inl ⟨_, _, rfl, rfl, c, k _ _ F H h.2 .nil (.int _)⟩
  · exact .inr ⟨_, _, rfl, rfl, c, k _ _ F H h.2 .nil (.int _)⟩
theorem o_lt : DOp X (compareOp .Lt) (i2 fun i j Q => Q (.bl (decide (i < j)))) := o_int0 op_lt fun _ _ _ => .bl _
theorem o_le : DOp X (compareOp .LtE) (i2 fun i j Q => Q (.bl (decide (i ≤ j)))) := o_int0 op_le fun _ _ _ => .bl _
theorem o_gt : DOp X (compareOp .Gt) (i2 fun i j Q => Q (.bl (decide (j < i)))) := o_int0 op_gt fun _ _ _ => .bl _
theorem o_ge : DOp X (compareOp .GtE) (i2 fun i j Q => Q (.bl (decide (j ≤ i)))) := o_int0 op_ge fun _ _ _ => .bl _
/-! ### +, * -/
@[simp] def addD : S2 := fun d e Q => match d, e with
  | .int i, .int j => Q (.int (i + j))
  | .str a, .str b => a.length + b.length ≤ sizeLine ∧ Q (.str (a ++ b))
  | .lst a, .lst b => a.length + b.length ≤ sizeLine ∧ Q (.lst (a ++ b))
  | .tup a, .tup b => a.length + b.length ≤ sizeLine ∧ Q (.tup (a ++ b))
  | _, _ => False
theorem o_add : DOp X (binaryOp .Add) addD := by
  refine ⟨_, op_add.or (op_add_str.or (op_cat.or op_catA)), fun F H x y d e Q Q' s rx ry h k => ?_⟩
  cases rx with
  | int i => cases ry <;> first | exact h.elim | exact .inl ⟨_, _, rfl, rfl, k _ _ F H h .nil (.int _)⟩
  | str i => cases ry <;> first | exact h.elim | exact .inr (.inl ⟨_, _, rfl, rfl, h.1, k _ _ F H h.2 .nil (.str _)⟩)
  | lst h1 r1 =>
    cases ry with
    | lst h2 r2 =>
      refine .inr (.inr (.inl ⟨_, _, _, _, rfl, rfl, s _ _ h1, s _ _ h2, by rw [r1.length, r2.length]; exact h.1, fun p hp => ?_⟩))
      exact k _ _ _ _ h.2 (.new hp) (.lst upd_same ((r1.append r2).mono (same_upd (s.free hp))))
    | _ => exact h.elim
  | @tup a vs ds h1 r1 =>
    cases ry with
    | @tup b ws es h2 r2 =>
      refine .inr (.inr (.inr ⟨_, _, vs, ws, rfl, rfl, same_sqT s h1, same_sqT s h2, by rw [r1.length, r2.length]; exact h.1, fun e1 => ?_, fun _ e2 => ?_, fun _ _ p hp => ?_⟩))
      · subst e1; cases r1; exact k _ _ F H h.2 .nil (.tup h2 r2)
      · subst e2; cases r2
        have h2' := h.2
        rw [List.append_nil] at h2'
        exact k _ _ F H h2' .nil (.tup h1 r1)
      · exact k _ _ _ _ h.2 (.new hp) (.tup (.of upd_same) ((r1.append r2).mono (same_upd (s.free hp))))
    | _ => exact h.elim
  | _ => exact h.elim
def CMl (i j : Int) : Prop := CMul i j ∨ CMulW i j
theorem rep_size (a : Array Nat) : ∀ (n : Nat) (b : Array Nat), (List.foldl (· ++ ·) b (List.replicate n a)).size = b.size + n * a.size
  | 0, b => by simp
  | n + 1, b => by
    rw [List.replicate_succ, List.foldl_cons, rep_size a n, Array.size_append, Nat.add_mul]
    omega
def repS (z : Str) (n : Nat) : Str := ⟨(List.replicate n z.cps).foldl (· ++ ·) #[]⟩
def CRs (z : Str) (n : Int) : Prop := 1 < n ∧ n ≤ 100000 ∧ 0 < z.length ∧ z.length ≤ 100
theorem op_mulS : OpR X (binaryOp .Mult) (fun x y H Q => ∃ z n, x = .str z ∧ y = .int n ∧ CRs z n ∧ Q (.str (repS z n.toNat)) H) := by
  intro pins s σ H x y v u Q I rx ry h
  obtain ⟨z, n, rfl, rfl, ⟨h1, h2, h3, h4⟩, q⟩ := h
  obtain ⟨t, rfl⟩ := rx
  obtain ⟨t', rfl⟩ := ry
  have e1 : ¬ n < 1 := by omega
  have e2 : ¬ ((n == 1 || z.length == 0) = true) := by
    simp
    omega
  have hm : z.length * n.toNat ≤ 100 * 100000 := Nat.mul_le_mul h4 (by omega)
  refine PySem.P.mul_str ?_ (fun _ _ => ?_) (fun _ _ => ?_) ?_
  · rw [decide_eq_false (by omega), decide_eq_false (by omega)]; rfl
  · have : (2 ^ 63 - 1 : Int) / n ≥ (2 ^ 63 - 1) / 100000 := by
      apply Int.le_ediv_of_mul_le (by omega)
      have : ((2 ^ 63 - 1) / 100000 : Int) * n ≤ ((2 ^ 63 - 1) / 100000 : Int) * 100000 := Int.mul_le_mul_of_nonneg_left h2 (by decide)
      omega
    omega
  · show decide (z.length * n.toNat > sizeLine) = false
    rw [decide_eq_false_iff_not]
    have : (10000000 : Nat) ≤ sizeLine := by decide
    omega
  · rw [if_neg e1, if_neg e2]
    refine ⟨?_, ?_⟩
    · show (List.foldl (· ++ ·) #[] (List.replicate n.toNat z.cps)).size ≤ sizeLine
      rw [rep_size]
      have : (10000000 : Nat) ≤ sizeLine := by decide
      have hm' : n.toNat * z.cps.size ≤ 100 * 100000 := by rw [Nat.mul_comm]; exact hm
      show 0 + n.toNat * z.cps.size ≤ sizeLine
      omega
    · exact ⟨.str _, H, I.tok _, ⟨_, rfl⟩, q⟩
@[simp] def mulD : S2 := fun d e Q => match d, e with
  | .int i, .int j => CMl i j ∧ Q (.int (i * j))
  | .lst a, .int k => -(2 ^ 63) ≤ k ∧ k < 2 ^ 63 ∧ a.length * k.toNat ≤ sizeLine ∧ Q (.lst (List.replicate k.toNat a).flatten)
  | .str z, .int n => CRs z n ∧ Q (.str (repS z n.toNat))
  | _, _ => False
theorem RpA.rep {K : PySem.W.Frag} {F : Hp} {vs : List V} {ds : List D} (r : RpA K F vs ds) : ∀ n : Nat, RpA K F (List.replicate n vs).flatten (List.replicate n ds).flatten
  | 0 => .nil
  | n + 1 => by rw [List.replicate_succ, List.flatten_cons, List.replicate_succ, List.flatten_cons]; exact r.append (RpA.rep r n)
theorem o_mul : DOp X (binaryOp .Mult) mulD := by
  refine ⟨_, op_mul.or (op_mulW.or (op_rep.or op_mulS)), fun F H x y d e Q Q' s rx ry h k => ?_⟩
  cases rx with
  | int i =>
    cases ry <;> first | exact h.elim | skip
    rcases h.1 with c | c
    · exact .inl ⟨_, _, rfl, rfl, c, k _ _ F H h.2 .nil (.int _)⟩
    · exact .inr (.inl ⟨_, _, rfl, rfl, c, k _ _ F H h.2 .nil (.int _)⟩)
  | lst h1 r1 =>
    cases ry <;> first | exact h.elim | skip
    obtain ⟨c1, c2, c3, h⟩ := h
    refine .inr (.inr (.inl ⟨_, _, _, rfl, rfl, s _ _ h1, c1, c2, by rw [r1.length]; exact c3, fun p hp => ?_⟩))
    exact k _ _ _ _ h (.new hp) (.lst upd_same ((r1.rep _).mono (same_upd (s.free hp))))
  | str z =>
    cases ry <;> first | exact h.elim | skip
    exact .inr (.inr (.inr ⟨_, _, rfl, rfl, h.1, k _ _ F H h.2 .nil (.str _)⟩))
  | _ => cases ry <;> exact h.elim
/-! ### items -/
@[simp] def ixD : S2 := fun d e Q => match d, e with
  | .tup xs, .int i => ∃ x, atI xs i = some x ∧ Q x
  | .lst xs, .int i => ∃ x, atI xs i = some x ∧ Q x
  | .scr xs, .int i => ∃ x, atI xs i = some x ∧ Q x
  | .str z, .int i => z.length ≤ sizeLine ∧ ∃ c, atI z.cps.toList i = some c ∧ Q (.str ⟨#[c]⟩)
  | .dct kvs, .str k => ∃ x, (kvs.find? fun kv => decide (kv.1 = Sum.inr k)).map (·.2) = some x ∧ Q x
  | .dct kvs, .int k => ∃ x, (kvs.find? fun kv => decide (kv.1 = Sum.inl k)).map (·.2) = some x ∧ Q x
  | _, _ => False
def rIxD : R2 := fun x y H Q => ∃ a v, x = .ref a ∧ DGet H a y (some v) ∧ Q v H
theorem ix_dict (hu : X.A.units + 1 < cLine) : IxR X rIxD := by
  intro value slice pins s σ H x y v u Q I rx ry h hs
  obtain ⟨a, z, rfl, g, q⟩ := h
  cases rx
  rcases g with ⟨kvs, k, e, ey, l⟩ | ⟨kvs, k, b, e, ey, eb, l⟩
  · subst ey
    obtain ⟨zz, hd, vs, rel, dd⟩ := dk_rd I.hok e
    obtain ⟨w', hw, rw'⟩ := RelO.some_of (v := z) (o := valueAt vs k) (by rw [l]; exact rel.val k)
    exact subscriptTail_builtinR (x := w') dd.typeIs PySem.F.slot_dict_getitem.lookup (wpAny_getItem_of (kV_is ry) dd.mapOf hw ⟨rfl, ⟨z, H, I.tok _, rw', q⟩⟩) hs
  · subst ey
    cases (show u = Value.ref b from ry)
    obtain ⟨zz, hd, xs, rel, dd⟩ := dt_rd I.hok e
    obtain ⟨w', hw, rw'⟩ := RelO.some_of (v := z) (o := (atKey xs k).map (·.2)) (by rw [l]; exact rel.val k)
    obtain ⟨p, hp, hp2⟩ := Option.map_eq_some_iff.mp hw
    refine subscriptTail_builtinR (x := w') dd.typeIs PySem.F.slot_dict_getitem.lookup (wpAny_getItem_heap (tupleKind_room_in1 hu) (key_of I.hok eb) dd hp ?_) hs
    exact ⟨hp2, ⟨z, H, I.tok _, by rw [hp2]; exact rw', q⟩⟩
theorem RpK.find {K : PySem.W.Frag} {F : Hp} {k : Key} {x : D} : ∀ {kvs : List (Key × V)} {ds : List (Key × D)}, RpK K F kvs ds → (ds.find? fun kv => decide (kv.1 = k)).map (·.2) = some x → ∃ v, valV kvs k = some v ∧ Rp K F v x
  | _, _, .nil, e => by simp at e
  | (_ :: _), (_ :: _), .cons (k := k') h t, e => by
    by_cases q : k' = k
    · subst q
      rw [List.find?_cons_of_pos (by simp)] at e
      cases e
      exact ⟨_, valV_pos rfl, h⟩
    · rw [List.find?_cons_of_neg (by simpa using q)] at e
      obtain ⟨v, h1, h2⟩ := RpK.find t e
      exact ⟨v, by rw [valV_neg q]; exact h1, h2⟩
theorem o_ix (hu : X.A.units + 1 < cLine) : DIx X ixD := by
  refine ⟨_, ix_list.or (ix_tup.or (ix_str.or (ix_dict hu))), fun F H x y d e Q Q' s rx ry h k => ?_⟩
  cases rx with
  | lst h1 r1 =>
    cases ry <;> first | exact h.elim | skip
    obtain ⟨x, hx, h⟩ := h
    obtain ⟨v, hv, rv⟩ := r1.at hx
    exact .inl ⟨_, _, _, _, rfl, rfl, .of (s _ _ h1), hv, k _ _ F H h .nil rv⟩
  | scr h1 r1 =>
    cases ry <;> first | exact h.elim | skip
    obtain ⟨x, hx, h⟩ := h
    obtain ⟨v, hv, rv⟩ := r1.at hx
    exact .inl ⟨_, _, _, _, rfl, rfl, s.seq h1, hv, k _ _ F H h .nil rv⟩
  | tup h1 r1 =>
    cases ry <;> first | exact h.elim | skip
    obtain ⟨x, hx, h⟩ := h
    obtain ⟨v, hv, rv⟩ := r1.at hx
    exact .inr (.inl ⟨_, _, _, _, rfl, rfl, same_sqT s h1, hv, k _ _ F H h .nil rv⟩)
  | str z =>
    cases ry <;> first | exact h.elim | skip
    obtain ⟨h1, c, hc, h⟩ := h
    exact .inr (.inr (.inl ⟨_, _, _, rfl, rfl, h1, hc, k _ _ F H h .nil (.str _)⟩))
  | dct h1 r1 =>
    cases ry <;> first | exact h.elim | skip
    · obtain ⟨x, hx, h⟩ := h
      obtain ⟨v, hv, rv⟩ := r1.find hx
      exact .inr (.inr (.inr ⟨_, v, rfl, .inl ⟨_, _, .inl (s _ _ h1), rfl, hv.symm⟩, k _ _ F H h .nil rv⟩))
    · obtain ⟨x, hx, h⟩ := h
      obtain ⟨v, hv, rv⟩ := r1.find hx
      exact .inr (.inr (.inr ⟨_, v, rfl, .inl ⟨_, _, .inl (s _ _ h1), rfl, hv.symm⟩, k _ _ F H h .nil rv⟩))
  | _ => cases ry <;> exact h.elim
/-! ### in -/
@[simp] def eqF : D → D → Bool
  | .non, .non => true
  | .bl a, .bl b => a == b
  | .bl a, .int b => (if a then 1 else 0) == b
  | .int a, .bl b => a == (if b then 1 else 0)
  | .int a, .int b => a == b
  | .str a, .str b => a == b
  | _, _ => false
@[simp] def flatD : D → Bool
  | .non => true
  | .bl _ => true
  | .int _ => true
  | .str _ => true
  | _ => false
@[simp] def inL (x : D) (ys : List D) (Q : Bool → Prop) : Prop := flatD x = true ∧ ys.all flatD = true ∧ Q (ys.any fun y => eqF y x)
@[simp] def inB (x d : D) (Q : Bool → Prop) : Prop := match d with
  | .tup ys => inL x ys Q
  | .lst ys => inL x ys Q
  | .scr ys => inL x ys Q
  | .str z => ∃ c : Nat, x = .str ⟨#[c]⟩ ∧ Q (decide (c ∈ z.cps.toList))
  | .dct kvs => match x with
    | .str k => Q (kvs.any fun kv => decide (kv.1 = Sum.inr k))
    | .int k => Q (kvs.any fun kv => decide (kv.1 = Sum.inl k))
    | _ => False
  | _ => False
theorem flat_rp {K : PySem.W.Frag} {F : Hp} {v : V} {d : D} (r : Rp K F v d) (f : flatD d = true) : flatV v = true := by
  cases r <;> first | rfl | cases f
theorem flats_rp {K : PySem.W.Frag} {F : Hp} : ∀ {vs : List V} {ds : List D}, RpA K F vs ds → ds.all flatD = true → vs.all flatV = true
  | _, _, .nil, _ => rfl
  | _, _, .cons h t, f => by
    rw [List.all_cons, Bool.and_eq_true] at f ⊢
    exact ⟨flat_rp h f.1, flats_rp t f.2⟩
theorem eqF_rp {K : PySem.W.Frag} {F : Hp} {u v : V} {d e : D} (r : Rp K F u d) (q : Rp K F v e) (f : flatD d = true) (g : flatD e = true) : eqV u v = eqF d e := by
  cases r <;> cases q <;> first | exact absurd (show false = true from f) (by decide) | exact absurd (show false = true from g) (by decide) | rfl
theorem any_rp {K : PySem.W.Frag} {F : Hp} {v : V} {e : D} (q : Rp K F v e) (g : flatD e = true) : ∀ {vs : List V} {ds : List D}, RpA K F vs ds → ds.all flatD = true → inV v vs = ds.any fun y => eqF y e
  | _, _, .nil, _ => rfl
  | _, _, .cons h t, f => by
    rw [List.all_cons, Bool.and_eq_true] at f
    unfold inV
    rw [List.any_cons, List.any_cons, eqF_rp h q f.1 g]
    exact congrArg _ (any_rp q g t f.2)
theorem RpK.any {K : PySem.W.Frag} {F : Hp} {k : Key} : ∀ {kvs : List (Key × V)} {ds : List (Key × D)}, RpK K F kvs ds → (valV kvs k).isSome = ds.any fun kv => decide (kv.1 = k)
  | _, _, .nil => rfl
  | _, _, .cons (k := k') h t => by
    rw [List.any_cons]
    by_cases q : k' = k
    · subst q
      rw [valV_pos rfl]; simp
    · rw [valV_neg q, RpK.any t]; simp [q]
def rInAll (K : PySem.W.Frag) (neg : Bool) : R2 := fun x y H Q =>
  rIn K neg x y H Q ∨ (∃ (c : Nat) (z : Str), x = .str ⟨#[c]⟩ ∧ y = .str z ∧ Q (.bl (if neg then !decide (c ∈ z.cps.toList) else decide (c ∈ z.cps.toList))) H) ∨ ∃ a o, y = .ref a ∧ DGet H a x o ∧ Q (.bl (if neg then !o.isSome else o.isSome)) H
theorem op_inAll (hu : X.A.units + 1 < cLine) : OpR X (compareOp .In) (rInAll X.K false) := by
  refine op_in_seq.or (op_in_sign.or ?_)
  intro pins s σ H x y v u Q I rx ry h
  obtain ⟨a, o, rfl, g, q⟩ := h
  cases ry
  exact d_in hu I g rx fun s' I' => ⟨.bl _, H, I', rfl, q⟩
theorem op_ninAll (hu : X.A.units + 1 < cLine) : OpR X (compareOp .NotIn) (rInAll X.K true) := by
  refine op_notIn_seq.or (op_notIn_sign.or ?_)
  intro pins s σ H x y v u Q I rx ry h
  obtain ⟨a, o, rfl, g, q⟩ := h
  cases ry
  exact d_notIn hu I g rx fun s' I' => ⟨.bl _, H, I', rfl, q⟩
theorem in_run {neg : Bool} {F H : Hp} {x y : V} {d e : D} {Q : D → Prop} {Q' : VK} (s : Same F H) (rx : Rp X.K F x d) (ry : Rp X.K F y e) (h : inB d e fun b => Q (.bl (if neg then !b else b)))
    (k : ∀ d' v F' H', Q d' → Stp F H F' H' → Rp X.K F' v d' → Q' v H') : rInAll X.K neg x y H Q' := by
  have seqc : ∀ {a : Addr} {vs : List V} {ds : List D}, (SqL X.K H a vs ∨ SqT X.K H a vs) → RpA X.K F vs ds → inL d ds (fun b => Q (.bl (if neg then !b else b))) → rIn X.K neg x (.ref a) H Q' := by
    intro a vs ds hs ra hq
    obtain ⟨h1, h2, h3⟩ := hq
    refine ⟨a, vs, rfl, hs, flat_rp rx h1, flats_rp ra h2, ?_⟩
    rw [any_rp rx h1 ra h2]
    exact k _ _ F H h3 .nil (.bl _)
  cases ry with
  | tup h1 r1 => exact .inl (seqc (.inr (same_sqT s h1)) r1 h)
  | lst h1 r1 => exact .inl (seqc (.inl (.of (s _ _ h1))) r1 h)
  | scr h1 r1 => exact .inl (seqc (.inl (s.seq h1)) r1 h)
  | str z =>
    obtain ⟨c, rfl, h⟩ := h
    cases rx
    exact .inr (.inl ⟨c, z, rfl, rfl, k _ _ F H h .nil (.bl _)⟩)
  | @dct a kvs ds h1 r1 =>
    have dk : ∀ (kk : Key), x = kV kk → Q (.bl (if neg then !(ds.any fun kv => decide (kv.1 = kk)) else ds.any fun kv => decide (kv.1 = kk))) → rInAll X.K neg x (.ref a) H Q' := by
      intro kk ex hq
      refine .inr (.inr ⟨a, valV kvs kk, rfl, .inl ⟨kvs, kk, .inl (s _ _ h1), ex, rfl⟩, ?_⟩)
      rw [r1.any]
      exact k _ _ F H hq .nil (.bl _)
    cases rx with
    | str z => exact dk (Sum.inr z) rfl h
    | int z => exact dk (Sum.inl z) rfl h
    | _ => exact h.elim
  | _ => exact h.elim
@[simp] def inD : S2 := fun d e Q => inB d e fun b => Q (.bl b)
@[simp] def ninD : S2 := fun d e Q => inB d e fun b => Q (.bl (!b))
theorem o_in (hu : X.A.units + 1 < cLine) : DOp X (compareOp .In) inD := ⟨_, op_inAll hu, fun F H x y d e Q Q' s rx ry h k => in_run (neg := false) s rx ry h k⟩
theorem o_nin (hu : X.A.units + 1 < cLine) : DOp X (compareOp .NotIn) ninD := ⟨_, op_ninAll hu, fun F H x y d e Q Q' s rx ry h k => in_run (neg := true) s rx ry h k⟩
/-! ### is None -/
@[simp] def isN : D → (Bool → Prop) → Prop
  | .non, Q => Q true
  | .atm _, _ => False
  | _, Q => Q false
@[simp] def isD : S2 := fun d e Q => match e with
  | .non => isN d fun b => Q (.bl b)
  | _ => False
@[simp] def isnD : S2 := fun d e Q => match e with
  | .non => isN d fun b => Q (.bl (!b))
  | _ => False
theorem isN_rp {K : PySem.W.Frag} {F : Hp} {x : V} {d : D} {Q : Bool → Prop} (r : Rp K F x d) (h : isN d Q) : Q (decide (x = .non)) := by
  cases r <;> first | exact h | exact h.elim | (rw [decide_eq_false (by intro e; cases e)]; exact h)
theorem o_is : DOp X (compareOp .Is) isD := by
  refine ⟨_, op_isN, fun F H x y d e Q Q' s rx ry h k => ?_⟩
  cases ry <;> first | exact h.elim | exact ⟨rfl, k _ _ F H (isN_rp (Q := fun b => Q (.bl b)) rx h) .nil (.bl _)⟩
theorem o_isn : DOp X (compareOp .IsNot) isnD := by
  refine ⟨_, op_notN, fun F H x y d e Q Q' s rx ry h k => ?_⟩
  cases ry <;> first | exact h.elim | exact ⟨rfl, k _ _ F H (isN_rp (Q := fun b => Q (.bl (!b))) rx h) .nil (.bl _)⟩
end
end L2.DL

namespace L2.DL
open PySem PySem.Spec PyProof.Rows

section
variable {K : PySem.W.Frag} {F H : Hp} {x y : V} {d e : D} {vs : List V}
theorem rpa1 (r : RpA K F vs [d]) : ∃ v, vs = [v] ∧ Rp K F v d := by
  cases r with
  | cons r rr => cases rr; exact ⟨_, rfl, r⟩
theorem rpa2 (r : RpA K F vs [d, e]) : ∃ v w, vs = [v, w] ∧ Rp K F v d ∧ Rp K F w e := by
  cases r with
  | cons r rr => obtain ⟨w, rfl, r2⟩ := rpa1 rr; exact ⟨_, _, rfl, r, r2⟩
end
section
variable {X : Cx}
/-- one argument -/
@[simp] def n1 (f : D → (D → Prop) → Prop) : SN := fun ds Q => match ds with
  | [d] => f d Q
  | _ => False
@[simp] def n2 (f : D → D → (D → Prop) → Prop) : SN := fun ds Q => match ds with
  | [d, e] => f d e Q
  | _ => False
theorem n1_of {f : D → (D → Prop) → Prop} {ds : List D} {Q : D → Prop} (h : n1 f ds Q) : ∃ d, ds = [d] ∧ f d Q := by
  unfold n1 at h
  split at h
  · exact ⟨_, rfl, h⟩
  · exact h.elim
theorem n2_of {f : D → D → (D → Prop) → Prop} {ds : List D} {Q : D → Prop} (h : n2 f ds Q) : ∃ d e, ds = [d, e] ∧ f d e Q := by
  unfold n2 at h
  split at h
  · exact ⟨_, _, rfl, h⟩
  · exact h.elim
@[simp] def lenD : D → (D → Prop) → Prop := fun d Q => match d with
  | .str z => z.length ≤ sizeLine ∧ Q (.int z.length)
  | .tup xs => Q (.int xs.length)
  | .lst xs => Q (.int xs.length)
  | .scr xs => Q (.int xs.length)
  | .dct kvs => Q (.int kvs.length)
  | _ => False
theorem call_lenK : CallR X (.builtin "len") (fun xs H Q => ∃ a kvs, xs = [.ref a] ∧ H a = some (.dK kvs) ∧ Q (.int kvs.length) H) := by
  intro pins s σ H xs us Q I r h
  obtain ⟨a, kvs, rfl, e, q⟩ := h
  exact call_lenD pins s σ H _ us Q I r ⟨a, kvs, rfl, e, q⟩
theorem c_len : DCl X (.builtin "len") (n1 lenD) := by
  refine ⟨_, call_len.or call_lenK, fun F H xs ds Q Q' s r h k => ?_⟩
  obtain ⟨d, rfl, h⟩ := n1_of h
  obtain ⟨v, rfl, r1⟩ := rpa1 r
  cases r1 with
  | str z => exact .inl ⟨_, _, rfl, ⟨h.1, rfl⟩, k _ _ F H h.2 .nil (.int _)⟩
  | tup h1 ra => exact .inl ⟨_, _, rfl, .inr ⟨_, same_sqT s h1, rfl⟩, by rw [ra.length]; exact k _ _ F H h .nil (.int _)⟩
  | lst h1 ra => exact .inl ⟨_, _, rfl, .inl ⟨_, .of (s _ _ h1), rfl⟩, by rw [ra.length]; exact k _ _ F H h .nil (.int _)⟩
  | scr h1 ra => exact .inl ⟨_, _, rfl, .inl ⟨_, s.seq h1, rfl⟩, by rw [ra.length]; exact k _ _ F H h .nil (.int _)⟩
  | dct h1 ra => exact .inr ⟨_, _, rfl, s _ _ h1, by rw [ra.length]; exact k _ _ F H h .nil (.int _)⟩
  | _ => exact h.elim
/-! ### isinstance -/
inductive TyN where
  | int | bool | str | tup | lst | dct
def TyN.nm : TyN → String
  | .int => "int"
  | .bool => "bool"
  | .str => "str"
  | .tup => "tuple"
  | .lst => "list"
  | .dct => "dict"
@[simp] def isI : TyN → D → Bool
  | .int, .int _ => true
  | .int, .bl _ => true
  | .bool, .bl _ => true
  | .str, .str _ => true
  | .tup, .tup _ => true
  | .lst, .lst _ => true
  | .lst, .scr _ => true
  | .dct, .dct _ => true
  | _, _ => false
@[simp] def noAtm : D → Bool
  | .atm _ => false
  | _ => true
def D.tn : D → String
  | .non => "NoneType"
  | .bl _ => "bool"
  | .int _ => "int"
  | .str _ => "str"
  | .tup _ => "tuple"
  | .lst _ => "list"
  | .scr _ => "list"
  | .dct _ => "dict"
  | .atm _ => ""
theorem kit_tbl : ∀ t : TyN, kitB "NoneType" t.nm = some (isI t .non) ∧ kitB "bool" t.nm = some (isI t (.bl true)) ∧ kitB "int" t.nm = some (isI t (.int 0)) ∧ kitB "str" t.nm = some (isI t (.str ⟨#[]⟩)) ∧
    kitB "tuple" t.nm = some (isI t (.tup [])) ∧ kitB "list" t.nm = some (isI t (.lst [])) ∧ kitB "dict" t.nm = some (isI t (.dct [])) := by
  intro t
  cases t <;> decide +kernel
theorem kit_D (t : TyN) (d : D) (h : noAtm d = true) : kitB d.tn t.nm = some (isI t d) := by
  obtain ⟨h1, h2, h3, h4, h5, h6, h7⟩ := kit_tbl t
  cases d with
  | non => exact h1
  | bl b => rw [show isI t (.bl b) = isI t (.bl true) by cases t <;> rfl]; exact h2
  | int i => rw [show isI t (.int i) = isI t (.int 0) by cases t <;> rfl]; exact h3
  | str i => rw [show isI t (.str i) = isI t (.str ⟨#[]⟩) by cases t <;> rfl]; exact h4
  | tup i => rw [show isI t (.tup i) = isI t (.tup []) by cases t <;> rfl]; exact h5
  | lst i => rw [show isI t (.lst i) = isI t (.lst []) by cases t <;> rfl]; exact h6
  | scr i => rw [show isI t (.scr i) = isI t (.lst []) by cases t <;> rfl]; exact h6
  | dct i => rw [show isI t (.dct i) = isI t (.dct []) by cases t <;> rfl]; exact h7
  | atm v => cases h
theorem tyx_of {K : PySem.W.Frag} {F H : Hp} {x : V} {d : D} (s : Same F H) (r : Rp K F x d) (h : noAtm d = true) : TyX K H x (.type d.tn) := by
  cases r with
  | non => exact .base .non
  | bl b => exact .base (.bl b)
  | int b => exact .base (.int b)
  | str b => exact .base (.str b)
  | tup h1 _ =>
    rcases same_sqT s h1 with (h | ⟨o, h⟩) | ⟨o, its, n, h1, h2, _⟩
    · exact .base (.tup h)
    · exact .fTuple h
    · exact .kTuple h1 h2
  | lst h1 _ => exact .base (.lst (s _ _ h1))
  | scr h1 _ =>
    rcases s.seq h1 with (h | ⟨o, h⟩) | ⟨o, its, n, h1, h2, _⟩
    · exact .base (.lst h)
    · exact .base (.frz h)
    · exact .kList h1 h2
  | dct h1 _ => exact .base (.dK (s _ _ h1))
  | atm v => cases h
@[simp] def isiD (t : TyN) : SN := n2 fun d e Q => e = .atm (.ty t.nm) ∧ noAtm d = true ∧ Q (.bl (isI t d))
theorem c_isi (t : TyN) : DCl X (.builtin "isinstance") (isiD t) := by
  refine ⟨_, call_isi, fun F H xs ds Q Q' s r h k => ?_⟩
  obtain ⟨d, e, rfl, rfl, h1, h⟩ := n2_of h
  obtain ⟨v, w, rfl, r1, r2⟩ := rpa2 r
  cases r2
  exact ⟨_, _, _, _, _, rfl, .ty _, tyx_of s r1 h1, kit_ty (kit_D t d h1), k _ _ F H h .nil (.bl _)⟩
/-- isinstance(x, (T, U)) -/
@[simp] def qIsi2 (t u : TyN) (te : TD) : TD := fun env Q => te env fun d env1 => noAtm d = true ∧ Q (.bl (isI t d || isI u d)) env1
theorem de_isi2 {B : Bd} {te : TD} {ce : Expr} (t u : TyN) (p : PE X ce (tCB (rIsiT X.K) (tCons (canE X.K B te) (tCons (tTup (tCons (tC (.ty t.nm)) (tCons (tC (.ty u.nm)) tNil))) tNil)))) : DE X B ce (qIsi2 t u te) := by
  refine ⟨_, p, fun F H σ env Q Q' R ht k => ?_⟩
  refine ⟨F, env, _, R, ht, fun d env1 v F1 H1 q s1 R1 r1 => ?_⟩
  refine ⟨by show 2 ≤ sizeLine; decide, fun p hp => ?_⟩
  refine ⟨v, p, _, _, [.type t.nm, .type u.nm], (isI t d || isI u d), rfl, upd_same, .cons (.ty _) (.cons (.ty _) .nil), tyx_of (R1.sub.trans (same_upd hp)) r1 q.1, ?_, k _ env1 _ F1 _ q.2 s1 (R1.junk hp) (.bl _)⟩
  refine kitAny_cons (kit_ty (kit_D t d q.1)) (fun e => ?_) (fun e => by rw [e]; rfl)
  rw [e, Bool.false_or]
  refine kitAny_cons (kit_ty (kit_D u d q.1)) (fun e => ?_) (fun e => e)
  rw [e]; exact kitAny_nil
/-! ### int, abs, max, min, sum, all, any, list, tuple -/
@[simp] def intD : D → (D → Prop) → Prop := fun d Q => match d with
  | .int i => Q (.int i)
  | .bl k => Q (.int (if k then 1 else 0))
  | .str z => ∃ n, PySem.intText? z = some n ∧ z.length ≤ 640 ∧ Q (.int n)
  | _ => False
theorem c_int : DCl X (.type "int") (n1 intD) := by
  refine ⟨_, call_int1.or call_int_str, fun F H xs ds Q Q' s r h k => ?_⟩
  obtain ⟨d, rfl, h⟩ := n1_of h
  obtain ⟨v, rfl, r1⟩ := rpa1 r
  cases r1 with
  | int i => exact .inl (.inl ⟨_, rfl, k _ _ F H h .nil (.int _)⟩)
  | bl i => exact .inl (.inr ⟨_, rfl, k _ _ F H h .nil (.int _)⟩)
  | str z => obtain ⟨n, h1, h2, h⟩ := h; exact .inr ⟨_, n, rfl, h1, h2, k _ _ F H h .nil (.int _)⟩
  | _ => exact h.elim
@[simp] def absD : D → (D → Prop) → Prop := fun d Q => match d with
  | .int i => Q (.int (if i < 0 then -i else i))
  | _ => False
theorem c_abs : DCl X (.builtin "abs") (n1 absD) := by
  refine ⟨_, call_abs, fun F H xs ds Q Q' s r h k => ?_⟩
  obtain ⟨d, rfl, h⟩ := n1_of h
  obtain ⟨v, rfl, r1⟩ := rpa1 r
  cases r1 <;> first | exact h.elim | exact ⟨_, rfl, k _ _ F H h .nil (.int _)⟩
@[simp] def max2D : D → D → (D → Prop) → Prop := fun d e Q => match d, e with
  | .int i, .int j => Q (.int (if j > i then j else i))
  | _, _ => False
@[simp] def min2D : D → D → (D → Prop) → Prop := fun d e Q => match d, e with
  | .int i, .int j => Q (.int (if j < i then j else i))
  | _, _ => False
theorem c_max2 (hc : X.calm = true) : DCl X (.builtin "max") (n2 max2D) := by
  refine ⟨_, call_max2 hc, fun F H xs ds Q Q' s r h k => ?_⟩
  obtain ⟨d, e, rfl, h⟩ := n2_of h
  obtain ⟨v, w, rfl, r1, r2⟩ := rpa2 r
  cases r1 <;> cases r2 <;> first | exact h.elim | exact ⟨_, _, rfl, k _ _ F H h .nil (.int _)⟩
theorem c_min2 (hc : X.calm = true) : DCl X (.builtin "min") (n2 min2D) := by
  refine ⟨_, call_min2 hc, fun F H xs ds Q Q' s r h k => ?_⟩
  obtain ⟨d, e, rfl, h⟩ := n2_of h
  obtain ⟨v, w, rfl, r1, r2⟩ := rpa2 r
  cases r1 <;> cases r2 <;> first | exact h.elim | exact ⟨_, _, rfl, k _ _ F H h .nil (.int _)⟩
/-- one list -/
@[simp] def onLst (f : List D → (D → Prop) → Prop) : SN := n1 fun d Q => match d with
  | .lst xs => f xs Q
  | .scr xs => f xs Q
  | _ => False
theorem lst_run {f : Value} {r : List V → Hp → VK → Prop} {g : List D → (D → Prop) → Prop} (hr : CallR X f r)
    (h : ∀ (F H : Hp) (a : Addr) (vs : List V) (ds : List D) (Q : D → Prop) (Q' : VK), Same F H → SqL X.K H a vs → RpA X.K F vs ds → g ds Q → (∀ d' v F' H', Q d' → Stp F H F' H' → Rp X.K F' v d' → Q' v H') → r [.ref a] H Q') : DCl X f (onLst g) := by
  refine ⟨r, hr, fun F H xs ds Q Q' s ra hq k => ?_⟩
  obtain ⟨d, rfl, hq⟩ := n1_of hq
  obtain ⟨v, rfl, r1⟩ := rpa1 ra
  cases r1 with
  | lst h1 ra' => exact h F H _ _ _ Q Q' s (.of (s _ _ h1)) ra' hq k
  | scr h1 ra' => exact h F H _ _ _ Q Q' s (s.seq h1) ra' hq k
  | _ => exact hq.elim
theorem c_sum (hc : X.calm = true) : DCl X (.builtin "sum") (onLst fun ds Q => ∃ ns : List Int, ds = ns.map D.int ∧ Q (.int ns.sum)) :=
  lst_run (cr_sum hc) fun F H a vs ds Q Q' s hs ra ⟨ns, e, h⟩ k => by
    subst e
    rw [ra.of_ints] at hs
    exact ⟨a, ns, rfl, hs, k _ _ F H h .nil (.int _)⟩
theorem c_max (hc : X.calm = true) : DCl X (.builtin "max") (onLst fun ds Q => ∃ ns : List Int, ds = ns.map D.int ∧ 0 < ns.length ∧ ∀ m, m ∈ ns → (∀ y, y ∈ ns → y ≤ m) → Q (.int m)) :=
  lst_run (cr_max hc) fun F H a vs ds Q Q' s hs ra ⟨ns, e, h1, h⟩ k => by
    subst e
    rw [ra.of_ints] at hs
    exact ⟨a, ns, rfl, hs, h1, fun m a b => k _ _ F H (h m a b) .nil (.int _)⟩
theorem c_min (hc : X.calm = true) : DCl X (.builtin "min") (onLst fun ds Q => ∃ ns : List Int, ds = ns.map D.int ∧ 0 < ns.length ∧ ∀ m, m ∈ ns → (∀ y, y ∈ ns → m ≤ y) → Q (.int m)) :=
  lst_run (cr_min hc) fun F H a vs ds Q Q' s hs ra ⟨ns, e, h1, h⟩ k => by
    subst e
    rw [ra.of_ints] at hs
    exact ⟨a, ns, rfl, hs, h1, fun m a b => k _ _ F H (h m a b) .nil (.int _)⟩
theorem c_all (hc : X.calm = true) : DCl X (.builtin "all") (onLst fun ds Q => ∃ bs : List Bool, ds = bs.map D.bl ∧ Q (.bl (bs.all id))) :=
  lst_run (cr_all hc) fun F H a vs ds Q Q' s hs ra ⟨ns, e, h⟩ k => by
    subst e
    rw [ra.of_bls] at hs
    exact ⟨a, ns, rfl, hs, k _ _ F H h .nil (.bl _)⟩
theorem c_any (hc : X.calm = true) : DCl X (.builtin "any") (onLst fun ds Q => ∃ bs : List Bool, ds = bs.map D.bl ∧ Q (.bl (bs.any id))) :=
  lst_run (cr_any hc) fun F H a vs ds Q Q' s hs ra ⟨ns, e, h⟩ k => by
    subst e
    rw [ra.of_bls] at hs
    exact ⟨a, ns, rfl, hs, k _ _ F H h .nil (.bl _)⟩
theorem c_sorted : DCl X (.builtin "sorted") (onLst fun ds Q => ∃ ns : List Int, ds = ns.map D.int ∧ ns.length < 64 ∧ ∀ ns' : List Int, ns'.Perm ns → ns'.Pairwise (· ≤ ·) → Q (.lst (ns'.map D.int))) :=
  lst_run cr_sorted fun F H a vs ds Q Q' s hs ra ⟨ns, e, h1, h⟩ k => by
    subst e
    rw [ra.of_ints] at hs
    exact ⟨a, ns, rfl, hs, h1, fun ns' p e1 e2 hp => k _ _ _ _ (h ns' e1 e2) (.new hp) (.lst upd_same (RpA.ints ns'))⟩
@[simp] def listD : D → (D → Prop) → Prop := fun d Q => match d with
  | .lst xs => Q (.lst xs)
  | .scr xs => Q (.lst xs)
  | .tup xs => Q (.lst xs)
  | _ => False
theorem c_list : DCl X (.type "list") (n1 listD) := by
  refine ⟨_, call_list_of, fun F H xs ds Q Q' s r h k => ?_⟩
  obtain ⟨d, rfl, h⟩ := n1_of h
  obtain ⟨v, rfl, r1⟩ := rpa1 r
  cases r1 with
  | lst h1 ra => exact ⟨_, _, rfl, .inl (.of (s _ _ h1)), fun p hp => k _ _ _ _ h (.new hp) (.lst upd_same (ra.mono (same_upd (s.free hp))))⟩
  | scr h1 ra => exact ⟨_, _, rfl, .inl (s.seq h1), fun p hp => k _ _ _ _ h (.new hp) (.lst upd_same (ra.mono (same_upd (s.free hp))))⟩
  | tup h1 ra => exact ⟨_, _, rfl, .inr (same_sqT s h1), fun p hp => k _ _ _ _ h (.new hp) (.lst upd_same (ra.mono (same_upd (s.free hp))))⟩
  | _ => exact h.elim
@[simp] def tupleD : D → (D → Prop) → Prop := fun d Q => match d with
  | .lst xs => Q (.tup xs)
  | .scr xs => Q (.tup xs)
  | .tup xs => Q (.tup xs)
  | _ => False
theorem c_tuple : DCl X (.type "tuple") (n1 tupleD) := by
  refine ⟨_, call_tuple_of, fun F H xs ds Q Q' s r h k => ?_⟩
  obtain ⟨d, rfl, h⟩ := n1_of h
  obtain ⟨v, rfl, r1⟩ := rpa1 r
  cases r1 with
  | lst h1 ra => exact ⟨_, _, rfl, .inl ⟨.of (s _ _ h1), fun p hp => k _ _ _ _ h (.new hp) (.tup (.of upd_same) (ra.mono (same_upd (s.free hp))))⟩⟩
  | scr h1 ra => exact ⟨_, _, rfl, .inl ⟨s.seq h1, fun p hp => k _ _ _ _ h (.new hp) (.tup (.of upd_same) (ra.mono (same_upd (s.free hp))))⟩⟩
  | tup h1 ra => exact ⟨_, _, rfl, .inr ⟨same_sqT s h1, k _ _ F H h .nil (.tup h1 ra)⟩⟩
  | _ => exact h.elim
/-! ### slices -/
def cutD {α : Type} (xs : List α) (lo hi : Option Int) : List α := (xs.drop (HT.sIx xs.length 0 lo)).take (HT.sIx xs.length xs.length hi - HT.sIx xs.length 0 lo)
@[simp] def slD : S3 := fun d lo hi Q => match d with
  | .lst xs => Q (.lst (cutD xs lo hi))
  | .scr xs => Q (.lst (cutD xs lo hi))
  | .tup xs => Q (.tup (cutD xs lo hi))
  | .str z => z.length ≤ sizeLine ∧ Q (.str (cutS z lo hi))
  | _ => False
theorem RpA.cut {K : PySem.W.Frag} {F : Hp} {vs : List V} {ds : List D} (r : RpA K F vs ds) (lo hi : Option Int) : RpA K F (cutV vs lo hi) (cutD ds lo hi) := by
  unfold cutV cutD
  rw [r.length]
  exact (r.drop _).take _
theorem cut_whole {α : Type} {xs : List α} {lo hi : Option Int} (h : HT.sIx xs.length 0 lo = 0 ∧ HT.sIx xs.length xs.length hi = xs.length) : cutD xs lo hi = xs := by
  unfold cutD
  rw [h.1, h.2]
  simp
theorem o_sl : DSl X slD := by
  refine ⟨_, sl_list.or (sl_tupA.or sl_str), fun F H x d lo hi Q Q' s r h k => ?_⟩
  cases r with
  | lst h1 ra => exact .inl ⟨_, _, rfl, .of (s _ _ h1), fun p hp => k _ _ _ _ h (.new hp) (.lst upd_same ((ra.cut lo hi).mono (same_upd (s.free hp))))⟩
  | scr h1 ra => exact .inl ⟨_, _, rfl, s.seq h1, fun p hp => k _ _ _ _ h (.new hp) (.lst upd_same ((ra.cut lo hi).mono (same_upd (s.free hp))))⟩
  | tup h1 ra =>
    refine .inr (.inl ⟨_, _, rfl, same_sqT s h1, fun w => ?_, fun _ p hp => k _ _ _ _ h (.new hp) (.tup (.of upd_same) ((ra.cut lo hi).mono (same_upd (s.free hp))))⟩)
    rw [ra.length] at w
    have h : Q (.tup (cutD _ lo hi)) := h
    rw [cut_whole w] at h
    exact k _ _ F H h .nil (.tup h1 ra)
  | str z => exact .inr (.inr ⟨_, rfl, h.1, k _ _ F H h.2 .nil (.str _)⟩)
  | _ => exact h.elim
end
end L2.DL

namespace L2.DL
open PySem PySem.Spec PyProof.Rows

section
variable {X : Cx} {B : Bd} {tg e a b c : Expr} {te ta tb : TD} {pos : Pos} {st : Stmt} {t u : TDS} {es : List Expr} {tr : TDA}
/-! ### a list, tuple or text that is gone through -/
def iSeq (K : PySem.W.Frag) (te : TE) : TI := fun σ H R => te σ H fun x H1 => (∃ a, x = .ref a ∧ (∃ xs, SqL K H1 a xs) ∧ R (Itl K a) H1) ∨ (∃ a, x = .ref a ∧ (∃ xs, SqT K H1 a xs) ∧ R (Itt K a) H1) ∨ ∃ z, x = .str z ∧ R (Its z) H1
theorem pi_seq {te : TE} (he : PE X e te) : PI X tg e (iSeq X.K te) := by
  refine ⟨fun pins s σ H R I h => ?_⟩
  refine thn (he.run pins s σ H _ I h) fun v s1 ⟨x, H1, I1, r1, q1⟩ => ?_
  rcases q1 with ⟨a, e, ⟨xs, hq⟩, q⟩ | ⟨a, e, ⟨xs, hq⟩, q⟩ | ⟨z, e, q⟩
  · subst e
    cases r1
    obtain ⟨its, rv, p, hz⟩ := I1.list hq
    refine wpAny_pyIter_list p.isList ?_
    refine ⟨s1.heap.objs.size, [s1.heap.objs.size], _, _, H1, rfl, I1.kept (t' := s1.toks) fun b o e => Heap.get?_push_of_some _ e, turn_list a _, ⟨_, Heap.get?_push_size _ rfl, rfl, rfl⟩, fun b hb => ?_, q⟩
    have e : b = s1.heap.objs.size := by simpa using hb
    subst e
    exact I1.fpOk (Nat.le_refl _) (I1.hok.fresh (Nat.le_refl _))
  · subst e
    cases r1
    obtain ⟨its, rv, p, hz⟩ := I1.tuple hq
    refine wpAny_pyIter_tuple (show s1.heap.IsTuple a its.toArray from p) ?_
    refine ⟨s1.heap.objs.size, [s1.heap.objs.size], _, _, H1, rfl, I1.kept (t' := s1.toks) fun b o e => Heap.get?_push_of_some _ e, turn_tuple a _, ⟨_, Heap.get?_push_size _ rfl, rfl, rfl⟩, fun b hb => ?_, q⟩
    have e : b = s1.heap.objs.size := by simpa using hb
    subst e
    exact I1.fpOk (Nat.le_refl _) (I1.hok.fresh (Nat.le_refl _))
  · subst e
    obtain ⟨t, rfl⟩ := r1
    cases ha : z.cps.all (· < 128)
    · exact wpAny_pyIter_wide ha (pi_one (tk := s1.toks) I1 _ (turn_str _ z t "str_iterator" (.inr rfl)) ⟨_, Heap.get?_push_size _ rfl, rfl, rfl⟩ q)
    · exact wpAny_pyIter_ascii ha (pi_one (tk := s1.toks) I1 _ (turn_str _ z t "str_ascii_iterator" (.inl rfl)) ⟨_, Heap.get?_push_size _ rfl, rfl, rfl⟩ q)
/-- the items of what is gone through -/
def itemsD : D → Option (List D)
  | .lst ds => some ds
  | .scr ds => some ds
  | .tup ds => some ds
  | .str z => some (z.cps.toList.map fun c => D.str ⟨#[c]⟩)
  | _ => none
@[simp] def qIter (t : TD) : TDI := fun env Q => t env fun d env1 => match d with
  | .lst ds => Q ds env1
  | .scr ds => Q ds env1
  | .tup ds => Q ds env1
  | .str z => Q (z.cps.toList.map fun c => D.str ⟨#[c]⟩) env1
  | _ => False
theorem iter_list {K : PySem.W.Frag} {a : Addr} {vs : List V} {ds : List D} {F0 : Hp} (hs : SqL K F0 a vs) (ra : RpA K F0 vs ds) : IterOk K (Itl K a) ds F0 := fun F H i s0 sH => by
  have hq := sH.seq (s0.seq hs)
  refine ⟨fun e => ⟨vs, hq, by rw [ra.length, e]; exact Nat.le_refl _⟩, fun d e => ?_⟩
  obtain ⟨v, hv, rv⟩ := ra.get e
  refine ⟨⟨vs, v, hq, hv⟩, ?_⟩
  rintro x H' ⟨rfl, y⟩
  have := y vs hq
  rw [hv] at this; cases this
  exact ⟨F, .nil, rv.mono s0⟩
theorem iter_tup {K : PySem.W.Frag} {a : Addr} {vs : List V} {ds : List D} {F0 : Hp} (hs : SqT K F0 a vs) (ra : RpA K F0 vs ds) : IterOk K (Itt K a) ds F0 := fun F H i s0 sH => by
  have hq := same_sqT sH (same_sqT s0 hs)
  refine ⟨fun e => ⟨vs, hq, by rw [ra.length, e]; exact Nat.le_refl _⟩, fun d e => ?_⟩
  obtain ⟨v, hv, rv⟩ := ra.get e
  refine ⟨⟨vs, v, hq, hv⟩, ?_⟩
  rintro x H' ⟨rfl, y⟩
  have := y vs hq
  rw [hv] at this; cases this
  exact ⟨F, .nil, rv.mono s0⟩
theorem iter_str {K : PySem.W.Frag} {z : Str} {F0 : Hp} : IterOk K (Its z) (z.cps.toList.map fun c => D.str ⟨#[c]⟩) F0 := fun F H i s0 sH => by
  refine ⟨fun e => by rw [List.length_map, Array.length_toList] at e; exact Nat.le_of_eq e.symm, fun d e => ?_⟩
  rw [List.getElem?_map] at e
  cases w : z.cps.toList[i]? with
  | none => rw [w] at e; cases e
  | some c =>
    rw [w] at e; cases e
    have hi : i < z.cps.size := by
      have := (List.getElem?_eq_some_iff.mp w).1
      rw [Array.length_toList] at this; exact this
    refine ⟨hi, ?_⟩
    rintro x H' ⟨rfl, c', hc, rfl⟩
    rw [Array.getElem?_toList] at w
    rw [hc] at w; cases w
    exact ⟨F, .nil, .str _⟩
theorem di_any (hl : DE X B e te) : DI X B tg e (qIter te) := by
  obtain ⟨ts, p, h⟩ := hl.ex
  refine ⟨_, pi_seq p, fun F H σ env Q R' R ht k => ?_⟩
  refine h F H σ env _ _ R ht fun d env1 v F1 H1 q1 s1 R1 r1 => ?_
  cases r1 with
  | lst hs ra => exact .inl ⟨_, rfl, ⟨_, .of (R1.sub _ _ hs)⟩, k _ env1 _ F1 H1 q1 s1 R1 (iter_list (.of hs) ra)⟩
  | scr hs ra => exact .inl ⟨_, rfl, ⟨_, R1.sub.seq hs⟩, k _ env1 _ F1 H1 q1 s1 R1 (iter_list hs ra)⟩
  | tup hs ra => exact .inr (.inl ⟨_, rfl, ⟨_, same_sqT R1.sub hs⟩, k _ env1 _ F1 H1 q1 s1 R1 (iter_tup hs ra)⟩)
  | str z => exact .inr (.inr ⟨_, rfl, k _ env1 _ F1 H1 q1 s1 R1 iter_str⟩)
  | _ => exact q1.elim
/-! ### a module's constants, built-in classes as values -/
structure GlobD (K : PySem.W.Frag) (mg : Str → Option Value) (x : Str) (d : D) : Prop where
  ex : ∃ u v, mg x = some u ∧ RelV v u ∧ ∀ F, Rp K F v d
theorem de_const {x : Str} {d : D} (hg : Gl X x) (h : GlobD X.K X.mg x d) (hd : (x == ("__debug__" : Str)) = false := by decide) : DE X B (.Name x pos) (qC d) := by
  obtain ⟨u, v, h1, h2, h3⟩ := h.ex
  exact de_glob hg h1 h2 h3 hd
theorem de_bty {x : Str} {T : String} (hg : Gl X x) (hm : X.mg x = none) (hv : bootBuiltins x = some (.type T)) (hn : x ≠ "__name__" := by decide) (hd : (x == ("__debug__" : Str)) = false := by decide) : DE X B (.Name x pos) (qC (.atm (.ty T))) :=
  de_tC (pe_bltn (v := .ty T) hg hm hv rfl hn hd) fun _ => .atm _
@[simp] def negD : S1 := fun d Q => match d with
  | .int i => Q (.int (-i))
  | _ => False
theorem u_neg : DUn X (unaryOp .USub) negD := by
  refine ⟨_, un_neg, fun F H x d Q Q' s r h k => ?_⟩
  cases r <;> first | exact h.elim | exact ⟨_, rfl, k _ _ F H h .nil (.int _)⟩
/-! ### x += e -/
@[simp] def sAug (i : Nat) (s : S2) (te : TD) : TDS := fun DD env => match env[i]? with
  | some (.val x) => te env fun d env1 => s x d fun r => DD.nx (env1.set i (.val r))
  | _ => False
def DIp (X : Cx) (op : Operator) (s : S2) : Prop :=
  ∃ r, PIp X op r ∧ ∀ (F H : Hp) (x y : V) (d e : D) (Q : D → Prop) (Q' : VK), Same F H → Rp X.K F x d → Rp X.K F y e → s d e Q →
    (∀ d' v F' H', Q d' → Stp F H F' H' → Rp X.K F' v d' → Q' v H') → r x y H Q'
theorem ip_iadd : DIp X .Add (i2 fun i j Q => Q (.int (i + j))) := by
  refine ⟨_, ip_add, fun F H x y d e Q Q' s rx ry h k => ?_⟩
  cases rx <;> cases ry <;> first | exact h.elim | exact ⟨_, _, rfl, rfl, k _ _ F H h .nil (.int _)⟩
theorem ip_isub : DIp X .Sub (i2 fun i j Q => Q (.int (i - j))) := by
  refine ⟨_, ip_sub, fun F H x y d e Q Q' s rx ry h k => ?_⟩
  cases rx <;> cases ry <;> first | exact h.elim | exact ⟨_, _, rfl, rfl, k _ _ F H h .nil (.int _)⟩
theorem ds_aug {i : Nat} {x : Str} {op : Operator} {s : S2} {pos' : Pos} (hN : X.N.Nodup) (he : DE X B e te) (ho : DIp X op s) (hi : X.N[i]? = some x := by rfl) (hx : Loc X.env.scope x := by first | exact Or.inl rfl | exact Or.inr rfl) (hf : X.fn x = true ∨ X.env.scope.names.lookup x = some .local := by first | exact .inl rfl | exact .inr rfl | assumption) :
    DS X B (.AugAssign (.Name x pos') op e pos) (sAug i s te) := by
  obtain ⟨r, hr, h⟩ := ho
  obtain ⟨ts, p, h1⟩ := he.ex
  refine ⟨_, ps_aug (i := i) hN hi hx p hr hf, fun F H σ env DD DH R ht l => ?_⟩
  unfold sAug at ht
  split at ht
  · rename_i d ed
    obtain ⟨v, ev, rv⟩ := R.cells i _ ed
    refine ⟨v, ev, h1 F H σ env _ _ R ht fun d2 env1 w F1 H1 q s1 R1 r1 => ?_⟩
    refine h F1 H1 v w d d2 _ _ R1.sub (rv.mono s1) r1 q fun d' z F2 H2 q2 st2 r2 => ?_
    exact l.nx _ _ F2 H2 q2 (s1.trans (st2.same R1.sub)) ((R1.stp st2).set r2 i)
  · exact ht.elim
/-! ### a, b, c = one's own list -/
@[simp] def sUnpO (i n : Nat) (g : TDGs) : TDS := fun DD env => ownL env i fun _ xs => xs.length = n ∧ g xs env DD.nx
theorem ds_unpO {i k : Nat} {x : Str} {p : Pos} {n : Nat} {vs : List Nat} {g : TDGs} (hc : X.calm = true) (ha : PE X (.Name x p) (tVar i)) (hg : DGs X B es vs g) (hn : (assignEach es X.env).length = n := by rfl) (hst : (assignEach es X.env).findIdx? (·.1) = none := by rfl) {tpos : Pos}
    (hs : swapsWithSole [.Tuple es k tpos] (.Name x p) pos.line X.env = pure false := by rfl) (hw : swappedStores [.Tuple es k tpos] (.Name x p) X.env = pure none := by rfl)
    (h1 : (assignEach [.Tuple es k tpos] X.env).map (·.2) = [assign (.Tuple es k tpos) X.env] := by rfl) : DS X B (.Assign [.Tuple es k tpos] (.Name x p) pos) (sUnpO i n g) := by
  obtain ⟨gs, p2, h2⟩ := hg.ex
  refine ⟨_, ps_asg ha (pg_lst hc p2 hn hst) hs hw h1, fun F H σ env DD DH R ht l => ?_⟩
  obtain ⟨fr, xs, e0, hn, ht⟩ := ownL_of ht
  obtain ⟨a, vs, s, h1, ra⟩ := own_read R e0
  refine ⟨_, s, a, vs, rfl, .of h1, ra.length.trans hn, ?_⟩
  exact h2 F H σ env xs vs _ _ R ra ht fun env2 σ2 q2 _ R2 => l.nx env2 σ2 F H q2 (Same.refl _) R2
end
/-- the law's call: the script -/
theorem law_start {K : PySem.W.Frag} {H : Hp} {a : Addr} {ns : List Int} {spec : FSpec} {E : XK} (hS : SqL K H a (ns.map V.int)) (h : spec [.val (.scr (ns.map D.int))] fun d _ => d = .bl true) : spD K 1 spec [.ref a] H (fun v _ => v = .bl true) E := by
  refine ⟨H, fun _ => False, [.val (.scr (ns.map D.int))], rfl, ⟨rfl, Same.refl _, fun b o e _ => e, Same.refl _, fun b e n => absurd e n, fun _ h => h.elim, fun _ h => h.elim, fun _ h => h.elim, fun b o e => (by cases e), fun _ _ => rfl, fun b o e => (by cases e), fun i c e => ?_, ?_⟩, _, h, fun d cs' v F' H' q _ _ r => ?_⟩
  · cases i with
    | zero => cases e; exact ⟨_, rfl, .scr hS (RpA.ints ns)⟩
    | succ i => cases e
  · intro i j b c c' e1 _ w1 _ _ _
    cases i with
    | zero => cases e1; cases w1
    | succ i => cases e1
  · subst q; cases r; rfl
theorem outs_nil {env : DEnv} : Outs env [] := by cases env <;> trivial
theorem cdv_small {i j : Int} (h0 : 0 < j) (h1 : j < 1073741824) : CDv i j := .inl ⟨h0, h1⟩
theorem cml_l {i j : Int} (h0 : -18446744073709551616 < i) (h1 : i < 18446744073709551616) : CMl i j := .inl (.inl ⟨h0, h1⟩)
theorem cml_r {i j : Int} (h0 : -18446744073709551616 < j) (h1 : j < 18446744073709551616) : CMl i j := .inl (.inr ⟨h0, h1⟩)
theorem atI_mod {α : Type} {xs : List α} {i : Int} (h : 0 < (xs.length : Int)) : ∃ x, atI xs (i % (xs.length : Int)) = some x ∧ x ∈ xs := by
  have h1 : 0 ≤ i % (xs.length : Int) := Int.emod_nonneg _ (by omega)
  have h2 : i % (xs.length : Int) < xs.length := Int.emod_lt_of_pos _ h
  have h3 : (i % (xs.length : Int)).toNat < xs.length := by omega
  refine ⟨xs[(i % (xs.length : Int)).toNat], ?_, List.getElem_mem _⟩
  have := atI_nat (xs := xs) (List.getElem?_eq_getElem h3)
  rwa [Int.toNat_of_nonneg h1] at this
abbrev onL_sum : SN := onLst fun ds Q => ∃ ns : List Int, ds = ns.map D.int ∧ Q (.int ns.sum)
abbrev onL_max : SN := onLst fun ds Q => ∃ ns : List Int, ds = ns.map D.int ∧ 0 < ns.length ∧ ∀ m, m ∈ ns → (∀ y, y ∈ ns → y ≤ m) → Q (.int m)
abbrev onL_min : SN := onLst fun ds Q => ∃ ns : List Int, ds = ns.map D.int ∧ 0 < ns.length ∧ ∀ m, m ∈ ns → (∀ y, y ∈ ns → m ≤ y) → Q (.int m)
abbrev onL_all : SN := onLst fun ds Q => ∃ bs : List Bool, ds = bs.map D.bl ∧ Q (.bl (bs.all id))
abbrev onL_any : SN := onLst fun ds Q => ∃ bs : List Bool, ds = bs.map D.bl ∧ Q (.bl (bs.any id))
abbrev onL_sorted : SN := onLst fun ds Q => ∃ ns : List Int, ds = ns.map D.int ∧ ns.length < 64 ∧ ∀ ns' : List Int, ns'.Perm ns → ns'.Pairwise (· ≤ ·) → Q (.lst (ns'.map D.int))
/-- what a law's feed holds: its numbers, a place, what is left -/
def PenOk : OC → Prop := fun c => ∃ (xs : List Int) (i j : Int), c = .lst [.lst (xs.map D.int), .int i, .int j]
end L2.DL

namespace L2.DL
open PySem PySem.Spec PyProof.Rows

/-! ### int('1' + '0' * n) -/
theorem fold_app {α : Type} (l : List (Array α)) : ∀ (a : Array α), (l.foldl (· ++ ·) a).toList = a.toList ++ (l.map Array.toList).flatten := by
  induction l with
  | nil => intro a; simp
  | cons x r ih => intro a; rw [List.foldl_cons, ih]; simp
theorem repS_one (c n : Nat) : repS (SX.S [c]) n = SX.S (List.replicate n c) := by
  have h : ((List.replicate n (SX.S [c]).cps).foldl (· ++ ·) #[]).toList = List.replicate n c := by
    rw [fold_app, List.map_replicate]
    show [] ++ (List.replicate n [c]).flatten = _
    rw [List.nil_append]
    induction n with
    | zero => rfl
    | succ n ih => rw [List.replicate_succ, List.flatten_cons, ih]; rfl
  show (⟨(List.replicate n (SX.S [c]).cps).foldl (· ++ ·) #[]⟩ : Str) = ⟨(List.replicate n c).toArray⟩
  congr 1
  exact Array.ext' (by rw [h])
theorem digits_zero (n : Nat) : ∀ a : Nat, (List.replicate n 48).foldl (fun acc c => acc * 10 + (c - 48)) a = a * 10 ^ n := by
  induction n with
  | zero => intro a; simp
  | succ n ih => intro a; rw [List.replicate_succ, List.foldl_cons, ih, Nat.pow_succ]; simp [Nat.mul_assoc, Nat.mul_comm]
theorem ten_S (n : Nat) : (SX.S [49] ++ repS (SX.S [48]) n : Str) = SX.S (49 :: List.replicate n 48) := by rw [repS_one, SX.S_cat]; rfl
theorem ten_text (n : Nat) (h : n ≤ 639) : PySem.intText? (SX.S [49] ++ repS (SX.S [48]) n) = some ((10 : Int) ^ n) ∧ (SX.S [49] ++ repS (SX.S [48]) n : Str).length ≤ 640 := by
  rw [ten_S]
  constructor
  · rw [SX.int_S]
    · show some (((List.replicate n 48).foldl (fun acc c => acc * 10 + (c - 48)) (0 * 10 + (49 - 48)) : Nat) : Int) = _
      rw [digits_zero]
      simp
    · simp [List.all_replicate]
    · simp
    · simp; omega
  · rw [SX.S_len]; simp; omega
/-- the walk of the text of a power of ten, as the transformers spell it -/
theorem ten_run (m : Int) (h0 : 1 < m) (h1 : m ≤ 639) (Q : D → Prop) (hq : Q (.int (10 ^ m.toNat))) :
    mulD (.str (Str.ofString "0")) (.int m) fun d => addD (.str (Str.ofString "1")) d fun d2 => intD d2 Q := by
  refine ⟨⟨h0, by omega, by decide, by decide⟩, ?_⟩
  obtain ⟨a, b⟩ := ten_text m.toNat (by omega)
  refine ⟨?_, _, a, b, hq⟩
  have e : (Str.ofString "0") = SX.S [48] := rfl
  rw [e, repS_one]
  show (Str.ofString "1").length + (SX.S (List.replicate m.toNat 48)).length ≤ sizeLine
  rw [SX.S_len (List.replicate m.toNat 48), List.length_replicate]
  have h2 : (Str.ofString "1").length = 1 := rfl
  rw [h2]
  have h3 : sizeLine ≥ 1000 := by decide
  omega
theorem atI_all {α : Type} {l : List α} (p : α → Bool) {r : Int} (h : l.all p = true) (h0 : 0 ≤ r) (h1 : r < (l.length : Int)) : ∃ x, atI l r = some x ∧ p x = true := by
  have h3 : r.toNat < l.length := by omega
  refine ⟨l[r.toNat], ?_, List.all_eq_true.mp h _ (List.getElem_mem _)⟩
  have := atI_nat (xs := l) (List.getElem?_eq_getElem h3)
  rwa [Int.toNat_of_nonneg h0] at this
def intB (p : Int → Bool) : D → Bool
  | .int i => p i
  | _ => false
theorem intB_of {p : Int → Bool} {d : D} (h : intB p d = true) : ∃ i, d = .int i ∧ p i = true := by
  cases d <;> first | exact ⟨_, rfl, h⟩ | cases h
theorem cut_ints (ns : List Int) (lo hi : Option Int) : ∃ xs : List Int, cutD (ns.map D.int) lo hi = xs.map D.int :=
  ⟨cutD ns lo hi, by unfold cutD; rw [List.length_map, ← List.map_drop, ← List.map_take]⟩
theorem pen_start (ns : List Int) (lo hi : Option Int) (i j : Int) : PenOk (OC.lst [D.lst (cutD (ns.map D.int) lo hi), D.int i, D.int j]) := by
  obtain ⟨xs, e⟩ := cut_ints ns lo hi
  exact ⟨xs, i, j, by rw [e]⟩
/-! ### == of data without truths is to be the same -/
mutual
def D.cl : D → Bool
  | .non => true
  | .int _ => true
  | .str _ => true
  | .tup xs => D.cls xs
  | .lst xs => D.cls xs
  | .bl _ => false
  | .scr _ => false
  | .atm _ => false
  | .dct _ => false
def D.cls : List D → Bool
  | [] => true
  | d :: r => d.cl && D.cls r
end
mutual
theorem eqv_iff : ∀ (d e : D), d.cl = true → e.cl = true → (PyData.eqv d.py e.py = true ↔ d = e)
  | .non, e, _, h => by cases e <;> first | (simp [D.py, PyData.eqv]; done) | cases h
  | .int i, e, _, h => by cases e <;> first | (simp [D.py, PyData.eqv]; done) | cases h
  | .str i, e, _, h => by cases e <;> first | (simp [D.py, PyData.eqv]; done) | cases h
  | .tup xs, e, k, h => by
    cases e with
    | tup ys => rw [D.cl] at k h; simp only [D.py, PyData.eqv, D.tup.injEq]; exact eqvs_iff xs ys k h
    | _ => first | (simp [D.py, PyData.eqv]; done) | cases h
  | .lst xs, e, k, h => by
    cases e with
    | lst ys => rw [D.cl] at k h; simp only [D.py, PyData.eqv, D.lst.injEq]; exact eqvs_iff xs ys k h
    | _ => first | (simp [D.py, PyData.eqv]; done) | cases h
  | .bl _, _, h, _ => by cases h
  | .scr _, _, h, _ => by cases h
  | .atm _, _, h, _ => by cases h
  | .dct _, _, h, _ => by cases h
theorem eqvs_iff : ∀ (d e : List D), D.cls d = true → D.cls e = true → (PyData.eqvAll (D.pys d) (D.pys e) = true ↔ d = e)
  | [], [], _, _ => by simp [D.pys, PyData.eqvAll]
  | [], _ :: _, _, _ => by simp [D.pys, PyData.eqvAll]
  | _ :: _, [], _, _ => by simp [D.pys, PyData.eqvAll]
  | d :: r, e :: q, h, k => by
    rw [D.cls, Bool.and_eq_true] at h k
    rw [D.pys, D.pys, PyData.eqvAll, Bool.and_eq_true, eqv_iff d e h.1 k.1, eqvs_iff r q h.2 k.2, List.cons.injEq]
end
end L2.DL

namespace L2.DL
open PySem PySem.Spec PyProof.Rows

/-! ### how many bits a number may have -/
def Sz (n : Nat) (v : Int) : Prop := v.natAbs < 2 ^ n
theorem Sz.mono {n m : Nat} {v : Int} (h : Sz n v) (l : n ≤ m) : Sz m v := Nat.lt_of_lt_of_le h (Nat.pow_le_pow_right (by decide) l)
theorem Sz.add {n m : Nat} {v w : Int} (h : Sz n v) (k : Sz m w) : Sz (max n m + 1) (v + w) := by
  have h := h.mono (Nat.le_max_left n m)
  have k := k.mono (Nat.le_max_right n m)
  unfold Sz at *
  rw [Nat.pow_succ]
  omega
theorem Sz.neg {n : Nat} {v : Int} (h : Sz n v) : Sz n (-v) := by unfold Sz at *; rw [Int.natAbs_neg]; exact h
theorem Sz.sub {n m : Nat} {v w : Int} (h : Sz n v) (k : Sz m w) : Sz (max n m + 1) (v - w) := by rw [Int.sub_eq_add_neg]; exact h.add k.neg
theorem Sz.mul {n m : Nat} {v w : Int} (h : Sz n v) (k : Sz m w) : Sz (n + m) (v * w) := by
  unfold Sz at *
  rw [Int.natAbs_mul, Nat.pow_add]
  exact Nat.mul_lt_mul_of_lt_of_le h (Nat.le_of_lt k) (Nat.two_pow_pos m)
theorem Sz.abs {n : Nat} {v : Int} (h : Sz n v) : Sz n (if v < 0 then -v else v) := by
  split
  · exact h.neg
  · exact h
theorem Sz.small {v : Int} (h0 : -18446744073709551616 < v) (h1 : v < 18446744073709551616) : Sz 64 v := by
  unfold Sz
  have : (2 : Nat) ^ 64 = 18446744073709551616 := by decide
  omega
theorem Sz.ten (n : Nat) : Sz (4 * n + 1) ((10 : Int) ^ n) := by
  unfold Sz
  rw [Int.natAbs_pow]
  show 10 ^ n < 2 ^ (4 * n + 1)
  have h : 10 ^ n ≤ 16 ^ n := Nat.pow_le_pow_left (by decide) n
  have e : 2 ^ (4 * n) = 16 ^ n := by rw [Nat.pow_mul]
  rw [Nat.pow_succ, e]
  have : 0 < 16 ^ n := Nat.pos_of_ne_zero (by simp)
  omega
theorem Sz.max {n : Nat} {v w : Int} (h : Sz n v) (k : Sz n w) : Sz n (Max.max v w) := by
  rcases Int.le_total v w with q | q
  · rw [Int.max_eq_right q]; exact k
  · rw [Int.max_eq_left q]; exact h
theorem cml_sz {a b : Nat} {i j : Int} (ha : Sz a i) (hb : Sz b j) (h : a + b ≤ 1000000 := by decide) (h0 : 0 < a := by decide) (h1 : 0 < b := by decide) : CMl i j := .inr (wide_mul ha hb h0 h1 h)
theorem bit {r : Int} (h0 : 0 ≤ r) (h1 : r < 2) : r = 0 ∨ r = 1 := by omega
/-! ### == of data that we know only by name: kept whole -/
@[irreducible] def eqX : S2 := eqD
@[irreducible] def neX : S2 := neD
section
variable {X : Cx}
theorem o_eqX (hu : X.A.units + 64 < cLine) : DOp X (compareOp .Eq) eqX := by unfold eqX; exact o_eq hu
theorem o_neX (hu : X.A.units + 64 < cLine) : DOp X (compareOp .NotEq) neX := by unfold neX; exact o_ne hu
end
theorem eqX_of {d e : D} {Q : D → Prop} (h : eqD d e Q) : eqX d e Q := by unfold eqX; exact h
theorem neX_of {d e : D} {Q : D → Prop} (h : neD d e Q) : neX d e Q := by unfold neX; exact h
end L2.DL

namespace L2.DL
open PySem PySem.Spec PyProof.Rows

/-! ### sorted(..) of pairs of ints, by both numbers -/
inductive PrP (G : V → Int × Int → Prop) : List V → List (Int × Int) → Prop
  | nil : PrP G [] []
  | cons {x : V} {p : Int × Int} {xs : List V} {ps : List (Int × Int)} : G x p → PrP G xs ps → PrP G (x :: xs) (p :: ps)
def pairD (p : Int × Int) : D := .tup [.int p.1, .int p.2]
def rSortPairs (K : PySem.W.Frag) : List V → Hp → VK → Prop := fun vs H Q => ∃ (a : Addr) (xs : List V) (ps : List (Int × Int)) (G : V → Int × Int → Prop), vs = [V.ref a] ∧ SqL K H a xs ∧ PrP G xs ps ∧ (∀ x p, G x p → ∃ t, x = V.ref t ∧ SqT K H t [.int p.1, .int p.2]) ∧
  ∀ zs qs p, PrP G zs qs → qs.Perm ps → qs.Pairwise (fun x y => SrtO.lexB y x = false) → H p = none → Q (.ref p) (upd H p (.lst zs))
theorem ispair_uniq {h : Heap} {v : Value} {x y x' y' : Int} (p : Srt.IsPair h v x y) (q : Srt.IsPair h v x' y') : x = x' ∧ y = y' := by
  obtain ⟨a, o, t, u, n, e, ho, hc, hd⟩ := p
  obtain ⟨a', o', t', u', n', e', ho', hc', hd'⟩ := q
  subst e; cases e'
  rw [ho] at ho'; cases ho'
  rw [hd] at hd'
  simp at hd'
  exact ⟨hd'.1.1.1, hd'.1.2.1⟩
open Classical in
noncomputable def prK (h : Heap) (v : Value) : Int × Int := if e : ∃ p : Int × Int, Srt.IsPair h v p.1 p.2 then e.choose else (0, 0)
theorem prK_eq {h : Heap} {v : Value} {x : Int × Int} (p : Srt.IsPair h v x.1 x.2) : prK h v = x := by
  have e : ∃ p : Int × Int, Srt.IsPair h v p.1 p.2 := ⟨x, p⟩
  have e2 : prK h v = e.choose := by unfold prK; rw [dif_pos e]
  rw [e2]
  obtain ⟨a, b⟩ := ispair_uniq e.choose_spec p
  exact Prod.ext a b
section
variable {X : Cx}
theorem pr_its {pins : List (Addr × Obj)} {s : Shared} {σ : St} {H : Hp} {G : V → Int × Int → Prop} (I : Inv X pins σ H s) (hG : ∀ x p, G x p → ∃ t, x = V.ref t ∧ SqT X.K H t [.int p.1, .int p.2]) : ∀ {xs : List V} {ps : List (Int × Int)} {its : List Value}, PrP G xs ps → Vals xs its →
    (∀ v ∈ its, Srt.IsPair s.heap v (prK s.heap v).1 (prK s.heap v).2) ∧ its.map (prK s.heap) = ps ∧ ∀ v ∈ its, ∃ t, v = Value.ref t ∧ G (.ref t) (prK s.heap v)
  | _, _, _, .nil, .nil => ⟨fun _ m => absurd m (by simp), rfl, fun _ m => absurd m (by simp)⟩
  | _, _, _, .cons (x := x) (p := p) g r, .cons rv rr => by
    obtain ⟨h1, h2, h3⟩ := pr_its I hG r rr
    obtain ⟨t, rfl, h⟩ := hG _ _ g
    cases rv
    obtain ⟨its2, r2, ⟨o, ho, hc, n, hd⟩, _⟩ := I.tuple h
    obtain ⟨u1, u2, rfl, ri, rj⟩ := vals2 r2
    obtain ⟨t1, rfl⟩ := ri
    obtain ⟨t2, rfl⟩ := rj
    have ip : Srt.IsPair s.heap (.ref t) p.1 p.2 := ⟨t, o, t1, t2, n, rfl, ho, hc, hd⟩
    have ek := prK_eq ip
    refine ⟨fun v m => ?_, by rw [List.map_cons, ek, h2], fun v m => ?_⟩
    · rcases List.mem_cons.mp m with e | m
      · rw [e, ek]; exact ip
      · exact h1 v m
    · rcases List.mem_cons.mp m with e | m
      · rw [e, ek]; exact ⟨t, rfl, g⟩
      · exact h3 v m
theorem pr_of {G : V → Int × Int → Prop} {f : Value → Int × Int} : ∀ {out : List Value}, (∀ v ∈ out, ∃ t, v = Value.ref t ∧ G (.ref t) (f v)) → PrP G (out.map backV) (out.map f)
  | [], _ => .nil
  | v :: r, h => by
    obtain ⟨t, e, q⟩ := h v List.mem_cons_self
    have ih := pr_of fun u m => h u (List.mem_cons_of_mem _ m)
    subst e
    exact .cons q ih
theorem cr_sortPairs : CallR X (.builtin "sorted") (rSortPairs X.K) := by
  intro pins s σ H vs us Q I r h
  obtain ⟨a, xs, ps, G, rfl, hs, hx, hG, q⟩ := h
  obtain ⟨its, rv, hl, hz⟩ := I.list hs
  obtain ⟨u, rfl, ru⟩ := vals1 r
  obtain rfl : u = Value.ref a := ru
  obtain ⟨h1, h2, h3⟩ := pr_its I hG hx rv
  refine SrtO.sorted_pairsO (k := prK s.heap) hl.isList (by rw [← rv.length]; exact hz) h1 fun h' d out hp hst kk hd hn => ?_
  have h4 : ∀ v ∈ out, ∃ t, v = Value.ref t ∧ G (.ref t) (prK s.heap v) := fun v m => h3 v (hst.perm.mem_iff.mp m)
  have h5 : ∀ u ∈ out, ∃ a, u = Value.ref a := fun u m => by
    obtain ⟨t, e, _⟩ := h4 u m
    exact ⟨t, e⟩
  obtain ⟨n, hn⟩ := hn
  refine ⟨.ref d, upd H d (.lst (out.map backV)), I.laid (t' := s.toks) kk hd ⟨?_, out, n, vals_back h5, hn⟩, rfl, q _ (out.map (prK s.heap)) d (pr_of h4) ?_ ?_ (I.hok.fresh hd)⟩
  · rw [List.length_map, hst.perm.length_eq, ← rv.length]; exact hz
  · rw [← h2]; exact hst.perm.map _
  · exact List.pairwise_map.mpr hp
end
theorem RpA.pairs {K : PySem.W.Frag} {F : Hp} : ∀ {ps : List (Int × Int)} {vs : List V}, RpA K F vs (ps.map pairD) → PrP (fun x p => Rp K F x (pairD p)) vs ps
  | [], _, .nil => .nil
  | p :: r, _, .cons h t => .cons h (RpA.pairs t)
theorem PrP.rpa {K : PySem.W.Frag} {F F' : Hp} (s : Same F F') : ∀ {vs : List V} {ps : List (Int × Int)}, PrP (fun x p => Rp K F x (pairD p)) vs ps → RpA K F' vs (ps.map pairD)
  | _, _, .nil => .nil
  | _, _, .cons h t => .cons (Rp.mono s h) (t.rpa s)
abbrev onL_sortedP : SN := onLst fun ds Q => (∃ ns : List Int, ds = ns.map D.int ∧ ns.length < 64 ∧ ∀ ns' : List Int, ns'.Perm ns → ns'.Pairwise (· ≤ ·) → Q (.lst (ns'.map D.int))) ∨
  ∃ ps : List (Int × Int), ds = ps.map pairD ∧ ∀ qs : List (Int × Int), qs.Perm ps → qs.Pairwise (fun x y => SrtO.lexB y x = false) → Q (.lst (qs.map pairD))
theorem c_sortedP {X : Cx} : DCl X (.builtin "sorted") onL_sortedP :=
  lst_run (cr_sorted.or cr_sortPairs) fun F H a vs ds Q Q' s hs ra h k => by
    rcases h with ⟨ns, e, h1, h⟩ | ⟨ps, e, h⟩
    · subst e
      rw [ra.of_ints] at hs
      exact .inl ⟨a, ns, rfl, hs, h1, fun ns' p e1 e2 hp => k _ _ _ _ (h ns' e1 e2) (.new hp) (.lst upd_same (RpA.ints ns'))⟩
    · subst e
      refine .inr ⟨a, vs, ps, fun x p => Rp X.K F x (pairD p), rfl, hs, ra.pairs, fun x p r => ?_, fun zs qs p hz e1 e2 hp => k _ _ _ _ (h qs e1 e2) (.new hp) (.lst upd_same (hz.rpa (same_upd (s.free hp))))⟩
      cases r with
      | tup h1 ra => rw [ra.int2] at h1; exact ⟨_, rfl, same_sqT s h1⟩
end L2.DL

namespace Y
open PySem PySem.Spec PyProof.Rows L2 L2.DL
def topS (i : Nat) : Stmt := PySem.Challenge.pw_roomtables_k12_either.main.body.getD i (.Pass ⟨0, 0, 0, 0⟩)
abbrev s_held : Stmt := topS 4
abbrev N_held : List Str := ["found", "numbers", "number"]
theorem sc_held : FnScope N_held ["found"] (defScope s_held) := ⟨rfl, rfl, rfl, by decide +kernel, rfl, by decide +kernel, by decide +kernel⟩
abbrev s_is_better : Stmt := topS 5
abbrev N_is_better : List Str := ["word", "one", "other"]
theorem sc_is_better : FnScope N_is_better ["word", "one", "other"] (defScope s_is_better) := ⟨rfl, rfl, rfl, by decide +kernel, rfl, by decide +kernel, by decide +kernel⟩
abbrev s_either : Stmt := topS 6
abbrev N_either : List Str := ["word", "one", "other"]
theorem sc_either : FnScope N_either ["word", "one", "other"] (defScope s_either) := ⟨rfl, rfl, rfl, by decide +kernel, rfl, by decide +kernel, by decide +kernel⟩
abbrev s_l_take : Stmt := topS 8
abbrev N_l_take : List Str := ["_law_feed", "_law_many", "_law_cell", "_law_number_here", "_law_digit"]
theorem sc_l_take : FnScope N_l_take ["_law_feed", "_law_many"] (defScope s_l_take) := ⟨rfl, rfl, rfl, by decide +kernel, rfl, by decide +kernel, by decide +kernel⟩
abbrev s_l_ten : Stmt := topS 9
abbrev N_l_ten : List Str := ["_law_many"]
theorem sc_l_ten : FnScope N_l_ten ["_law_many"] (defScope s_l_ten) := ⟨rfl, rfl, rfl, by decide +kernel, rfl, by decide +kernel, by decide +kernel⟩
abbrev s_l_number : Stmt := topS 10
abbrev N_l_number : List Str := ["_law_feed", "_law_way", "_law_many"]
theorem sc_l_number : FnScope N_l_number ["_law_feed"] (defScope s_l_number) := ⟨rfl, rfl, rfl, by decide +kernel, rfl, by decide +kernel, by decide +kernel⟩
abbrev s_l_drawn : Stmt := topS 11
abbrev N_l_drawn : List Str := ["_law_feed", "_law_word"]
theorem sc_l_drawn : FnScope N_l_drawn ["_law_feed", "_law_word"] (defScope s_l_drawn) := ⟨rfl, rfl, rfl, by decide +kernel, rfl, by decide +kernel, by decide +kernel⟩
abbrev s_l_whole : Stmt := topS 12
abbrev N_l_whole : List Str := ["_law_thing"]
theorem sc_l_whole : FnScope N_l_whole ["_law_thing"] (defScope s_l_whole) := ⟨rfl, rfl, rfl, by decide +kernel, rfl, by decide +kernel, by decide +kernel⟩
abbrev s_l_alike : Stmt := topS 13
abbrev N_l_alike : List Str := ["_law_found", "_law_ought_here"]
theorem sc_l_alike : FnScope N_l_alike ["_law_found", "_law_ought_here"] (defScope s_l_alike) := ⟨rfl, rfl, rfl, by decide +kernel, rfl, by decide +kernel, by decide +kernel⟩
abbrev s_l_held : Stmt := topS 14
abbrev N_l_held : List Str := ["_law_found", "_law_numbers", "_law_number_here"]
theorem sc_l_held : FnScope N_l_held ["_law_found"] (defScope s_l_held) := ⟨rfl, rfl, rfl, by decide +kernel, rfl, by decide +kernel, by decide +kernel⟩
abbrev s_l_near : Stmt := topS 15
abbrev N_l_near : List Str := ["_law_feed", "_law_word", "_law_one", "_law_other", "_law_near_here", "_law_many"]
theorem sc_l_near : FnScope N_l_near ["_law_feed", "_law_word", "_law_one", "_law_other"] (defScope s_l_near) := ⟨rfl, rfl, rfl, by decide +kernel, rfl, by decide +kernel, by decide +kernel⟩
abbrev s_l_close : Stmt := topS 16
abbrev N_l_close : List Str := ["_law_number_here", "_law_near_here"]
theorem sc_l_close : FnScope N_l_close ["_law_number_here", "_law_near_here"] (defScope s_l_close) := ⟨rfl, rfl, rfl, by decide +kernel, rfl, by decide +kernel, by decide +kernel⟩
abbrev s_l_ought : Stmt := topS 17
abbrev N_l_ought : List Str := ["_law_word", "_law_one", "_law_other"]
theorem sc_l_ought : FnScope N_l_ought ["_law_word", "_law_one", "_law_other"] (defScope s_l_ought) := ⟨rfl, rfl, rfl, by decide +kernel, rfl, by decide +kernel, by decide +kernel⟩
abbrev s_law : Stmt := topS 18
abbrev N_law : List Str := ["_law_script", "_law_feed", "_law_turn", "_law_word", "_law_one", "_law_other", "_law_ought_here"]
theorem sc_law : FnScope N_law ["_law_script"] (defScope s_law) := ⟨rfl, rfl, rfl, by decide +kernel, rfl, by decide +kernel, by decide +kernel⟩
abbrev c_GREAT : D := (.int 10000000000000000000000000000000000000000000000000000000000000000000000000000000000000000000000000000000000000000000000000000000000000000000000000000000000000000000000000000000000000000000000000000000000000000000000000000000000000000000000000000000000000000000000000000000000000000000000000000000000000000000000000000000000000000000000000000000000000000000000000000000000000000000000000000000000000000)
abbrev c_PAIRED : D := (.tup [(.str "leasts"), (.str "greatests")])
abbrev c_COUNTING : D := (.tup [(.str "ways"), (.str "sum")])
structure Txt (K : PySem.W.Frag) (mg : Str → Option Value) where
  f_held : Addr
  d_held : FuncData
  F_held : Fun K "held" "held" s_held f_held d_held
  b_held : Binds K d_held ["found"] []
  g_held : mg "held" = some (.ref f_held)
  f_is_better : Addr
  d_is_better : FuncData
  F_is_better : Fun K "is_better" "is_better" s_is_better f_is_better d_is_better
  b_is_better : Binds K d_is_better ["word", "one", "other"] []
  g_is_better : mg "is_better" = some (.ref f_is_better)
  f_either : Addr
  d_either : FuncData
  F_either : Fun K "either" "either" s_either f_either d_either
  b_either : Binds K d_either ["word", "one", "other"] []
  g_either : mg "either" = some (.ref f_either)
  f_l_take : Addr
  d_l_take : FuncData
  F_l_take : Fun K "_law_take" "_law_take" s_l_take f_l_take d_l_take
  b_l_take : Binds K d_l_take ["_law_feed", "_law_many"] []
  g_l_take : mg "_law_take" = some (.ref f_l_take)
  f_l_ten : Addr
  d_l_ten : FuncData
  F_l_ten : Fun K "_law_ten" "_law_ten" s_l_ten f_l_ten d_l_ten
  b_l_ten : Binds K d_l_ten ["_law_many"] []
  g_l_ten : mg "_law_ten" = some (.ref f_l_ten)
  f_l_number : Addr
  d_l_number : FuncData
  F_l_number : Fun K "_law_number" "_law_number" s_l_number f_l_number d_l_number
  b_l_number : Binds K d_l_number ["_law_feed"] []
  g_l_number : mg "_law_number" = some (.ref f_l_number)
  f_l_drawn : Addr
  d_l_drawn : FuncData
  F_l_drawn : Fun K "_law_drawn" "_law_drawn" s_l_drawn f_l_drawn d_l_drawn
  b_l_drawn : Binds K d_l_drawn ["_law_feed", "_law_word"] []
  g_l_drawn : mg "_law_drawn" = some (.ref f_l_drawn)
  f_l_whole : Addr
  d_l_whole : FuncData
  F_l_whole : Fun K "_law_whole" "_law_whole" s_l_whole f_l_whole d_l_whole
  b_l_whole : Binds K d_l_whole ["_law_thing"] []
  g_l_whole : mg "_law_whole" = some (.ref f_l_whole)
  f_l_alike : Addr
  d_l_alike : FuncData
  F_l_alike : Fun K "_law_alike" "_law_alike" s_l_alike f_l_alike d_l_alike
  b_l_alike : Binds K d_l_alike ["_law_found", "_law_ought_here"] []
  g_l_alike : mg "_law_alike" = some (.ref f_l_alike)
  f_l_held : Addr
  d_l_held : FuncData
  F_l_held : Fun K "_law_held" "_law_held" s_l_held f_l_held d_l_held
  b_l_held : Binds K d_l_held ["_law_found"] []
  g_l_held : mg "_law_held" = some (.ref f_l_held)
  f_l_near : Addr
  d_l_near : FuncData
  F_l_near : Fun K "_law_near" "_law_near" s_l_near f_l_near d_l_near
  b_l_near : Binds K d_l_near ["_law_feed", "_law_word", "_law_one", "_law_other"] []
  g_l_near : mg "_law_near" = some (.ref f_l_near)
  f_l_close : Addr
  d_l_close : FuncData
  F_l_close : Fun K "_law_close" "_law_close" s_l_close f_l_close d_l_close
  b_l_close : Binds K d_l_close ["_law_number_here", "_law_near_here"] []
  g_l_close : mg "_law_close" = some (.ref f_l_close)
  f_l_ought : Addr
  d_l_ought : FuncData
  F_l_ought : Fun K "_law_ought" "_law_ought" s_l_ought f_l_ought d_l_ought
  b_l_ought : Binds K d_l_ought ["_law_word", "_law_one", "_law_other"] []
  g_l_ought : mg "_law_ought" = some (.ref f_l_ought)
  f_law : Addr
  d_law : FuncData
  F_law : Fun K "law" "law" s_law f_law d_law
  b_law : Binds K d_law ["_law_script"] []
  g_law : mg "law" = some (.ref f_law)
  m_GREAT : GlobD K mg "GREAT" c_GREAT
  m_PAIRED : GlobD K mg "PAIRED" c_PAIRED
  m_COUNTING : GlobD K mg "COUNTING" c_COUNTING
  z_abs : mg "abs" = none
  z_isinstance : mg "isinstance" = none
  z_tuple : mg "tuple" = none
  z_int : mg "int" = none
  z_len : mg "len" = none
  z_max : mg "max" = none
  z_bool : mg "bool" = none
  z_str : mg "str" = none
  z_list : mg "list" = none
  z_min : mg "min" = none
  z_sorted : mg "sorted" = none
  z_range : mg "range" = none
section
variable {P : Program} {w : World} {K : PySem.W.Frag} {mg : Str → Option Value} {base : Heap}
def t_held_1 : TDS := sIf (qTest (qOp (i2 fun i j Q => Q (.bl (decide (j ≤ i)))) (qCl (n1 absD) (qCons (qVar 2) (qNil))) (qC c_GREAT))) (sRet (qC (.str "great"))) (sNext)
abbrev K_held (P : Program) (w : World) (base : Heap) (T : Txt K mg) (k : Nat) (sp : FSpec) : Prop := FnOk P w K mg base CX0 k T.f_held T.d_held ["found"] (spD K 1 sp)
def t_held : TDS := sSeq (sAsg (qTup (qCons (qVar 0) (qNil))) (gN 1)) (sSeq (sIf (qTest (qCl (isiD .tup) (qCons (qVar 0) (qCons (qC (.atm (.ty "tuple"))) qNil)))) (sAsg (qVar 0) (gN 1)) (sNext)) (sSeq (sFor (qIter (qVar 1)) (gN 2) (t_held_1)) (sRet (qVar 0))))
set_option maxHeartbeats 4000000 in
theorem d_held (T : Txt K mg) {k : Nat}  {cdv : Value} {A : Around} {outer : List Env} {s : Shared} {H : Hp} {E : XK} {B : Bd} (hr : Room k (A.deeper (envOfC "held" (defScope s_held) s.heap.objs.size T.f_held cdv))) :
    DSs (cxOf CX0 P w K mg base N_held "held" (defScope s_held) T.f_held cdv A outer s H E).nox B (defBody s_held) (t_held) :=
  dss_cons (ds_set (i := 1) sc_held.nd (de_tup (da_cons (dv 0) (da_nil)))) (dss_cons (ds_if (dt_val (de_callB (c_isi .tup) (by rfl) T.z_isinstance (by decide +kernel) (da_cons (dv 0) (da_cons (de_bty (by rfl) T.z_tuple (by decide +kernel)) da_nil)))) (dss_one (ds_set (i := 1) sc_held.nd (dv 0))) (dss_nil)) (dss_cons (ds_for PassesOwn.never rfl (di_any (dv 1)) (dg_name (i := 2) sc_held.nd) (dss_one (ds_if (dt_cmp (o_ge) (de_callB (c_abs) (by rfl) T.z_abs (by decide +kernel) (da_cons (dv 2) (da_nil))) (de_const (by rfl) T.m_GREAT) (nomark _)) (dss_one (ds_ret (de_str))) (dss_nil)))) (dss_one (ds_ret (dv 0)))))
abbrev K_is_better (P : Program) (w : World) (base : Heap) (T : Txt K mg) (k : Nat) (sp : FSpec) : Prop := FnOk P w K mg base CX0 k T.f_is_better T.d_is_better ["word", "one", "other"] (spD K 3 sp)
def t_is_better : TDS := sSeq (sIf (qTest (qOp inD (qVar 0) (qTup (qCons (qC (.str "least")) (qCons (qC (.str "leasts")) (qNil)))))) (sRet (qOp (i2 fun i j Q => Q (.bl (decide (i < j)))) (qVar 1) (qVar 2))) (sNext)) (sRet (qOp (i2 fun i j Q => Q (.bl (decide (j < i)))) (qVar 1) (qVar 2)))
set_option maxHeartbeats 4000000 in
theorem d_is_better (T : Txt K mg) {k : Nat}  {cdv : Value} {A : Around} {outer : List Env} {s : Shared} {H : Hp} {E : XK} {B : Bd} (hr : Room k (A.deeper (envOfC "is_better" (defScope s_is_better) s.heap.objs.size T.f_is_better cdv))) :
    DSs (cxOf CX0 P w K mg base N_is_better "is_better" (defScope s_is_better) T.f_is_better cdv A outer s H E).nox B (defBody s_is_better) (t_is_better) :=
  dss_cons (ds_if (dt_cmp (o_in (hu_of hr)) (dv 0) (de_tup (da_cons (de_str) (da_cons (de_str) (da_nil)))) (by rfl)) (dss_one (ds_ret (de_cmp (o_lt) (dv 1) (dv 2) (nomark _)))) (dss_nil)) (dss_one (ds_ret (de_cmp (o_gt) (dv 1) (dv 2) (nomark _))))
abbrev K_either (P : Program) (w : World) (base : Heap) (T : Txt K mg) (k : Nat) (sp : FSpec) : Prop := FnOk P w K mg base CX0 k T.f_either T.d_either ["word", "one", "other"] (spD K 3 sp)
def t_either (sp_held : FSpec) (sp_is_better : FSpec) : TDS := sSeq (sIf (qTest (qOp isD (qVar 1) (qC .non))) (sRet (qVar 2)) (sNext)) (sSeq (sIf (qTest (qOp isD (qVar 2) (qC .non))) (sRet (qVar 1)) (sNext)) (sSeq (sIf (qTest (qOp inD (qVar 0) (qC c_COUNTING))) (sRet (qCall sp_held 1 (rCons (qOp addD (qVar 1) (qVar 2)) (rNil)))) (sNext)) (sSeq (sIf (qTest (qOp ninD (qVar 0) (qC c_PAIRED))) (sRet (qCall sp_held 1 (rCons (qOp ixD (qLst (qCons (qVar 1) (qCons (qVar 2) (qNil)))) (qCl (n1 intD) (qCons (qCall sp_is_better 3 (rCons (qVar 0) (rCons (qVar 2) (rCons (qVar 1) (rNil))))) (qNil)))) (rNil)))) (sNext)) (sSeq (sIf (qTest (qOp eqD (qOp ixD (qVar 1) (qC (.int 0))) (qOp ixD (qVar 2) (qC (.int 0))))) (sRet (qCall sp_held 1 (rCons (qTup (qCons (qOp ixD (qVar 1) (qC (.int 0))) (qCons (qOp addD (qOp ixD (qVar 1) (qC (.int 1))) (qOp ixD (qVar 2) (qC (.int 1)))) (qNil)))) (rNil)))) (sNext)) (sRet (qCall sp_held 1 (rCons (qOp ixD (qLst (qCons (qVar 1) (qCons (qVar 2) (qNil)))) (qCl (n1 intD) (qCons (qCall sp_is_better 3 (rCons (qVar 0) (rCons (qOp ixD (qVar 2) (qC (.int 0))) (rCons (qOp ixD (qVar 1) (qC (.int 0))) (rNil))))) (qNil)))) (rNil))))))))
set_option maxHeartbeats 4000000 in
theorem d_either (T : Txt K mg) {k : Nat} {k_held : Nat} {sp_held : FSpec} (G_held : FnOk P w K mg base CX0 k_held T.f_held T.d_held ["found"] (spD K 1 sp_held)) (h_held : k_held ≤ k) {k_is_better : Nat} {sp_is_better : FSpec} (G_is_better : FnOk P w K mg base CX0 k_is_better T.f_is_better T.d_is_better ["word", "one", "other"] (spD K 3 sp_is_better)) (h_is_better : k_is_better ≤ k) {cdv : Value} {A : Around} {outer : List Env} {s : Shared} {H : Hp} {E : XK} {B : Bd} (hr : Room k (A.deeper (envOfC "either" (defScope s_either) s.heap.objs.size T.f_either cdv))) :
    DSs (cxOf CX0 P w K mg base N_either "either" (defScope s_either) T.f_either cdv A outer s H E).nox B (defBody s_either) (t_either sp_held sp_is_better) :=
  dss_cons (ds_if (dt_cmp (o_is) (dv 1) (de_non) (nomark _)) (dss_one (ds_ret (dv 2))) (dss_nil)) (dss_cons (ds_if (dt_cmp (o_is) (dv 2) (de_non) (nomark _)) (dss_one (ds_ret (dv 1))) (dss_nil)) (dss_cons (ds_if (dt_cmp (o_in (hu_of hr)) (dv 0) (de_const (by rfl) T.m_COUNTING) (by rfl)) (dss_one (ds_ret (de_call G_held (hr.mono (by omega)) (by rfl) T.g_held T.F_held.kp T.b_held (dr_cons (de_op o_add (dv 1) (dv 2)) (dr_nil))))) (dss_nil)) (dss_cons (ds_if (dt_cmp (o_nin (hu_of hr)) (dv 0) (de_const (by rfl) T.m_PAIRED) (by rfl)) (dss_one (ds_ret (de_call G_held (hr.mono (by omega)) (by rfl) T.g_held T.F_held.kp T.b_held (dr_cons (de_ix (o_ix (hu_of hr)) (de_lst (da_cons (dv 1) (da_cons (dv 2) (da_nil)))) (de_callTy (c_int) (by rfl) T.z_int (by decide +kernel) (da_cons (de_call G_is_better (hr.mono (by omega)) (by rfl) T.g_is_better T.F_is_better.kp T.b_is_better (dr_cons (dv 0) (dr_cons (dv 2) (dr_cons (dv 1) (dr_nil))))) (da_nil)))) (dr_nil))))) (dss_nil)) (dss_cons (ds_if (dt_cmp (o_eq hr.units) (de_ix (o_ix (hu_of hr)) (dv 1) (de_int)) (de_ix (o_ix (hu_of hr)) (dv 2) (de_int)) (nomark _)) (dss_one (ds_ret (de_call G_held (hr.mono (by omega)) (by rfl) T.g_held T.F_held.kp T.b_held (dr_cons (de_tup (da_cons (de_ix (o_ix (hu_of hr)) (dv 1) (de_int)) (da_cons (de_op o_add (de_ix (o_ix (hu_of hr)) (dv 1) (de_int)) (de_ix (o_ix (hu_of hr)) (dv 2) (de_int))) (da_nil)))) (dr_nil))))) (dss_nil)) (dss_one (ds_ret (de_call G_held (hr.mono (by omega)) (by rfl) T.g_held T.F_held.kp T.b_held (dr_cons (de_ix (o_ix (hu_of hr)) (de_lst (da_cons (dv 1) (da_cons (dv 2) (da_nil)))) (de_callTy (c_int) (by rfl) T.z_int (by decide +kernel) (da_cons (de_call G_is_better (hr.mono (by omega)) (by rfl) T.g_is_better T.F_is_better.kp T.b_is_better (dr_cons (dv 0) (dr_cons (de_ix (o_ix (hu_of hr)) (dv 2) (de_int)) (dr_cons (de_ix (o_ix (hu_of hr)) (dv 1) (de_int)) (dr_nil))))) (da_nil)))) (dr_nil)))))))))
abbrev K_l_take (P : Program) (w : World) (base : Heap) (T : Txt K mg) (k : Nat) (sp : FSpec) : Prop := FnOk P w K mg base CX0 k T.f_l_take T.d_l_take ["_law_feed", "_law_many"] (spD K 2 sp)
def t_l_take : TDS := sOp 0 (sSeq (sIf (qTest (qOp (i2 fun i j Q => Q (.bl (decide (j < i)))) (qIxO 0 (qC (.int 2))) (qC (.int 0)))) (sSeq (sAsg (qOp (i2 fun i j Q => 0 < j ∧ Q (.int (i % j))) (qIxO 0 (qC (.int 2))) (qVar 1)) (gN 4)) (sSeq (sSetL 0 (qOp (i2 fun i j Q => CDv i j ∧ Q (.int (i / j))) (qIxO 0 (qC (.int 2))) (qVar 1)) (qC (.int 2))) (sRet (qVar 4)))) (sNext)) (sSeq (sAsg (qC (.int 29)) (gN 2)) (sSeq (sIf (qTest (qOp (i2 fun i j Q => Q (.bl (decide (j < i)))) (qCl (n1 lenD) (qCons (qIxO 0 (qC (.int 0))) (qNil))) (qC (.int 0)))) (sAsg (qOp ixD (qIxO 0 (qC (.int 0))) (qOp (i2 fun i j Q => 0 < j ∧ Q (.int (i % j))) (qIxO 0 (qC (.int 1))) (qCl (n1 lenD) (qCons (qIxO 0 (qC (.int 0))) (qNil))))) (gN 2)) (sNext)) (sSeq (sSetL 0 (qOp addD (qIxO 0 (qC (.int 1))) (qC (.int 1))) (qC (.int 1))) (sSeq (sIf (qAnd (qTest (qOp (i2 fun i j Q => Q (.bl (decide (i ≤ j)))) (qIxO 0 (qC (.int 1))) (qCl (n1 lenD) (qCons (qIxO 0 (qC (.int 0))) (qNil))))) (qTest (qOp (i2 fun i j Q => Q (.bl (decide (j ≤ i)))) (qCl (n1 absD) (qCons (qVar 2) (qNil))) (qOp (i2 fun i j Q => CPow i j ∧ Q (.int (i ^ j.toNat))) (qC (.int 10)) (qC (.int 18)))))) (sSeq (sSetL 0 (qOp (i2 fun i j Q => CDv i j ∧ Q (.int (i / j))) (qCl (n1 absD) (qCons (qVar 2) (qNil))) (qVar 1)) (qC (.int 2))) (sRet (qOp (i2 fun i j Q => 0 < j ∧ Q (.int (i % j))) (qCl (n1 absD) (qCons (qVar 2) (qNil))) (qVar 1)))) (sNext)) (sSeq (sAsg (qOp (i2 fun i j Q => 0 < j ∧ Q (.int (i % j))) (qOp mulD (qOp addD (qOp addD (qOp (i2 fun i j Q => 0 < j ∧ Q (.int (i % j))) (qVar 2) (qC (.int 2147483629))) (qOp mulD (qC (.int 40692)) (qIxO 0 (qC (.int 1))))) (qC (.int 7919))) (qC (.int 48271))) (qC (.int 2147483647))) (gN 3)) (sSeq (sAsg (qOp (i2 fun i j Q => 0 < j ∧ Q (.int (i % j))) (qOp addD (qOp mulD (qVar 3) (qVar 3)) (qOp mulD (qC (.int 69621)) (qIxO 0 (qC (.int 1))))) (qC (.int 2147483629))) (gN 3)) (sRet (qOp (i2 fun i j Q => 0 < j ∧ Q (.int (i % j))) (qOp (i2 fun i j Q => CDv i j ∧ Q (.int (i / j))) (qOp (i2 fun i j Q => 0 < j ∧ Q (.int (i % j))) (qOp addD (qOp mulD (qVar 3) (qVar 3)) (qOp mulD (qC (.int 16807)) (qVar 3))) (qC (.int 2147483587))) (qC (.int 64))) (qVar 1))))))))))
set_option maxHeartbeats 4000000 in
theorem d_l_take (T : Txt K mg) {k : Nat}  {cdv : Value} {A : Around} {outer : List Env} {s : Shared} {H : Hp} {E : XK} {B : Bd} (hr : Room k (A.deeper (envOfC "_law_take" (defScope s_l_take) s.heap.objs.size T.f_l_take cdv))) :
    DSs (cxOf CX0 P w K mg base N_l_take "_law_take" (defScope s_l_take) T.f_l_take cdv A outer s H E).nox B (defBody s_l_take) (t_l_take) :=
  dss_op 0 (dss_cons (ds_if (dt_cmp (o_gt) (de_ixO (i := 0) (pe_ix ix_list (pv 0) (DE.pe (de_int)) (fun _ _ => rfl))) (de_int) (nomark _)) (dss_cons (ds_set (i := 4) sc_l_take.nd (de_op o_mod (de_ixO (i := 0) (pe_ix ix_list (pv 0) (DE.pe (de_int)) (fun _ _ => rfl))) (dv 1))) (dss_cons (ds_setL (i := 0) (de_op o_fdiv (de_ixO (i := 0) (pe_ix ix_list (pv 0) (DE.pe (de_int)) (fun _ _ => rfl))) (dv 1)) (pg_sub (pv 0) (DE.pe (de_int)) set_list)) (dss_one (ds_ret (dv 4))))) (dss_nil)) (dss_cons (ds_set (i := 2) sc_l_take.nd (de_int)) (dss_cons (ds_if (dt_cmp (o_gt) (de_callB (c_len) (by rfl) T.z_len (by decide +kernel) (da_cons (de_ixO (i := 0) (pe_ix ix_list (pv 0) (DE.pe (de_int)) (fun _ _ => rfl))) (da_nil))) (de_int) (nomark _)) (dss_one (ds_set (i := 2) sc_l_take.nd (de_ix (o_ix (hu_of hr)) (de_ixO (i := 0) (pe_ix ix_list (pv 0) (DE.pe (de_int)) (fun _ _ => rfl))) (de_op o_mod (de_ixO (i := 0) (pe_ix ix_list (pv 0) (DE.pe (de_int)) (fun _ _ => rfl))) (de_callB (c_len) (by rfl) T.z_len (by decide +kernel) (da_cons (de_ixO (i := 0) (pe_ix ix_list (pv 0) (DE.pe (de_int)) (fun _ _ => rfl))) (da_nil))))))) (dss_nil)) (dss_cons (ds_setL (i := 0) (de_op o_add (de_ixO (i := 0) (pe_ix ix_list (pv 0) (DE.pe (de_int)) (fun _ _ => rfl))) (de_int)) (pg_sub (pv 0) (DE.pe (de_int)) set_list)) (dss_cons (ds_if (DW.dt (dw_and (dt_cmp (o_le) (de_ixO (i := 0) (pe_ix ix_list (pv 0) (DE.pe (de_int)) (fun _ _ => rfl))) (de_callB (c_len) (by rfl) T.z_len (by decide +kernel) (da_cons (de_ixO (i := 0) (pe_ix ix_list (pv 0) (DE.pe (de_int)) (fun _ _ => rfl))) (da_nil))) (nomark _)) (dw_and1 (dt_cmp (o_ge) (de_callB (c_abs) (by rfl) T.z_abs (by decide +kernel) (da_cons (dv 2) (da_nil))) (de_op o_pow (de_int) (de_int)) (nomark _))))) (dss_cons (ds_setL (i := 0) (de_op o_fdiv (de_callB (c_abs) (by rfl) T.z_abs (by decide +kernel) (da_cons (dv 2) (da_nil))) (dv 1)) (pg_sub (pv 0) (DE.pe (de_int)) set_list)) (dss_one (ds_ret (de_op o_mod (de_callB (c_abs) (by rfl) T.z_abs (by decide +kernel) (da_cons (dv 2) (da_nil))) (dv 1))))) (dss_nil)) (dss_cons (ds_set (i := 3) sc_l_take.nd (de_op o_mod (de_op o_mul (de_op o_add (de_op o_add (de_op o_mod (dv 2) (de_int)) (de_op o_mul (de_int) (de_ixO (i := 0) (pe_ix ix_list (pv 0) (DE.pe (de_int)) (fun _ _ => rfl))))) (de_int)) (de_int)) (de_int))) (dss_cons (ds_set (i := 3) sc_l_take.nd (de_op o_mod (de_op o_add (de_op o_mul (dv 3) (dv 3)) (de_op o_mul (de_int) (de_ixO (i := 0) (pe_ix ix_list (pv 0) (DE.pe (de_int)) (fun _ _ => rfl))))) (de_int))) (dss_one (ds_ret (de_op o_mod (de_op o_fdiv (de_op o_mod (de_op o_add (de_op o_mul (dv 3) (dv 3)) (de_op o_mul (de_int) (dv 3))) (de_int)) (de_int)) (dv 1)))))))))))
abbrev K_l_ten (P : Program) (w : World) (base : Heap) (T : Txt K mg) (k : Nat) (sp : FSpec) : Prop := FnOk P w K mg base CX0 k T.f_l_ten T.d_l_ten ["_law_many"] (spD K 1 sp)
def t_l_ten : TDS := sRet (qCl (n1 intD) (qCons (qOp addD (qC (.str "1")) (qOp mulD (qC (.str "0")) (qVar 0))) (qNil)))
set_option maxHeartbeats 4000000 in
theorem d_l_ten (T : Txt K mg) {k : Nat}  {cdv : Value} {A : Around} {outer : List Env} {s : Shared} {H : Hp} {E : XK} {B : Bd} (hr : Room k (A.deeper (envOfC "_law_ten" (defScope s_l_ten) s.heap.objs.size T.f_l_ten cdv))) :
    DSs (cxOf CX0 P w K mg base N_l_ten "_law_ten" (defScope s_l_ten) T.f_l_ten cdv A outer s H E).nox B (defBody s_l_ten) (t_l_ten) :=
  dss_one (ds_ret (de_callTy (c_int) (by rfl) T.z_int (by decide +kernel) (da_cons (de_op o_add (de_str) (de_op o_mul (de_str) (dv 0))) (da_nil))))
abbrev K_l_number (P : Program) (w : World) (base : Heap) (T : Txt K mg) (k : Nat) (sp : FSpec) : Prop := FnOk P w K mg base CX0 k T.f_l_number T.d_l_number ["_law_feed"] (spD K 1 sp)
def t_l_number (sp_l_take : FSpec) (sp_l_ten : FSpec) : TDS := sSeq (sAsg (qCall sp_l_take 2 (rSlot 0 (rCons (qC (.int 4)) (rNil)))) (gN 1)) (sSeq (sIf (qTest (qOp (i2 fun i j Q => Q (.bl (decide (i < j)))) (qVar 1) (qC (.int 2)))) (sRet (qOp (i2 fun i j Q => Q (.int (i - j))) (qCall sp_l_take 2 (rSlot 0 (rCons (qC (.int 7)) (rNil)))) (qC (.int 3)))) (sNext)) (sSeq (sAsg (qOp ixD (qLst (qCons (qC (.int 29)) (qCons (qC (.int 59)) (qCons (qC (.int 199)) (qCons (qC (.int 200)) (qCons (qC (.int 201)) (qCons (qC (.int 298)) (qCons (qC (.int 399)) (qCons (qC (.int 399)) (qNil)))))))))) (qCall sp_l_take 2 (rSlot 0 (rCons (qC (.int 8)) (rNil))))) (gN 2)) (sRet (qOp mulD (qOp (i2 fun i j Q => Q (.int (i - j))) (qC (.int 1)) (qOp mulD (qC (.int 2)) (qCall sp_l_take 2 (rSlot 0 (rCons (qC (.int 2)) (rNil)))))) (qOp (i2 fun i j Q => Q (.int (i - j))) (qOp mulD (qCall sp_l_ten 1 (rCons (qVar 2) (rNil))) (qOp addD (qC (.int 1)) (qCall sp_l_take 2 (rSlot 0 (rCons (qC (.int 9)) (rNil)))))) (qCall sp_l_take 2 (rSlot 0 (rCons (qC (.int 3)) (rNil)))))))))
set_option maxHeartbeats 4000000 in
theorem d_l_number (T : Txt K mg) {k : Nat} {k_l_take : Nat} {sp_l_take : FSpec} (G_l_take : FnOk P w K mg base CX0 k_l_take T.f_l_take T.d_l_take ["_law_feed", "_law_many"] (spD K 2 sp_l_take)) (h_l_take : k_l_take ≤ k) {k_l_ten : Nat} {sp_l_ten : FSpec} (G_l_ten : FnOk P w K mg base CX0 k_l_ten T.f_l_ten T.d_l_ten ["_law_many"] (spD K 1 sp_l_ten)) (h_l_ten : k_l_ten ≤ k) {cdv : Value} {A : Around} {outer : List Env} {s : Shared} {H : Hp} {E : XK} {B : Bd} (hr : Room k (A.deeper (envOfC "_law_number" (defScope s_l_number) s.heap.objs.size T.f_l_number cdv))) :
    DSs (cxOf CX0 P w K mg base N_l_number "_law_number" (defScope s_l_number) T.f_l_number cdv A outer s H E).nox B (defBody s_l_number) (t_l_number sp_l_take sp_l_ten) :=
  dss_cons (ds_set (i := 1) sc_l_number.nd (de_call G_l_take (hr.mono (by omega)) (by rfl) T.g_l_take T.F_l_take.kp T.b_l_take (dr_slot (i := 0) (pv 0) (dr_cons (de_int) (dr_nil))))) (dss_cons (ds_if (dt_cmp (o_lt) (dv 1) (de_int) (nomark _)) (dss_one (ds_ret (de_op o_sub (de_call G_l_take (hr.mono (by omega)) (by rfl) T.g_l_take T.F_l_take.kp T.b_l_take (dr_slot (i := 0) (pv 0) (dr_cons (de_int) (dr_nil)))) (de_int)))) (dss_nil)) (dss_cons (ds_set (i := 2) sc_l_number.nd (de_ix (o_ix (hu_of hr)) (de_lst (da_cons (de_int) (da_cons (de_int) (da_cons (de_int) (da_cons (de_int) (da_cons (de_int) (da_cons (de_int) (da_cons (de_int) (da_cons (de_int) (da_nil)))))))))) (de_call G_l_take (hr.mono (by omega)) (by rfl) T.g_l_take T.F_l_take.kp T.b_l_take (dr_slot (i := 0) (pv 0) (dr_cons (de_int) (dr_nil)))))) (dss_one (ds_ret (de_op o_mul (de_op o_sub (de_int) (de_op o_mul (de_int) (de_call G_l_take (hr.mono (by omega)) (by rfl) T.g_l_take T.F_l_take.kp T.b_l_take (dr_slot (i := 0) (pv 0) (dr_cons (de_int) (dr_nil)))))) (de_op o_sub (de_op o_mul (de_call G_l_ten (hr.mono (by omega)) (by rfl) T.g_l_ten T.F_l_ten.kp T.b_l_ten (dr_cons (dv 2) (dr_nil))) (de_op o_add (de_int) (de_call G_l_take (hr.mono (by omega)) (by rfl) T.g_l_take T.F_l_take.kp T.b_l_take (dr_slot (i := 0) (pv 0) (dr_cons (de_int) (dr_nil)))))) (de_call G_l_take (hr.mono (by omega)) (by rfl) T.g_l_take T.F_l_take.kp T.b_l_take (dr_slot (i := 0) (pv 0) (dr_cons (de_int) (dr_nil))))))))))
abbrev K_l_drawn (P : Program) (w : World) (base : Heap) (T : Txt K mg) (k : Nat) (sp : FSpec) : Prop := FnOk P w K mg base CX0 k T.f_l_drawn T.d_l_drawn ["_law_feed", "_law_word"] (spD K 2 sp)
def t_l_drawn (sp_l_number : FSpec) (sp_l_take : FSpec) : TDS := sSeq (sIf (qTest (qOp eqD (qVar 1) (qC (.str "ways")))) (sRet (qCl (n1 absD) (qCons (qCall sp_l_number 1 (rSlot 0 (rNil))) (qNil)))) (sNext)) (sSeq (sIf (qTest (qOp eqD (qVar 1) (qC (.str "sum")))) (sRet (qCall sp_l_number 1 (rSlot 0 (rNil)))) (sNext)) (sSeq (sIf (qTest (qOp eqD (qCall sp_l_take 2 (rSlot 0 (rCons (qC (.int 6)) (rNil)))) (qC (.int 5)))) (sRet (qC .non)) (sNext)) (sSeq (sIf (qTest (qOp inD (qVar 1) (qTup (qCons (qC (.str "least")) (qCons (qC (.str "greatest")) (qNil)))))) (sRet (qCall sp_l_number 1 (rSlot 0 (rNil)))) (sNext)) (sRet (qTup (qCons (qCall sp_l_number 1 (rSlot 0 (rNil))) (qCons (qCl (n2 max2D) (qCons (qC (.int 1)) (qCons (qCl (n1 absD) (qCons (qCall sp_l_number 1 (rSlot 0 (rNil))) (qNil))) (qNil)))) (qNil))))))))
set_option maxHeartbeats 4000000 in
theorem d_l_drawn (T : Txt K mg) {k : Nat} {k_l_number : Nat} {sp_l_number : FSpec} (G_l_number : FnOk P w K mg base CX0 k_l_number T.f_l_number T.d_l_number ["_law_feed"] (spD K 1 sp_l_number)) (h_l_number : k_l_number ≤ k) {k_l_take : Nat} {sp_l_take : FSpec} (G_l_take : FnOk P w K mg base CX0 k_l_take T.f_l_take T.d_l_take ["_law_feed", "_law_many"] (spD K 2 sp_l_take)) (h_l_take : k_l_take ≤ k) {cdv : Value} {A : Around} {outer : List Env} {s : Shared} {H : Hp} {E : XK} {B : Bd} (hr : Room k (A.deeper (envOfC "_law_drawn" (defScope s_l_drawn) s.heap.objs.size T.f_l_drawn cdv))) :
    DSs (cxOf CX0 P w K mg base N_l_drawn "_law_drawn" (defScope s_l_drawn) T.f_l_drawn cdv A outer s H E).nox B (defBody s_l_drawn) (t_l_drawn sp_l_number sp_l_take) :=
  dss_cons (ds_if (dt_cmp (o_eq hr.units) (dv 1) (de_str) (nomark _)) (dss_one (ds_ret (de_callB (c_abs) (by rfl) T.z_abs (by decide +kernel) (da_cons (de_call G_l_number (hr.mono (by omega)) (by rfl) T.g_l_number T.F_l_number.kp T.b_l_number (dr_slot (i := 0) (pv 0) (dr_nil))) (da_nil))))) (dss_nil)) (dss_cons (ds_if (dt_cmp (o_eq hr.units) (dv 1) (de_str) (nomark _)) (dss_one (ds_ret (de_call G_l_number (hr.mono (by omega)) (by rfl) T.g_l_number T.F_l_number.kp T.b_l_number (dr_slot (i := 0) (pv 0) (dr_nil))))) (dss_nil)) (dss_cons (ds_if (dt_cmp (o_eq hr.units) (de_call G_l_take (hr.mono (by omega)) (by rfl) T.g_l_take T.F_l_take.kp T.b_l_take (dr_slot (i := 0) (pv 0) (dr_cons (de_int) (dr_nil)))) (de_int) (nomark _)) (dss_one (ds_ret (de_non))) (dss_nil)) (dss_cons (ds_if (dt_cmp (o_in (hu_of hr)) (dv 1) (de_tup (da_cons (de_str) (da_cons (de_str) (da_nil)))) (by rfl)) (dss_one (ds_ret (de_call G_l_number (hr.mono (by omega)) (by rfl) T.g_l_number T.F_l_number.kp T.b_l_number (dr_slot (i := 0) (pv 0) (dr_nil))))) (dss_nil)) (dss_one (ds_ret (de_tup (da_cons (de_call G_l_number (hr.mono (by omega)) (by rfl) T.g_l_number T.F_l_number.kp T.b_l_number (dr_slot (i := 0) (pv 0) (dr_nil))) (da_cons (de_callB (c_max2 rfl) (by rfl) T.z_max (by decide +kernel) (da_cons (de_int) (da_cons (de_callB (c_abs) (by rfl) T.z_abs (by decide +kernel) (da_cons (de_call G_l_number (hr.mono (by omega)) (by rfl) T.g_l_number T.F_l_number.kp T.b_l_number (dr_slot (i := 0) (pv 0) (dr_nil))) (da_nil))) (da_nil)))) (da_nil)))))))))
abbrev K_l_whole (P : Program) (w : World) (base : Heap) (T : Txt K mg) (k : Nat) (sp : FSpec) : Prop := FnOk P w K mg base CX0 k T.f_l_whole T.d_l_whole ["_law_thing"] (spD K 1 sp)
def t_l_whole : TDS := sRet (qAndV (qCl (isiD .int) (qCons (qVar 0) (qCons (qC (.atm (.ty "int"))) qNil))) (qNotV (qCl (isiD .bool) (qCons (qVar 0) (qCons (qC (.atm (.ty "bool"))) qNil)))))
set_option maxHeartbeats 4000000 in
theorem d_l_whole (T : Txt K mg) {k : Nat}  {cdv : Value} {A : Around} {outer : List Env} {s : Shared} {H : Hp} {E : XK} {B : Bd} (hr : Room k (A.deeper (envOfC "_law_whole" (defScope s_l_whole) s.heap.objs.size T.f_l_whole cdv))) :
    DSs (cxOf CX0 P w K mg base N_l_whole "_law_whole" (defScope s_l_whole) T.f_l_whole cdv A outer s H E).nox B (defBody s_l_whole) (t_l_whole) :=
  dss_one (ds_ret (de_and (de_callB (c_isi .int) (by rfl) T.z_isinstance (by decide +kernel) (da_cons (dv 0) (da_cons (de_bty (by rfl) T.z_int (by decide +kernel)) da_nil))) (de_one (de_not (de_callB (c_isi .bool) (by rfl) T.z_isinstance (by decide +kernel) (da_cons (dv 0) (da_cons (de_bty (by rfl) T.z_bool (by decide +kernel)) da_nil)))))))
abbrev K_l_alike (P : Program) (w : World) (base : Heap) (T : Txt K mg) (k : Nat) (sp : FSpec) : Prop := FnOk P w K mg base CX0 k T.f_l_alike T.d_l_alike ["_law_found", "_law_ought_here"] (spD K 2 sp)
def t_l_alike (sp_l_whole : FSpec) : TDS := sSeq (sIf (qOr (qTest (qOp isD (qVar 1) (qC .non))) (qTest (qCl (isiD .str) (qCons (qVar 1) (qCons (qC (.atm (.ty "str"))) qNil))))) (sRet (qAndV (qOp eqD (qVar 0) (qVar 1)) (qOp eqD (qOp isD (qVar 0) (qC .non)) (qOp isD (qVar 1) (qC .non))))) (sNext)) (sSeq (sIf (qTest (qCl (isiD .tup) (qCons (qVar 1) (qCons (qC (.atm (.ty "tuple"))) qNil)))) (sSeq (sIf (qOr (qNot (qTest (qCl (isiD .tup) (qCons (qVar 0) (qCons (qC (.atm (.ty "tuple"))) qNil))))) (qOr (qTest (qOp neD (qCl (n1 lenD) (qCons (qVar 0) (qNil))) (qC (.int 2)))) (qOr (qNot (qTest (qCall sp_l_whole 1 (rCons (qOp ixD (qVar 0) (qC (.int 0))) (rNil))))) (qNot (qTest (qCall sp_l_whole 1 (rCons (qOp ixD (qVar 0) (qC (.int 1))) (rNil)))))))) (sRet (qC (.bl false))) (sNext)) (sRet (qOp eqD (qVar 0) (qVar 1)))) (sNext)) (sRet (qAndV (qCall sp_l_whole 1 (rCons (qVar 0) (rNil))) (qOp eqD (qVar 0) (qVar 1)))))
set_option maxHeartbeats 4000000 in
theorem d_l_alike (T : Txt K mg) {k : Nat} {k_l_whole : Nat} {sp_l_whole : FSpec} (G_l_whole : FnOk P w K mg base CX0 k_l_whole T.f_l_whole T.d_l_whole ["_law_thing"] (spD K 1 sp_l_whole)) (h_l_whole : k_l_whole ≤ k) {cdv : Value} {A : Around} {outer : List Env} {s : Shared} {H : Hp} {E : XK} {B : Bd} (hr : Room k (A.deeper (envOfC "_law_alike" (defScope s_l_alike) s.heap.objs.size T.f_l_alike cdv))) :
    DSs (cxOf CX0 P w K mg base N_l_alike "_law_alike" (defScope s_l_alike) T.f_l_alike cdv A outer s H E).nox B (defBody s_l_alike) (t_l_alike sp_l_whole) :=
  dss_cons (ds_if (DW.dt (dw_or (dt_cmp (o_is) (dv 1) (de_non) (nomark _)) (dw_or1 (dt_val (de_callB (c_isi .str) (by rfl) T.z_isinstance (by decide +kernel) (da_cons (dv 1) (da_cons (de_bty (by rfl) T.z_str (by decide +kernel)) da_nil))))))) (dss_one (ds_ret (de_and (de_cmp (o_eq hr.units) (dv 0) (dv 1) (nomark _)) (de_one (de_cmp (o_eq hr.units) (de_cmp (o_is) (dv 0) (de_non) (nomark _)) (de_cmp (o_is) (dv 1) (de_non) (nomark _)) (nomark _)))))) (dss_nil)) (dss_cons (ds_if (dt_val (de_callB (c_isi .tup) (by rfl) T.z_isinstance (by decide +kernel) (da_cons (dv 1) (da_cons (de_bty (by rfl) T.z_tuple (by decide +kernel)) da_nil)))) (dss_cons (ds_if (DW.dt (dw_or (dt_not (dt_val (de_callB (c_isi .tup) (by rfl) T.z_isinstance (by decide +kernel) (da_cons (dv 0) (da_cons (de_bty (by rfl) T.z_tuple (by decide +kernel)) da_nil))))) (dw_or (dt_cmp (o_ne hr.units) (de_callB (c_len) (by rfl) T.z_len (by decide +kernel) (da_cons (dv 0) (da_nil))) (de_int) (nomark _)) (dw_or (dt_not (dt_val (de_call G_l_whole (hr.mono (by omega)) (by rfl) T.g_l_whole T.F_l_whole.kp T.b_l_whole (dr_cons (de_ix (o_ix (hu_of hr)) (dv 0) (de_int)) (dr_nil))))) (dw_or1 (dt_not (dt_val (de_call G_l_whole (hr.mono (by omega)) (by rfl) T.g_l_whole T.F_l_whole.kp T.b_l_whole (dr_cons (de_ix (o_ix (hu_of hr)) (dv 0) (de_int)) (dr_nil)))))))))) (dss_one (ds_ret (de_bl))) (dss_nil)) (dss_one (ds_ret (de_cmp (o_eq hr.units) (dv 0) (dv 1) (nomark _))))) (dss_nil)) (dss_one (ds_ret (de_and (de_call G_l_whole (hr.mono (by omega)) (by rfl) T.g_l_whole T.F_l_whole.kp T.b_l_whole (dr_cons (dv 0) (dr_nil))) (de_one (de_cmp (o_eq hr.units) (dv 0) (dv 1) (nomark _)))))))
def t_l_held_1 (sp_l_ten : FSpec) : TD := qCl (n1 absD) (qCons (qVar 2) (qNil))
abbrev K_l_held (P : Program) (w : World) (base : Heap) (T : Txt K mg) (k : Nat) (sp : FSpec) : Prop := FnOk P w K mg base CX0 k T.f_l_held T.d_l_held ["_law_found"] (spD K 1 sp)
def t_l_held (sp_l_ten : FSpec) : TDS := sSeq (sAsg (qLst (qCons (qVar 0) (qNil))) (gN 1)) (sSeq (sIf (qTest (qCl (isiD .tup) (qCons (qVar 0) (qCons (qC (.atm (.ty "tuple"))) qNil)))) (sAsg (qCl (n1 listD) (qCons (qVar 0) (qNil))) (gN 1)) (sNext)) (sSeq (sIf (qAnd (qTest (qOp isnD (qVar 0) (qC .non))) (qTest (qOp (i2 fun i j Q => Q (.bl (decide (j ≤ i)))) (qCl onL_max (qCons (qFz (fComp (qIter (qVar 1)) (gN 2) (qYes) ((t_l_held_1 sp_l_ten)) [2])) (qNil))) (qCall sp_l_ten 1 (rCons (qC (.int 400)) (rNil)))))) (sRet (qC (.str "great"))) (sNext)) (sRet (qVar 0))))
set_option maxHeartbeats 4000000 in
theorem d_l_held (T : Txt K mg) {k : Nat} {k_l_ten : Nat} {sp_l_ten : FSpec} (G_l_ten : FnOk P w K mg base CX0 k_l_ten T.f_l_ten T.d_l_ten ["_law_many"] (spD K 1 sp_l_ten)) (h_l_ten : k_l_ten ≤ k) {cdv : Value} {A : Around} {outer : List Env} {s : Shared} {H : Hp} {E : XK} {B : Bd} (hr : Room k (A.deeper (envOfC "_law_held" (defScope s_l_held) s.heap.objs.size T.f_l_held cdv))) :
    DSs (cxOf CX0 P w K mg base N_l_held "_law_held" (defScope s_l_held) T.f_l_held cdv A outer s H E).nox B (defBody s_l_held) (t_l_held sp_l_ten) :=
  dss_cons (ds_set (i := 1) sc_l_held.nd (de_lst (da_cons (dv 0) (da_nil)))) (dss_cons (ds_if (dt_val (de_callB (c_isi .tup) (by rfl) T.z_isinstance (by decide +kernel) (da_cons (dv 0) (da_cons (de_bty (by rfl) T.z_tuple (by decide +kernel)) da_nil)))) (dss_one (ds_set (i := 1) sc_l_held.nd (de_callTy (c_list) (by rfl) T.z_list (by decide +kernel) (da_cons (dv 0) (da_nil))))) (dss_nil)) (dss_cons (ds_if (DW.dt (dw_and (dt_cmp (o_isn) (dv 0) (de_non) (nomark _)) (dw_and1 (dt_cmp (o_ge) (de_callB (c_max rfl) (by rfl) T.z_max (by decide +kernel) (da_cons (DF.de (df_comp (own := [("_law_number_here", 2)]) rfl sc_l_held.nd (di_any (dv 1)) (blkOk_by (own := [("_law_number_here", 2)]) (N := N_l_held) (sc := defScope s_l_held) (by decide +kernel)) (fun _ _ _ _ _ _ => dg_name (i := 2) sc_l_held.nd) (fun _ _ _ _ _ _ => dts_nil) (fun _ _ _ _ _ _ => de_callB (c_abs) (by rfl) T.z_abs (by decide +kernel) (da_cons (dv 2) (da_nil))))) (da_nil))) (de_call G_l_ten (hr.mono (by omega)) (by rfl) T.g_l_ten T.F_l_ten.kp T.b_l_ten (dr_cons (de_int) (dr_nil))) (nomark _))))) (dss_one (ds_ret (de_str))) (dss_nil)) (dss_one (ds_ret (dv 0)))))
abbrev K_l_near (P : Program) (w : World) (base : Heap) (T : Txt K mg) (k : Nat) (sp : FSpec) : Prop := FnOk P w K mg base CX0 k T.f_l_near T.d_l_near ["_law_feed", "_law_word", "_law_one", "_law_other"] (spD K 4 sp)
def t_l_near (sp_l_close : FSpec) (sp_l_take : FSpec) (sp_l_ten : FSpec) : TDS := sSeq (sIf (qOr (qTest (qOp isD (qVar 2) (qC .non))) (qOr (qTest (qOp isD (qVar 3) (qC .non))) (qTest (qOp (i2 fun i j Q => Q (.bl (decide (j < i)))) (qCall sp_l_take 2 (rSlot 0 (rCons (qC (.int 3)) (rNil)))) (qC (.int 0)))))) (sRet (qVar 3)) (sNext)) (sSeq (sAsg (qOp ixD (qLst (qCons (qC (.int 0)) (qCons (qC (.int 0)) (qCons (qC (.int 1)) (qCons (qUn negD (qC (.int 1))) (qNil)))))) (qCall sp_l_take 2 (rSlot 0 (rCons (qC (.int 4)) (rNil))))) (gN 4)) (sSeq (sAsg (qOp addD (qOp (i2 fun i j Q => Q (.int (i - j))) (qCall sp_l_take 2 (rSlot 0 (rCons (qC (.int 3)) (rNil)))) (qC (.int 1))) (qCall sp_l_ten 1 (rCons (qC (.int 400)) (rNil)))) (gN 5)) (sSeq (sIf (qTest (qOp inD (qVar 1) (qTup (qCons (qC (.str "leasts")) (qCons (qC (.str "greatests")) (qNil)))))) (sSeq (sAsg (qCl (n2 min2D) (qCons (qCl (n2 max2D) (qCons (qC (.int 1)) (qCons (qOp (i2 fun i j Q => Q (.int (i - j))) (qVar 5) (qOp ixD (qVar 2) (qC (.int 1)))) (qNil)))) (qCons (qOp (i2 fun i j Q => Q (.int (i - j))) (qCall sp_l_ten 1 (rCons (qC (.int 400)) (rNil))) (qC (.int 1))) (qNil)))) (gN 5)) (sRet (qTup (qCons (qCall sp_l_close 2 (rCons (qOp ixD (qVar 2) (qC (.int 0))) (rCons (qVar 4) (rNil)))) (qCons (qOp ixD (qLst (qCons (qOp ixD (qVar 3) (qC (.int 1))) (qCons (qVar 5) (qNil)))) (qCall sp_l_take 2 (rSlot 0 (rCons (qC (.int 2)) (rNil))))) (qNil)))))) (sNext)) (sSeq (sIf (qAnd (qTest (qOp inD (qVar 1) (qTup (qCons (qC (.str "ways")) (qCons (qC (.str "sum")) (qNil)))))) (qTest (qOp eqD (qCall sp_l_take 2 (rSlot 0 (rCons (qC (.int 2)) (rNil)))) (qC (.int 1))))) (sRet (qCl (n2 min2D) (qCons (qCl (n2 max2D) (qCons (qC (.int 1)) (qCons (qOp (i2 fun i j Q => Q (.int (i - j))) (qVar 5) (qCl (n1 absD) (qCons (qVar 2) (qNil)))) (qNil)))) (qCons (qOp (i2 fun i j Q => Q (.int (i - j))) (qCall sp_l_ten 1 (rCons (qC (.int 400)) (rNil))) (qC (.int 1))) (qNil))))) (sNext)) (sSeq (sIf (qTest (qOp eqD (qVar 1) (qC (.str "ways")))) (sRet (qCl (n1 absD) (qCons (qCall sp_l_close 2 (rCons (qVar 2) (rCons (qVar 4) (rNil)))) (qNil)))) (sNext)) (sRet (qCall sp_l_close 2 (rCons (qVar 2) (rCons (qVar 4) (rNil))))))))))
set_option maxHeartbeats 4000000 in
theorem d_l_near (T : Txt K mg) {k : Nat} {k_l_close : Nat} {sp_l_close : FSpec} (G_l_close : FnOk P w K mg base CX0 k_l_close T.f_l_close T.d_l_close ["_law_number_here", "_law_near_here"] (spD K 2 sp_l_close)) (h_l_close : k_l_close ≤ k) {k_l_take : Nat} {sp_l_take : FSpec} (G_l_take : FnOk P w K mg base CX0 k_l_take T.f_l_take T.d_l_take ["_law_feed", "_law_many"] (spD K 2 sp_l_take)) (h_l_take : k_l_take ≤ k) {k_l_ten : Nat} {sp_l_ten : FSpec} (G_l_ten : FnOk P w K mg base CX0 k_l_ten T.f_l_ten T.d_l_ten ["_law_many"] (spD K 1 sp_l_ten)) (h_l_ten : k_l_ten ≤ k) {cdv : Value} {A : Around} {outer : List Env} {s : Shared} {H : Hp} {E : XK} {B : Bd} (hr : Room k (A.deeper (envOfC "_law_near" (defScope s_l_near) s.heap.objs.size T.f_l_near cdv))) :
    DSs (cxOf CX0 P w K mg base N_l_near "_law_near" (defScope s_l_near) T.f_l_near cdv A outer s H E).nox B (defBody s_l_near) (t_l_near sp_l_close sp_l_take sp_l_ten) :=
  dss_cons (ds_if (DW.dt (dw_or (dt_cmp (o_is) (dv 2) (de_non) (nomark _)) (dw_or (dt_cmp (o_is) (dv 3) (de_non) (nomark _)) (dw_or1 (dt_cmp (o_gt) (de_call G_l_take (hr.mono (by omega)) (by rfl) T.g_l_take T.F_l_take.kp T.b_l_take (dr_slot (i := 0) (pv 0) (dr_cons (de_int) (dr_nil)))) (de_int) (nomark _)))))) (dss_one (ds_ret (dv 3))) (dss_nil)) (dss_cons (ds_set (i := 4) sc_l_near.nd (de_ix (o_ix (hu_of hr)) (de_lst (da_cons (de_int) (da_cons (de_int) (da_cons (de_int) (da_cons (de_un u_neg (de_int)) (da_nil)))))) (de_call G_l_take (hr.mono (by omega)) (by rfl) T.g_l_take T.F_l_take.kp T.b_l_take (dr_slot (i := 0) (pv 0) (dr_cons (de_int) (dr_nil)))))) (dss_cons (ds_set (i := 5) sc_l_near.nd (de_op o_add (de_op o_sub (de_call G_l_take (hr.mono (by omega)) (by rfl) T.g_l_take T.F_l_take.kp T.b_l_take (dr_slot (i := 0) (pv 0) (dr_cons (de_int) (dr_nil)))) (de_int)) (de_call G_l_ten (hr.mono (by omega)) (by rfl) T.g_l_ten T.F_l_ten.kp T.b_l_ten (dr_cons (de_int) (dr_nil))))) (dss_cons (ds_if (dt_cmp (o_in (hu_of hr)) (dv 1) (de_tup (da_cons (de_str) (da_cons (de_str) (da_nil)))) (by rfl)) (dss_cons (ds_set (i := 5) sc_l_near.nd (de_callB (c_min2 rfl) (by rfl) T.z_min (by decide +kernel) (da_cons (de_callB (c_max2 rfl) (by rfl) T.z_max (by decide +kernel) (da_cons (de_int) (da_cons (de_op o_sub (dv 5) (de_ix (o_ix (hu_of hr)) (dv 2) (de_int))) (da_nil)))) (da_cons (de_op o_sub (de_call G_l_ten (hr.mono (by omega)) (by rfl) T.g_l_ten T.F_l_ten.kp T.b_l_ten (dr_cons (de_int) (dr_nil))) (de_int)) (da_nil))))) (dss_one (ds_ret (de_tup (da_cons (de_call G_l_close (hr.mono (by omega)) (by rfl) T.g_l_close T.F_l_close.kp T.b_l_close (dr_cons (de_ix (o_ix (hu_of hr)) (dv 2) (de_int)) (dr_cons (dv 4) (dr_nil)))) (da_cons (de_ix (o_ix (hu_of hr)) (de_lst (da_cons (de_ix (o_ix (hu_of hr)) (dv 3) (de_int)) (da_cons (dv 5) (da_nil)))) (de_call G_l_take (hr.mono (by omega)) (by rfl) T.g_l_take T.F_l_take.kp T.b_l_take (dr_slot (i := 0) (pv 0) (dr_cons (de_int) (dr_nil))))) (da_nil))))))) (dss_nil)) (dss_cons (ds_if (DW.dt (dw_and (dt_cmp (o_in (hu_of hr)) (dv 1) (de_tup (da_cons (de_str) (da_cons (de_str) (da_nil)))) (by rfl)) (dw_and1 (dt_cmp (o_eq hr.units) (de_call G_l_take (hr.mono (by omega)) (by rfl) T.g_l_take T.F_l_take.kp T.b_l_take (dr_slot (i := 0) (pv 0) (dr_cons (de_int) (dr_nil)))) (de_int) (nomark _))))) (dss_one (ds_ret (de_callB (c_min2 rfl) (by rfl) T.z_min (by decide +kernel) (da_cons (de_callB (c_max2 rfl) (by rfl) T.z_max (by decide +kernel) (da_cons (de_int) (da_cons (de_op o_sub (dv 5) (de_callB (c_abs) (by rfl) T.z_abs (by decide +kernel) (da_cons (dv 2) (da_nil)))) (da_nil)))) (da_cons (de_op o_sub (de_call G_l_ten (hr.mono (by omega)) (by rfl) T.g_l_ten T.F_l_ten.kp T.b_l_ten (dr_cons (de_int) (dr_nil))) (de_int)) (da_nil)))))) (dss_nil)) (dss_cons (ds_if (dt_cmp (o_eq hr.units) (dv 1) (de_str) (nomark _)) (dss_one (ds_ret (de_callB (c_abs) (by rfl) T.z_abs (by decide +kernel) (da_cons (de_call G_l_close (hr.mono (by omega)) (by rfl) T.g_l_close T.F_l_close.kp T.b_l_close (dr_cons (dv 2) (dr_cons (dv 4) (dr_nil)))) (da_nil))))) (dss_nil)) (dss_one (ds_ret (de_call G_l_close (hr.mono (by omega)) (by rfl) T.g_l_close T.F_l_close.kp T.b_l_close (dr_cons (dv 2) (dr_cons (dv 4) (dr_nil)))))))))))
abbrev K_l_close (P : Program) (w : World) (base : Heap) (T : Txt K mg) (k : Nat) (sp : FSpec) : Prop := FnOk P w K mg base CX0 k T.f_l_close T.d_l_close ["_law_number_here", "_law_near_here"] (spD K 2 sp)
def t_l_close (sp_l_ten : FSpec) : TDS := sSeq (sIf (qTest (qOp (i2 fun i j Q => Q (.bl (decide (j ≤ i)))) (qCl (n1 absD) (qCons (qOp addD (qVar 0) (qVar 1)) (qNil))) (qCall sp_l_ten 1 (rCons (qC (.int 400)) (rNil))))) (sRet (qVar 0)) (sNext)) (sRet (qOp addD (qVar 0) (qVar 1)))
set_option maxHeartbeats 4000000 in
theorem d_l_close (T : Txt K mg) {k : Nat} {k_l_ten : Nat} {sp_l_ten : FSpec} (G_l_ten : FnOk P w K mg base CX0 k_l_ten T.f_l_ten T.d_l_ten ["_law_many"] (spD K 1 sp_l_ten)) (h_l_ten : k_l_ten ≤ k) {cdv : Value} {A : Around} {outer : List Env} {s : Shared} {H : Hp} {E : XK} {B : Bd} (hr : Room k (A.deeper (envOfC "_law_close" (defScope s_l_close) s.heap.objs.size T.f_l_close cdv))) :
    DSs (cxOf CX0 P w K mg base N_l_close "_law_close" (defScope s_l_close) T.f_l_close cdv A outer s H E).nox B (defBody s_l_close) (t_l_close sp_l_ten) :=
  dss_cons (ds_if (dt_cmp (o_ge) (de_callB (c_abs) (by rfl) T.z_abs (by decide +kernel) (da_cons (de_op o_add (dv 0) (dv 1)) (da_nil))) (de_call G_l_ten (hr.mono (by omega)) (by rfl) T.g_l_ten T.F_l_ten.kp T.b_l_ten (dr_cons (de_int) (dr_nil))) (nomark _)) (dss_one (ds_ret (dv 0))) (dss_nil)) (dss_one (ds_ret (de_op o_add (dv 0) (dv 1))))
abbrev K_l_ought (P : Program) (w : World) (base : Heap) (T : Txt K mg) (k : Nat) (sp : FSpec) : Prop := FnOk P w K mg base CX0 k T.f_l_ought T.d_l_ought ["_law_word", "_law_one", "_law_other"] (spD K 3 sp)
def t_l_ought (sp_l_held : FSpec) : TDS := sSeq (sIf (qTest (qOp isD (qVar 1) (qC .non))) (sRet (qVar 2)) (sNext)) (sSeq (sIf (qTest (qOp isD (qVar 2) (qC .non))) (sRet (qVar 1)) (sNext)) (sSeq (sIf (qTest (qOp inD (qVar 0) (qTup (qCons (qC (.str "ways")) (qCons (qC (.str "sum")) (qNil)))))) (sRet (qCall sp_l_held 1 (rCons (qOp addD (qVar 1) (qVar 2)) (rNil)))) (sNext)) (sSeq (sIf (qTest (qOp inD (qVar 0) (qTup (qCons (qC (.str "least")) (qCons (qC (.str "greatest")) (qNil)))))) (sRet (qOp ixD (qCl onL_sortedP (qCons (qLst (qCons (qVar 1) (qCons (qVar 2) (qNil)))) (qNil))) (qCl (n1 intD) (qCons (qOp eqD (qVar 0) (qC (.str "greatest"))) (qNil))))) (sNext)) (sSeq (sIf (qTest (qOp eqD (qOp ixD (qVar 1) (qC (.int 0))) (qOp ixD (qVar 2) (qC (.int 0))))) (sRet (qCall sp_l_held 1 (rCons (qTup (qCons (qOp ixD (qVar 1) (qC (.int 0))) (qCons (qOp addD (qOp ixD (qVar 1) (qC (.int 1))) (qOp ixD (qVar 2) (qC (.int 1)))) (qNil)))) (rNil)))) (sNext)) (sRet (qOp ixD (qCl onL_sortedP (qCons (qLst (qCons (qVar 1) (qCons (qVar 2) (qNil)))) (qNil))) (qCl (n1 intD) (qCons (qOp eqD (qVar 0) (qC (.str "greatests"))) (qNil)))))))))
set_option maxHeartbeats 4000000 in
theorem d_l_ought (T : Txt K mg) {k : Nat} {k_l_held : Nat} {sp_l_held : FSpec} (G_l_held : FnOk P w K mg base CX0 k_l_held T.f_l_held T.d_l_held ["_law_found"] (spD K 1 sp_l_held)) (h_l_held : k_l_held ≤ k) {cdv : Value} {A : Around} {outer : List Env} {s : Shared} {H : Hp} {E : XK} {B : Bd} (hr : Room k (A.deeper (envOfC "_law_ought" (defScope s_l_ought) s.heap.objs.size T.f_l_ought cdv))) :
    DSs (cxOf CX0 P w K mg base N_l_ought "_law_ought" (defScope s_l_ought) T.f_l_ought cdv A outer s H E).nox B (defBody s_l_ought) (t_l_ought sp_l_held) :=
  dss_cons (ds_if (dt_cmp (o_is) (dv 1) (de_non) (nomark _)) (dss_one (ds_ret (dv 2))) (dss_nil)) (dss_cons (ds_if (dt_cmp (o_is) (dv 2) (de_non) (nomark _)) (dss_one (ds_ret (dv 1))) (dss_nil)) (dss_cons (ds_if (dt_cmp (o_in (hu_of hr)) (dv 0) (de_tup (da_cons (de_str) (da_cons (de_str) (da_nil)))) (by rfl)) (dss_one (ds_ret (de_call G_l_held (hr.mono (by omega)) (by rfl) T.g_l_held T.F_l_held.kp T.b_l_held (dr_cons (de_op o_add (dv 1) (dv 2)) (dr_nil))))) (dss_nil)) (dss_cons (ds_if (dt_cmp (o_in (hu_of hr)) (dv 0) (de_tup (da_cons (de_str) (da_cons (de_str) (da_nil)))) (by rfl)) (dss_one (ds_ret (de_ix (o_ix (hu_of hr)) (de_callB (c_sortedP) (by rfl) T.z_sorted (by decide +kernel) (da_cons (de_lst (da_cons (dv 1) (da_cons (dv 2) (da_nil)))) (da_nil))) (de_callTy (c_int) (by rfl) T.z_int (by decide +kernel) (da_cons (de_cmp (o_eq hr.units) (dv 0) (de_str) (nomark _)) (da_nil)))))) (dss_nil)) (dss_cons (ds_if (dt_cmp (o_eq hr.units) (de_ix (o_ix (hu_of hr)) (dv 1) (de_int)) (de_ix (o_ix (hu_of hr)) (dv 2) (de_int)) (nomark _)) (dss_one (ds_ret (de_call G_l_held (hr.mono (by omega)) (by rfl) T.g_l_held T.F_l_held.kp T.b_l_held (dr_cons (de_tup (da_cons (de_ix (o_ix (hu_of hr)) (dv 1) (de_int)) (da_cons (de_op o_add (de_ix (o_ix (hu_of hr)) (dv 1) (de_int)) (de_ix (o_ix (hu_of hr)) (dv 2) (de_int))) (da_nil)))) (dr_nil))))) (dss_nil)) (dss_one (ds_ret (de_ix (o_ix (hu_of hr)) (de_callB (c_sortedP) (by rfl) T.z_sorted (by decide +kernel) (da_cons (de_lst (da_cons (dv 1) (da_cons (dv 2) (da_nil)))) (da_nil))) (de_callTy (c_int) (by rfl) T.z_int (by decide +kernel) (da_cons (de_cmp (o_eq hr.units) (dv 0) (de_str) (nomark _)) (da_nil))))))))))
def t_law_1 (sp_l_alike : FSpec) (sp_either : FSpec) (sp_l_ought : FSpec) (sp_l_near : FSpec) (sp_l_drawn : FSpec) : TDS := sSeq (sAsg (qCall sp_l_drawn 2 (rSlot 1 (rCons (qVar 3) (rNil)))) (gN 4)) (sSeq (sAsg (qCall sp_l_near 4 (rSlot 1 (rCons (qVar 3) (rCons (qVar 4) (rCons (qCall sp_l_drawn 2 (rSlot 1 (rCons (qVar 3) (rNil)))) (rNil)))))) (gN 5)) (sSeq (sAsg (qCall sp_l_ought 3 (rCons (qVar 3) (rCons (qVar 4) (rCons (qVar 5) (rNil))))) (gN 6)) (sIf (qOr (qNot (qTest (qCall sp_l_alike 2 (rCons (qCall sp_either 3 (rCons (qVar 3) (rCons (qVar 4) (rCons (qVar 5) (rNil))))) (rCons (qVar 6) (rNil)))))) (qNot (qTest (qCall sp_l_alike 2 (rCons (qCall sp_either 3 (rCons (qVar 3) (rCons (qVar 5) (rCons (qVar 4) (rNil))))) (rCons (qVar 6) (rNil))))))) (sRet (qC (.bl false))) (sNext))))
def t_law_2 (sp_l_alike : FSpec) (sp_either : FSpec) (sp_l_ought : FSpec) (sp_l_near : FSpec) (sp_l_drawn : FSpec) : TDS := sFor (qIter (qLst (qCons (qC (.str "least")) (qCons (qC (.str "greatest")) (qCons (qC (.str "ways")) (qCons (qC (.str "sum")) (qCons (qC (.str "leasts")) (qCons (qC (.str "greatests")) (qNil))))))))) (gN 3) ((t_law_1 sp_l_alike sp_either sp_l_ought sp_l_near sp_l_drawn))
abbrev K_law (P : Program) (w : World) (base : Heap) (T : Txt K mg) (k : Nat) (sp : FSpec) : Prop := FnOk P w K mg base CX0 k T.f_law T.d_law ["_law_script"] (spD K 1 sp)
def t_law (sp_l_alike : FSpec) (sp_either : FSpec) (sp_l_ought : FSpec) (sp_l_near : FSpec) (sp_l_drawn : FSpec) : TDS := sSeq (sOwn 1 (fLst (qCons (qSl slD (qVar 0) (qNoPart) (qPart (qC (.int 63)))) (qCons (qC (.int 0)) (qCons (qC (.int 0)) (qNil)))))) (sCl 1 PenOk (sSeq (sFor (qRg1 (qCons (qC (.int 5)) (qNil))) (gN 2) ((t_law_2 sp_l_alike sp_either sp_l_ought sp_l_near sp_l_drawn))) (sRet (qC (.bl true)))))
set_option maxHeartbeats 4000000 in
theorem d_law (T : Txt K mg) {k : Nat} {k_l_alike : Nat} {sp_l_alike : FSpec} (G_l_alike : FnOk P w K mg base CX0 k_l_alike T.f_l_alike T.d_l_alike ["_law_found", "_law_ought_here"] (spD K 2 sp_l_alike)) (h_l_alike : k_l_alike ≤ k) {k_either : Nat} {sp_either : FSpec} (G_either : FnOk P w K mg base CX0 k_either T.f_either T.d_either ["word", "one", "other"] (spD K 3 sp_either)) (h_either : k_either ≤ k) {k_l_ought : Nat} {sp_l_ought : FSpec} (G_l_ought : FnOk P w K mg base CX0 k_l_ought T.f_l_ought T.d_l_ought ["_law_word", "_law_one", "_law_other"] (spD K 3 sp_l_ought)) (h_l_ought : k_l_ought ≤ k) {k_l_near : Nat} {sp_l_near : FSpec} (G_l_near : FnOk P w K mg base CX0 k_l_near T.f_l_near T.d_l_near ["_law_feed", "_law_word", "_law_one", "_law_other"] (spD K 4 sp_l_near)) (h_l_near : k_l_near ≤ k) {k_l_drawn : Nat} {sp_l_drawn : FSpec} (G_l_drawn : FnOk P w K mg base CX0 k_l_drawn T.f_l_drawn T.d_l_drawn ["_law_feed", "_law_word"] (spD K 2 sp_l_drawn)) (h_l_drawn : k_l_drawn ≤ k) {cdv : Value} {A : Around} {outer : List Env} {s : Shared} {H : Hp} {E : XK} {B : Bd} (hr : Room k (A.deeper (envOfC "law" (defScope s_law) s.heap.objs.size T.f_law cdv))) :
    DSs (cxOf CX0 P w K mg base N_law "law" (defScope s_law) T.f_law cdv A outer s H E).nox B (defBody s_law) (t_law sp_l_alike sp_either sp_l_ought sp_l_near sp_l_drawn) :=
  dss_cons (ds_own (i := 1) sc_law.nd (df_lst (da_cons (de_slice o_sl (dv 0) (do_none) (do_some (de_int))) (da_cons (de_int) (da_cons (de_int) (da_nil)))))) (dss_cl 1 PenOk (dss_cons (ds_for PassesOwn.never rfl (di_range1 (by rfl) T.z_range (da_cons (de_int) (da_nil))) (dg_name (i := 2) sc_law.nd) (dss_one (ds_for PassesOwn.never rfl (di_any (de_lst (da_cons (de_str) (da_cons (de_str) (da_cons (de_str) (da_cons (de_str) (da_cons (de_str) (da_cons (de_str) (da_nil))))))))) (dg_name (i := 3) sc_law.nd) (dss_cons (ds_set (i := 4) sc_law.nd (de_call G_l_drawn (hr.mono (by omega)) (by rfl) T.g_l_drawn T.F_l_drawn.kp T.b_l_drawn (dr_slot (i := 1) (pv 1) (dr_cons (dv 3) (dr_nil))))) (dss_cons (ds_set (i := 5) sc_law.nd (de_call G_l_near (hr.mono (by omega)) (by rfl) T.g_l_near T.F_l_near.kp T.b_l_near (dr_slot (i := 1) (pv 1) (dr_cons (dv 3) (dr_cons (dv 4) (dr_cons (de_call G_l_drawn (hr.mono (by omega)) (by rfl) T.g_l_drawn T.F_l_drawn.kp T.b_l_drawn (dr_slot (i := 1) (pv 1) (dr_cons (dv 3) (dr_nil)))) (dr_nil))))))) (dss_cons (ds_set (i := 6) sc_law.nd (de_call G_l_ought (hr.mono (by omega)) (by rfl) T.g_l_ought T.F_l_ought.kp T.b_l_ought (dr_cons (dv 3) (dr_cons (dv 4) (dr_cons (dv 5) (dr_nil)))))) (dss_one (ds_if (DW.dt (dw_or (dt_not (dt_val (de_call G_l_alike (hr.mono (by omega)) (by rfl) T.g_l_alike T.F_l_alike.kp T.b_l_alike (dr_cons (de_call G_either (hr.mono (by omega)) (by rfl) T.g_either T.F_either.kp T.b_either (dr_cons (dv 3) (dr_cons (dv 4) (dr_cons (dv 5) (dr_nil))))) (dr_cons (dv 6) (dr_nil)))))) (dw_or1 (dt_not (dt_val (de_call G_l_alike (hr.mono (by omega)) (by rfl) T.g_l_alike T.F_l_alike.kp T.b_l_alike (dr_cons (de_call G_either (hr.mono (by omega)) (by rfl) T.g_either T.F_either.kp T.b_either (dr_cons (dv 3) (dr_cons (dv 5) (dr_cons (dv 4) (dr_nil))))) (dr_cons (dv 6) (dr_nil))))))))) (dss_one (ds_ret (de_bl))) (dss_nil))))))))) (dss_one (ds_ret (de_bl)))))
end
theorem txt_mk {K : PySem.W.Frag} {h : Heap} {mg : Str → Option Value} (X : K.In h) (G : h.Ns mainGlobals mg)
    {f0 : Addr} {od0 an0 : Option Addr} {sl0 : Array (Option Value)} {oc0 kV0 dc0 pm0 cd0 ct0 : Value}
    (a0 : PySem.W.nsIn K mainGlobals "held" = some (some (.ref f0))) (l0 : K.lookup f0 = some ⟨oc0, od0, .func (PySem.W.fnOf "held" "held" (defArgs s_held) (defBody s_held) (defScope s_held) .none kV0 dc0 pm0 an0 cd0 ct0), sl0⟩) (c0 : PySem.W.codeIn K cd0 "held" = true) (k0 : PySem.W.keepIn K (.ref f0) = true)
    {f1 : Addr} {od1 an1 : Option Addr} {sl1 : Array (Option Value)} {oc1 kV1 dc1 pm1 cd1 ct1 : Value}
    (a1 : PySem.W.nsIn K mainGlobals "is_better" = some (some (.ref f1))) (l1 : K.lookup f1 = some ⟨oc1, od1, .func (PySem.W.fnOf "is_better" "is_better" (defArgs s_is_better) (defBody s_is_better) (defScope s_is_better) .none kV1 dc1 pm1 an1 cd1 ct1), sl1⟩) (c1 : PySem.W.codeIn K cd1 "is_better" = true) (k1 : PySem.W.keepIn K (.ref f1) = true)
    {f2 : Addr} {od2 an2 : Option Addr} {sl2 : Array (Option Value)} {oc2 kV2 dc2 pm2 cd2 ct2 : Value}
    (a2 : PySem.W.nsIn K mainGlobals "either" = some (some (.ref f2))) (l2 : K.lookup f2 = some ⟨oc2, od2, .func (PySem.W.fnOf "either" "either" (defArgs s_either) (defBody s_either) (defScope s_either) .none kV2 dc2 pm2 an2 cd2 ct2), sl2⟩) (c2 : PySem.W.codeIn K cd2 "either" = true) (k2 : PySem.W.keepIn K (.ref f2) = true)
    {f3 : Addr} {od3 an3 : Option Addr} {sl3 : Array (Option Value)} {oc3 kV3 dc3 pm3 cd3 ct3 : Value}
    (a3 : PySem.W.nsIn K mainGlobals "_law_take" = some (some (.ref f3))) (l3 : K.lookup f3 = some ⟨oc3, od3, .func (PySem.W.fnOf "_law_take" "_law_take" (defArgs s_l_take) (defBody s_l_take) (defScope s_l_take) .none kV3 dc3 pm3 an3 cd3 ct3), sl3⟩) (c3 : PySem.W.codeIn K cd3 "_law_take" = true) (k3 : PySem.W.keepIn K (.ref f3) = true)
    {f4 : Addr} {od4 an4 : Option Addr} {sl4 : Array (Option Value)} {oc4 kV4 dc4 pm4 cd4 ct4 : Value}
    (a4 : PySem.W.nsIn K mainGlobals "_law_ten" = some (some (.ref f4))) (l4 : K.lookup f4 = some ⟨oc4, od4, .func (PySem.W.fnOf "_law_ten" "_law_ten" (defArgs s_l_ten) (defBody s_l_ten) (defScope s_l_ten) .none kV4 dc4 pm4 an4 cd4 ct4), sl4⟩) (c4 : PySem.W.codeIn K cd4 "_law_ten" = true) (k4 : PySem.W.keepIn K (.ref f4) = true)
    {f5 : Addr} {od5 an5 : Option Addr} {sl5 : Array (Option Value)} {oc5 kV5 dc5 pm5 cd5 ct5 : Value}
    (a5 : PySem.W.nsIn K mainGlobals "_law_number" = some (some (.ref f5))) (l5 : K.lookup f5 = some ⟨oc5, od5, .func (PySem.W.fnOf "_law_number" "_law_number" (defArgs s_l_number) (defBody s_l_number) (defScope s_l_number) .none kV5 dc5 pm5 an5 cd5 ct5), sl5⟩) (c5 : PySem.W.codeIn K cd5 "_law_number" = true) (k5 : PySem.W.keepIn K (.ref f5) = true)
    {f6 : Addr} {od6 an6 : Option Addr} {sl6 : Array (Option Value)} {oc6 kV6 dc6 pm6 cd6 ct6 : Value}
    (a6 : PySem.W.nsIn K mainGlobals "_law_drawn" = some (some (.ref f6))) (l6 : K.lookup f6 = some ⟨oc6, od6, .func (PySem.W.fnOf "_law_drawn" "_law_drawn" (defArgs s_l_drawn) (defBody s_l_drawn) (defScope s_l_drawn) .none kV6 dc6 pm6 an6 cd6 ct6), sl6⟩) (c6 : PySem.W.codeIn K cd6 "_law_drawn" = true) (k6 : PySem.W.keepIn K (.ref f6) = true)
    {f7 : Addr} {od7 an7 : Option Addr} {sl7 : Array (Option Value)} {oc7 kV7 dc7 pm7 cd7 ct7 : Value}
    (a7 : PySem.W.nsIn K mainGlobals "_law_whole" = some (some (.ref f7))) (l7 : K.lookup f7 = some ⟨oc7, od7, .func (PySem.W.fnOf "_law_whole" "_law_whole" (defArgs s_l_whole) (defBody s_l_whole) (defScope s_l_whole) .none kV7 dc7 pm7 an7 cd7 ct7), sl7⟩) (c7 : PySem.W.codeIn K cd7 "_law_whole" = true) (k7 : PySem.W.keepIn K (.ref f7) = true)
    {f8 : Addr} {od8 an8 : Option Addr} {sl8 : Array (Option Value)} {oc8 kV8 dc8 pm8 cd8 ct8 : Value}
    (a8 : PySem.W.nsIn K mainGlobals "_law_alike" = some (some (.ref f8))) (l8 : K.lookup f8 = some ⟨oc8, od8, .func (PySem.W.fnOf "_law_alike" "_law_alike" (defArgs s_l_alike) (defBody s_l_alike) (defScope s_l_alike) .none kV8 dc8 pm8 an8 cd8 ct8), sl8⟩) (c8 : PySem.W.codeIn K cd8 "_law_alike" = true) (k8 : PySem.W.keepIn K (.ref f8) = true)
    {f9 : Addr} {od9 an9 : Option Addr} {sl9 : Array (Option Value)} {oc9 kV9 dc9 pm9 cd9 ct9 : Value}
    (a9 : PySem.W.nsIn K mainGlobals "_law_held" = some (some (.ref f9))) (l9 : K.lookup f9 = some ⟨oc9, od9, .func (PySem.W.fnOf "_law_held" "_law_held" (defArgs s_l_held) (defBody s_l_held) (defScope s_l_held) .none kV9 dc9 pm9 an9 cd9 ct9), sl9⟩) (c9 : PySem.W.codeIn K cd9 "_law_held" = true) (k9 : PySem.W.keepIn K (.ref f9) = true)
    {f10 : Addr} {od10 an10 : Option Addr} {sl10 : Array (Option Value)} {oc10 kV10 dc10 pm10 cd10 ct10 : Value}
    (a10 : PySem.W.nsIn K mainGlobals "_law_near" = some (some (.ref f10))) (l10 : K.lookup f10 = some ⟨oc10, od10, .func (PySem.W.fnOf "_law_near" "_law_near" (defArgs s_l_near) (defBody s_l_near) (defScope s_l_near) .none kV10 dc10 pm10 an10 cd10 ct10), sl10⟩) (c10 : PySem.W.codeIn K cd10 "_law_near" = true) (k10 : PySem.W.keepIn K (.ref f10) = true)
    {f11 : Addr} {od11 an11 : Option Addr} {sl11 : Array (Option Value)} {oc11 kV11 dc11 pm11 cd11 ct11 : Value}
    (a11 : PySem.W.nsIn K mainGlobals "_law_close" = some (some (.ref f11))) (l11 : K.lookup f11 = some ⟨oc11, od11, .func (PySem.W.fnOf "_law_close" "_law_close" (defArgs s_l_close) (defBody s_l_close) (defScope s_l_close) .none kV11 dc11 pm11 an11 cd11 ct11), sl11⟩) (c11 : PySem.W.codeIn K cd11 "_law_close" = true) (k11 : PySem.W.keepIn K (.ref f11) = true)
    {f12 : Addr} {od12 an12 : Option Addr} {sl12 : Array (Option Value)} {oc12 kV12 dc12 pm12 cd12 ct12 : Value}
    (a12 : PySem.W.nsIn K mainGlobals "_law_ought" = some (some (.ref f12))) (l12 : K.lookup f12 = some ⟨oc12, od12, .func (PySem.W.fnOf "_law_ought" "_law_ought" (defArgs s_l_ought) (defBody s_l_ought) (defScope s_l_ought) .none kV12 dc12 pm12 an12 cd12 ct12), sl12⟩) (c12 : PySem.W.codeIn K cd12 "_law_ought" = true) (k12 : PySem.W.keepIn K (.ref f12) = true)
    {f13 : Addr} {od13 an13 : Option Addr} {sl13 : Array (Option Value)} {oc13 kV13 dc13 pm13 cd13 ct13 : Value}
    (a13 : PySem.W.nsIn K mainGlobals "law" = some (some (.ref f13))) (l13 : K.lookup f13 = some ⟨oc13, od13, .func (PySem.W.fnOf "law" "law" (defArgs s_law) (defBody s_law) (defScope s_law) .none kV13 dc13 pm13 an13 cd13 ct13), sl13⟩) (c13 : PySem.W.codeIn K cd13 "law" = true) (k13 : PySem.W.keepIn K (.ref f13) = true)
    {t_GREAT : Tok} (m_GREAT : PySem.W.nsIn K mainGlobals "GREAT" = some (some (.int (10000000000000000000000000000000000000000000000000000000000000000000000000000000000000000000000000000000000000000000000000000000000000000000000000000000000000000000000000000000000000000000000000000000000000000000000000000000000000000000000000000000000000000000000000000000000000000000000000000000000000000000000000000000000000000000000000000000000000000000000000000000000000000000000000000000000000000) t_GREAT)))
    {a_PAIRED : Addr} {dd_PAIRED : Option Addr} {nn_PAIRED : Nat} {ss_PAIRED : Array (Option Value)} {t_PAIRED0 t_PAIRED1 : Tok} (m_PAIRED : PySem.W.nsIn K mainGlobals "PAIRED" = some (some (.ref a_PAIRED))) (n_PAIRED : K.lookup a_PAIRED = some ⟨.type "tuple", dd_PAIRED, .seq #[.str "leasts" t_PAIRED0, .str "greatests" t_PAIRED1] nn_PAIRED, ss_PAIRED⟩)
    {a_COUNTING : Addr} {dd_COUNTING : Option Addr} {nn_COUNTING : Nat} {ss_COUNTING : Array (Option Value)} {t_COUNTING0 t_COUNTING1 : Tok} (m_COUNTING : PySem.W.nsIn K mainGlobals "COUNTING" = some (some (.ref a_COUNTING))) (n_COUNTING : K.lookup a_COUNTING = some ⟨.type "tuple", dd_COUNTING, .seq #[.str "ways" t_COUNTING0, .str "sum" t_COUNTING1] nn_COUNTING, ss_COUNTING⟩)
    (z_abs : PySem.W.nsIn K mainGlobals "abs" = some none)
    (z_isinstance : PySem.W.nsIn K mainGlobals "isinstance" = some none)
    (z_tuple : PySem.W.nsIn K mainGlobals "tuple" = some none)
    (z_int : PySem.W.nsIn K mainGlobals "int" = some none)
    (z_len : PySem.W.nsIn K mainGlobals "len" = some none)
    (z_max : PySem.W.nsIn K mainGlobals "max" = some none)
    (z_bool : PySem.W.nsIn K mainGlobals "bool" = some none)
    (z_str : PySem.W.nsIn K mainGlobals "str" = some none)
    (z_list : PySem.W.nsIn K mainGlobals "list" = some none)
    (z_min : PySem.W.nsIn K mainGlobals "min" = some none)
    (z_sorted : PySem.W.nsIn K mainGlobals "sorted" = some none)
    (z_range : PySem.W.nsIn K mainGlobals "range" = some none)
    : ∃ T : Txt K mg, mg "law" = some (.ref T.f_law) ∧ ∀ (s : Shared) (v : Value), BindsTo s T.d_law ⟨[v], []⟩ [("_law_script", v)] := by
  have F0 := fun_mk (st := s_held) l0 c0 k0
  have b0 := F0.binds (ps := ["found"]) fun _ _ _ _ _ _ us hl => match us, hl with | [_], _ => rfl
  have F1 := fun_mk (st := s_is_better) l1 c1 k1
  have b1 := F1.binds (ps := ["word", "one", "other"]) fun _ _ _ _ _ _ us hl => match us, hl with | [_, _, _], _ => rfl
  have F2 := fun_mk (st := s_either) l2 c2 k2
  have b2 := F2.binds (ps := ["word", "one", "other"]) fun _ _ _ _ _ _ us hl => match us, hl with | [_, _, _], _ => rfl
  have F3 := fun_mk (st := s_l_take) l3 c3 k3
  have b3 := F3.binds (ps := ["_law_feed", "_law_many"]) fun _ _ _ _ _ _ us hl => match us, hl with | [_, _], _ => rfl
  have F4 := fun_mk (st := s_l_ten) l4 c4 k4
  have b4 := F4.binds (ps := ["_law_many"]) fun _ _ _ _ _ _ us hl => match us, hl with | [_], _ => rfl
  have F5 := fun_mk (st := s_l_number) l5 c5 k5
  have b5 := F5.binds (ps := ["_law_feed"]) fun _ _ _ _ _ _ us hl => match us, hl with | [_], _ => rfl
  have F6 := fun_mk (st := s_l_drawn) l6 c6 k6
  have b6 := F6.binds (ps := ["_law_feed", "_law_word"]) fun _ _ _ _ _ _ us hl => match us, hl with | [_, _], _ => rfl
  have F7 := fun_mk (st := s_l_whole) l7 c7 k7
  have b7 := F7.binds (ps := ["_law_thing"]) fun _ _ _ _ _ _ us hl => match us, hl with | [_], _ => rfl
  have F8 := fun_mk (st := s_l_alike) l8 c8 k8
  have b8 := F8.binds (ps := ["_law_found", "_law_ought_here"]) fun _ _ _ _ _ _ us hl => match us, hl with | [_, _], _ => rfl
  have F9 := fun_mk (st := s_l_held) l9 c9 k9
  have b9 := F9.binds (ps := ["_law_found"]) fun _ _ _ _ _ _ us hl => match us, hl with | [_], _ => rfl
  have F10 := fun_mk (st := s_l_near) l10 c10 k10
  have b10 := F10.binds (ps := ["_law_feed", "_law_word", "_law_one", "_law_other"]) fun _ _ _ _ _ _ us hl => match us, hl with | [_, _, _, _], _ => rfl
  have F11 := fun_mk (st := s_l_close) l11 c11 k11
  have b11 := F11.binds (ps := ["_law_number_here", "_law_near_here"]) fun _ _ _ _ _ _ us hl => match us, hl with | [_, _], _ => rfl
  have F12 := fun_mk (st := s_l_ought) l12 c12 k12
  have b12 := F12.binds (ps := ["_law_word", "_law_one", "_law_other"]) fun _ _ _ _ _ _ us hl => match us, hl with | [_, _, _], _ => rfl
  have F13 := fun_mk (st := s_law) l13 c13 k13
  have b13 := F13.binds (ps := ["_law_script"]) fun _ _ _ _ _ _ us hl => match us, hl with | [_], _ => rfl
  exact ⟨{ f_held := f0, d_held := _, F_held := F0, b_held := b0, g_held := PySem.W.mg_of X G a0, f_is_better := f1, d_is_better := _, F_is_better := F1, b_is_better := b1, g_is_better := PySem.W.mg_of X G a1, f_either := f2, d_either := _, F_either := F2, b_either := b2, g_either := PySem.W.mg_of X G a2, f_l_take := f3, d_l_take := _, F_l_take := F3, b_l_take := b3, g_l_take := PySem.W.mg_of X G a3, f_l_ten := f4, d_l_ten := _, F_l_ten := F4, b_l_ten := b4, g_l_ten := PySem.W.mg_of X G a4, f_l_number := f5, d_l_number := _, F_l_number := F5, b_l_number := b5, g_l_number := PySem.W.mg_of X G a5, f_l_drawn := f6, d_l_drawn := _, F_l_drawn := F6, b_l_drawn := b6, g_l_drawn := PySem.W.mg_of X G a6, f_l_whole := f7, d_l_whole := _, F_l_whole := F7, b_l_whole := b7, g_l_whole := PySem.W.mg_of X G a7, f_l_alike := f8, d_l_alike := _, F_l_alike := F8, b_l_alike := b8, g_l_alike := PySem.W.mg_of X G a8, f_l_held := f9, d_l_held := _, F_l_held := F9, b_l_held := b9, g_l_held := PySem.W.mg_of X G a9, f_l_near := f10, d_l_near := _, F_l_near := F10, b_l_near := b10, g_l_near := PySem.W.mg_of X G a10, f_l_close := f11, d_l_close := _, F_l_close := F11, b_l_close := b11, g_l_close := PySem.W.mg_of X G a11, f_l_ought := f12, d_l_ought := _, F_l_ought := F12, b_l_ought := b12, g_l_ought := PySem.W.mg_of X G a12, f_law := f13, d_law := _, F_law := F13, b_law := b13, g_law := PySem.W.mg_of X G a13, m_GREAT := ⟨⟨_, .int (10000000000000000000000000000000000000000000000000000000000000000000000000000000000000000000000000000000000000000000000000000000000000000000000000000000000000000000000000000000000000000000000000000000000000000000000000000000000000000000000000000000000000000000000000000000000000000000000000000000000000000000000000000000000000000000000000000000000000000000000000000000000000000000000000000000000000000), PySem.W.mg_of X G m_GREAT, ⟨_, rfl⟩, fun _ => .int _⟩⟩, m_PAIRED := ⟨⟨_, .ref a_PAIRED, PySem.W.mg_of X G m_PAIRED, rfl, fun F => .tup (vs := [.str "leasts", .str "greatests"]) (.inr ⟨_, _, _, n_PAIRED, rfl, rfl, by show 2 ≤ sizeLine; decide, .cons ⟨_, rfl⟩ (.cons ⟨_, rfl⟩ (.nil))⟩) (.cons (.str _) (.cons (.str _) (.nil)))⟩⟩, m_COUNTING := ⟨⟨_, .ref a_COUNTING, PySem.W.mg_of X G m_COUNTING, rfl, fun F => .tup (vs := [.str "ways", .str "sum"]) (.inr ⟨_, _, _, n_COUNTING, rfl, rfl, by show 2 ≤ sizeLine; decide, .cons ⟨_, rfl⟩ (.cons ⟨_, rfl⟩ (.nil))⟩) (.cons (.str _) (.cons (.str _) (.nil)))⟩⟩, z_abs := PySem.W.mg_none_of X G z_abs, z_isinstance := PySem.W.mg_none_of X G z_isinstance, z_tuple := PySem.W.mg_none_of X G z_tuple, z_int := PySem.W.mg_none_of X G z_int, z_len := PySem.W.mg_none_of X G z_len, z_max := PySem.W.mg_none_of X G z_max, z_bool := PySem.W.mg_none_of X G z_bool, z_str := PySem.W.mg_none_of X G z_str, z_list := PySem.W.mg_none_of X G z_list, z_min := PySem.W.mg_none_of X G z_min, z_sorted := PySem.W.mg_none_of X G z_sorted, z_range := PySem.W.mg_none_of X G z_range }, PySem.W.mg_of X G a13, fun s v => .of_eq rfl⟩
end Y

local macro_rules | `(tactic| walk_at "w") => `(tactic| conv => whnf)
local macro_rules | `(tactic| walk_at "sd") => `(tactic| first | assumption | exact rfl | omega | exact ⟨by decide, by decide, by decide⟩ | exact ⟨by omega, by omega⟩ | exact L2.DL.cdv_small (by omega) (by omega) | exact L2.DL.cml_l (by omega) (by omega) | exact L2.DL.cml_r (by omega) (by omega) | exact Nat.le_of_ble_eq_true rfl | exact L2.DL.cml_sz (by assumption) (by assumption) | decide)
local macro_rules | `(tactic| walk_at "es") => `(tactic| repeat (first | (refine Exists.intro _ (And.intro rfl ?_); conv => whnf) | (refine Exists.intro _ (Exists.intro _ (And.intro rfl ?_)); conv => whnf) | (refine Exists.intro _ (Exists.intro _ (Exists.intro _ (And.intro rfl ?_))); conv => whnf) | (refine Exists.intro _ (Exists.intro _ (Exists.intro _ (Exists.intro _ (And.intro rfl ?_)))); conv => whnf) | (refine And.intro (by walk_at "sd") ?_; conv => whnf)))
local macro_rules | `(tactic| walk_at "sp") => `(tactic| (split <;> rename_i hsp <;> (try simp only [decide_eq_true_eq, decide_eq_false_iff_not, Bool.not_eq_true', Bool.not_eq_false'] at hsp) <;> conv => whnf))
local macro_rules | `(tactic| walk_at "ei") => `(tactic| repeat (first | (refine Exists.intro _ (And.intro rfl ?_); conv => whnf) | (refine Exists.intro _ (Exists.intro _ (And.intro rfl ?_)); conv => whnf) | (refine Exists.intro _ (Exists.intro _ (Exists.intro _ (And.intro rfl ?_))); conv => whnf) | (refine Exists.intro _ (Exists.intro _ (Exists.intro _ (Exists.intro _ (And.intro rfl ?_)))); conv => whnf) | (refine And.intro (by walk_at "sd") ?_; conv => whnf) | (intro _; conv => whnf)))
local macro_rules | `(tactic| walk_at "fc") => `(tactic| (refine Eq.mpr (L2.DL.forL_cons _ _ _ _ _) ?_; conv => whnf))
local macro_rules | `(tactic| walk_at "fn") => `(tactic| (refine Eq.mpr (L2.DL.forL_nil _ _ _) ?_; conv => whnf))
local macro_rules | `(tactic| walk_at "mc") => `(tactic| (refine Eq.mpr (L2.DL.mapL_cons _ _ _ _ _ _ _ _) ?_; conv => whnf))
local macro_rules | `(tactic| walk_at "mn") => `(tactic| (refine Eq.mpr (L2.DL.mapL_nil _ _ _ _ _ _) ?_; conv => whnf))
namespace Y
open PySem PySem.Spec PyProof.Rows L2 L2.DL
section
variable {P : Program} {w : World} {K : PySem.W.Frag} {mg : Str → Option Value} {base : Heap}
def sp_l_take : FSpec := fun cs Q => ∃ m : Int, cs = [.opq false PenOk, .val (.int m)] ∧ 0 < m ∧ m < 1073741824 ∧ ∀ r, 0 ≤ r → r < m → Q (.int r) [.opq false PenOk, .none]
set_option maxHeartbeats 4000000 in
theorem ok_l_take (T : Txt K mg) : K_l_take P w base T 1 sp_l_take :=
  okD T.F_l_take sc_l_take fun cdv A outer s H E B cs Q hr hl hs => ⟨_, d_l_take T hr, by
    obtain ⟨m, rfl, h0, h1, hq⟩ := hs
    walk_at "w"
    rintro c ⟨xs, i, j, rfl⟩
    have fin : ∀ (i j r : Int) (rest : List Cell), 0 ≤ r → r < m → ∃ cs', cs'.length = 2 ∧ Outs (Cell.own false (OC.lst [D.lst (List.map D.int xs), D.int i, D.int j]) :: Cell.val (D.int m) :: rest) cs' ∧ Q (.int r) cs' :=
      fun i j r rest h0 h1 => ⟨[.opq false PenOk, .none], rfl, ⟨⟨xs, _, _, rfl⟩, trivial, outs_nil⟩, hq r h0 h1⟩
    walk_at "w"
    walk_at "es"
    walk_at "sp"
    · walk_at "es"
      exact fin _ _ _ _ (Int.emod_nonneg _ (by omega)) (Int.emod_lt_of_pos _ h0)
    · walk_at "es"
      walk_at "sp"
      · rename_i hlen
        walk_at "es"
        obtain ⟨x, hx, hm⟩ := atI_mod (i := i) hlen
        obtain ⟨c, _, rfl⟩ := List.mem_map.mp hm
        refine ⟨_, hx, ?_⟩
        walk_at "w"
        walk_at "es"
        walk_at "sp"
        · walk_at "es"
          walk_at "sp"
          all_goals (walk_at "es"; exact fin _ _ _ _ (Int.emod_nonneg _ (by omega)) (Int.emod_lt_of_pos _ h0))
        · walk_at "es"
          exact fin _ _ _ _ (Int.emod_nonneg _ (by omega)) (Int.emod_lt_of_pos _ h0)
      · walk_at "es"
        walk_at "sp"
        · walk_at "es"
          exact fin _ _ _ _ (Int.emod_nonneg _ (by omega)) (Int.emod_lt_of_pos _ h0)
        · walk_at "es"
          exact fin _ _ _ _ (Int.emod_nonneg _ (by omega)) (Int.emod_lt_of_pos _ h0)⟩
def sp_l_ten : FSpec := fun cs Q => ∃ m : Int, cs = [.val (.int m)] ∧ 1 < m ∧ m ≤ 639 ∧ Q (.int (10 ^ m.toNat)) [.none]
set_option maxHeartbeats 4000000 in
theorem ok_l_ten (T : Txt K mg) : K_l_ten P w base T 1 sp_l_ten :=
  okD T.F_l_ten sc_l_ten fun cdv A outer s H E B cs Q hr hl hs => ⟨_, d_l_ten T hr, by
    obtain ⟨m, rfl, h0, h1, hq⟩ := hs
    walk_at "w"
    obtain ⟨a, b⟩ := ten_run m h0 h1 (fun d => Q d [.none]) hq
    refine ⟨a, ?_⟩
    walk_at "w"
    obtain ⟨b, n, c, d, e⟩ := b
    refine ⟨b, ?_⟩
    walk_at "w"
    exact ⟨n, c, d, [.none], rfl, ⟨trivial, outs_nil⟩, e⟩⟩
def TT : Int := 10 ^ 400
theorem TT_pow : (10 : Int) ^ (400 : Int).toNat = TT := rfl
theorem TT_lit : (10000000000000000000000000000000000000000000000000000000000000000000000000000000000000000000000000000000000000000000000000000000000000000000000000000000000000000000000000000000000000000000000000000000000000000000000000000000000000000000000000000000000000000000000000000000000000000000000000000000000000000000000000000000000000000000000000000000000000000000000000000000000000000000000000000000000000000 : Int) = TT := by decide +kernel
def absI (i : Int) : Int := if i < 0 then -i else i
def bigB (i : Int) : Bool := decide (TT ≤ absI i)
/-- a worth by a word -/
inductive OkW : D → D → Prop
  | ways (i : Int) (h : ¬ TT ≤ absI i) : OkW (.str "ways") (.int i)
  | sum (i : Int) (h : ¬ TT ≤ absI i) : OkW (.str "sum") (.int i)
  | least0 : OkW (.str "least") .non
  | least (i : Int) (h : ¬ TT ≤ absI i) : OkW (.str "least") (.int i)
  | greatest0 : OkW (.str "greatest") .non
  | greatest (i : Int) (h : ¬ TT ≤ absI i) : OkW (.str "greatest") (.int i)
  | leasts0 : OkW (.str "leasts") .non
  | leasts (i j : Int) (h : ¬ TT ≤ absI i) (k : ¬ TT ≤ absI j) : OkW (.str "leasts") (.tup [.int i, .int j])
  | greatests0 : OkW (.str "greatests") .non
  | greatests (i j : Int) (h : ¬ TT ≤ absI i) (k : ¬ TT ≤ absI j) : OkW (.str "greatests") (.tup [.int i, .int j])
def heldD : D → D
  | .int i => if bigB i then .str "great" else .int i
  | .tup [.int a, .int b] => if bigB a || bigB b then .str "great" else .tup [.int a, .int b]
  | d => d
def numB : D → Bool
  | .int _ => true
  | .tup [.int _, .int _] => true
  | _ => false
inductive Num : D → Prop
  | int (i : Int) : Num (.int i)
  | pair (i j : Int) : Num (.tup [.int i, .int j])
theorem numB_of {d : D} (h : numB d = true) : Num d := by
  unfold numB at h
  split at h
  · exact .int _
  · exact .pair _ _
  · cases h
theorem held_int1 {i : Int} (h : TT ≤ absI i) : heldD (.int i) = .str "great" := if_pos (decide_eq_true h)
theorem held_int0 {i : Int} (h : ¬ TT ≤ absI i) : heldD (.int i) = .int i := if_neg (fun e => h (of_decide_eq_true e))
theorem held_p1 {i j : Int} (h : TT ≤ absI i ∨ TT ≤ absI j) : heldD (.tup [.int i, .int j]) = .str "great" := if_pos (by
  rw [Bool.or_eq_true]; exact h.imp (fun e => decide_eq_true e) (fun e => decide_eq_true e))
theorem held_p0 {i j : Int} (h : ¬ TT ≤ absI i) (k : ¬ TT ≤ absI j) : heldD (.tup [.int i, .int j]) = .tup [.int i, .int j] := if_neg (by
  rw [Bool.or_eq_true]; rintro (e | e)
  · exact h (of_decide_eq_true e)
  · exact k (of_decide_eq_true e))
def BB : Int := 10 ^ 399
theorem ten_le {m : Int} (h : m ≤ 399) : (10 : Int) ^ m.toNat ≤ BB := by
  unfold BB
  exact_mod_cast Nat.pow_le_pow_right (show 0 < 10 by decide) (show m.toNat ≤ 399 by omega)
theorem BB_TT : TT = 10 * BB := by unfold TT BB; rw [show (400 : Nat) = 399 + 1 from rfl, Int.pow_succ, Int.mul_comm]
theorem BB_big : 1000 ≤ BB := by
  have h : (10 : Int) ^ 3 ≤ 10 ^ 399 := by exact_mod_cast Nat.pow_le_pow_right (show 0 < 10 by decide) (show 3 ≤ 399 by decide)
  exact h
theorem lt_small {i : Int} (h : -10000 < i) (k : i < 10000) : ¬ TT ≤ absI i := by
  have e := BB_TT
  have b := BB_big
  unfold absI
  split <;> omega
theorem lt_neg {i : Int} (h : ¬ TT ≤ absI i) : ¬ TT ≤ absI (-i) := by
  unfold absI at *
  split at h <;> split <;> omega
theorem lt_abs {i : Int} (h : ¬ TT ≤ absI i) : ¬ TT ≤ absI (if i < 0 then -i else i) := by
  split
  · exact lt_neg h
  · exact h
theorem number_lt {m a b c : Int} (hm : m ≤ 399) (h0 : 0 ≤ a) (h1 : a < 2) (h2 : 0 ≤ b) (h3 : b < 9) (h4 : 0 ≤ c) (h5 : c < 3) : ¬ TT ≤ absI ((1 - 2 * a) * (10 ^ m.toNat * (1 + b) - c)) := by
  have p0 : (0 : Int) ≤ 10 ^ m.toNat := Int.pow_nonneg (by decide)
  have p1 : (10 : Int) ^ m.toNat * (1 + b) ≤ BB * 9 := Int.mul_le_mul (ten_le hm) (by omega) (by omega) (by have := BB_big; omega)
  have p2 : (0 : Int) ≤ 10 ^ m.toNat * (1 + b) := Int.mul_nonneg p0 (by omega)
  generalize (10 : Int) ^ m.toNat * (1 + b) = x at *
  have key : ¬ TT ≤ absI (x - c) := by
    have e := BB_TT
    have g := BB_big
    unfold absI
    split <;> omega
  rcases bit h0 h1 with rfl | rfl
  · rw [show (1 - 2 * 0 : Int) = 1 from rfl, Int.one_mul]; exact key
  · rw [show (1 - 2 * 1 : Int) = -1 from rfl, Int.neg_mul, Int.one_mul]; exact lt_neg key
def sp_l_number : FSpec := fun cs Q => cs = [.opq false PenOk] ∧ ∀ v, ¬ TT ≤ absI v → Q (.int v) [.opq false PenOk]
set_option maxHeartbeats 4000000 in
theorem ok_l_number (T : Txt K mg) : K_l_number P w base T 2 sp_l_number :=
  okD T.F_l_number sc_l_number fun cdv A outer s H E B cs Q hr hl hs => ⟨_, d_l_number T (ok_l_take T) (by decide) (ok_l_ten T) (by decide) hr, by
    obtain ⟨rfl, hq⟩ := hs
    walk_at "w"
    walk_at "ei"
    walk_at "sp"
    · walk_at "ei"
      exact ⟨[.opq false PenOk], rfl, ⟨fun _ h => h, outs_nil⟩, hq _ (lt_small (by omega) (by omega))⟩
    · walk_at "ei"
      rename_i r h0 h1
      obtain ⟨x, hx, hp⟩ := atI_all (intB fun i => decide (1 < i) && decide (i ≤ 399)) (l := [D.int 29, D.int 59, D.int 199, D.int 200, D.int 201, D.int 298, D.int 399, D.int 399]) (by decide) h0 h1
      obtain ⟨m, rfl, hm⟩ := intB_of hp
      simp only [Bool.and_eq_true, decide_eq_true_eq] at hm
      refine ⟨_, hx, ?_⟩
      walk_at "w"
      obtain ⟨hm0, hm1⟩ := hm
      have hm2 : m ≤ 639 := by omega
      walk_at "ei"
      exact ⟨[.opq false PenOk], rfl, ⟨fun _ h => h, outs_nil⟩, hq _ (number_lt hm1 (by assumption) (by assumption) (by assumption) (by assumption) (by assumption) (by assumption))⟩⟩
/-- what a worth, or a fault, is -/
inductive Worth : D → Prop
  | non : Worth .non
  | str (x : Str) : Worth (.str x)
  | int (i : Int) : Worth (.int i)
  | pair (i j : Int) : Worth (.tup [.int i, .int j])
def betB (x : Str) (i j : Int) : Bool := if x = "least" ∨ x = "leasts" then decide (i < j) else decide (j < i)
def eitherP : D → D → D → D
  | _, .non, b => b
  | _, a, .non => a
  | .str x, .int i, .int j => if x = "ways" ∨ x = "sum" then .int (i + j) else if betB x j i then .int j else .int i
  | .str x, .tup [.int i, .int n], .tup [.int j, .int m] => if i = j then .tup [.int i, .int (n + m)] else if betB x j i then .tup [.int j, .int m] else .tup [.int i, .int n]
  | _, a, _ => a
theorem ei_w (i j : Int) : eitherP (.str "ways") (.int i) (.int j) = .int (i + j) := rfl
theorem ei_s (i j : Int) : eitherP (.str "sum") (.int i) (.int j) = .int (i + j) := rfl
theorem ei_l (i j : Int) : eitherP (.str "least") (.int i) (.int j) = if j < i then .int j else .int i := by
  show (if decide (j < i) = true then D.int j else D.int i) = _
  simp only [decide_eq_true_eq]
theorem ei_g (i j : Int) : eitherP (.str "greatest") (.int i) (.int j) = if i < j then .int j else .int i := by
  show (if decide (i < j) = true then D.int j else D.int i) = _
  simp only [decide_eq_true_eq]
theorem ei_ls (i n j m : Int) : eitherP (.str "leasts") (.tup [.int i, .int n]) (.tup [.int j, .int m]) = if i = j then .tup [.int i, .int (n + m)] else if j < i then .tup [.int j, .int m] else .tup [.int i, .int n] := by
  show (if i = j then D.tup [.int i, .int (n + m)] else if decide (j < i) = true then D.tup [.int j, .int m] else .tup [.int i, .int n]) = _
  simp only [decide_eq_true_eq]
theorem ei_gs (i n j m : Int) : eitherP (.str "greatests") (.tup [.int i, .int n]) (.tup [.int j, .int m]) = if i = j then .tup [.int i, .int (n + m)] else if i < j then .tup [.int j, .int m] else .tup [.int i, .int n] := by
  show (if i = j then D.tup [.int i, .int (n + m)] else if decide (i < j) = true then D.tup [.int j, .int m] else .tup [.int i, .int n]) = _
  simp only [decide_eq_true_eq]
theorem ei_n (w b : D) : eitherP w .non b = b := rfl
theorem ei_n' {w a : D} (h : Worth a) : eitherP w a .non = a := by cases h <;> rfl
theorem int_eq {i j : Int} (h : i = j) : D.int i = .int j := by rw [h]
theorem pair_eq {i j n m : Int} (h : i = j) (k : n = m) : D.tup [.int i, .int n] = .tup [.int j, .int m] := by rw [h, k]
theorem ei_comm {w a b : D} (ha : OkW w a) (hb : OkW w b) : eitherP w a b = eitherP w b a := by
  cases ha <;> cases hb <;> simp only [ei_w, ei_s, ei_l, ei_g, ei_ls, ei_gs, ei_n, ei_n' .non, ei_n' (.int _), ei_n' (.pair _ _)]
  all_goals (repeat' split) <;> first | rfl | (exfalso; omega) | exact int_eq (by omega) | exact pair_eq (by omega) (by omega)
def sp_l_whole : FSpec := fun cs Q => ∃ i : Int, cs = [.val (.int i)] ∧ Q (.bl true) [.none]
set_option maxHeartbeats 4000000 in
theorem ok_l_whole (T : Txt K mg) : K_l_whole P w base T 1 sp_l_whole :=
  okD T.F_l_whole sc_l_whole fun cdv A outer s H E B cs Q hr hl hs => ⟨_, d_l_whole T hr, by
    obtain ⟨i, rfl, hq⟩ := hs
    walk_at "w"
    walk_at "ei"
    exact ⟨[Cell.none], rfl, ⟨trivial, outs_nil⟩, hq⟩⟩
def sp_l_alike : FSpec := fun cs Q => ∃ d e, cs = [.val d, .val e] ∧ (d = e ∧ Worth e) ∧ Q (.bl true) [.none, .none]
set_option maxHeartbeats 4000000 in
theorem ok_l_alike (T : Txt K mg) : K_l_alike P w base T 2 sp_l_alike :=
  okD T.F_l_alike sc_l_alike fun cdv A outer s H E B cs Q hr hl hs => ⟨_, d_l_alike T (ok_l_whole T) (by decide) hr, by
    obtain ⟨_, d, rfl, ⟨rfl, hd⟩, hq⟩ := hs
    cases hd with
    | non =>
      walk_at "w"
      walk_at "ei"
      exact ⟨[.none, .none], rfl, ⟨trivial, trivial, outs_nil⟩, hq⟩
    | str x =>
      walk_at "w"
      walk_at "ei"
      rw [show decide (x = x) = true from decide_eq_true rfl]
      walk_at "w"
      walk_at "ei"
      exact ⟨[.none, .none], rfl, ⟨trivial, trivial, outs_nil⟩, hq⟩
    | int i =>
      walk_at "w"
      walk_at "ei"
      exact ⟨[.none, .none], rfl, ⟨trivial, trivial, outs_nil⟩, by rw [decide_eq_true rfl]; exact hq⟩
    | pair i j =>
      walk_at "w"
      walk_at "ei"
      refine ⟨⟨rfl, rfl, rfl, rfl⟩, ?_⟩
      walk_at "w"
      exact ⟨[.none, .none], rfl, ⟨trivial, trivial, outs_nil⟩, by rw [(eqv_iff _ _ rfl rfl).mpr rfl]; exact hq⟩⟩
def sp_held : FSpec := fun cs Q => ∃ d, cs = [.val d] ∧ numB d = true ∧ ∀ e, e = heldD d → Q e [.none]
set_option maxHeartbeats 4000000 in
theorem ok_held (T : Txt K mg) : K_held P w base T 1 sp_held :=
  okD T.F_held sc_held fun cdv A outer s H E B cs Q hr hl hs => ⟨_, d_held T hr, by
    obtain ⟨d, rfl, hd, hq⟩ := hs
    cases numB_of hd with
    | int i =>
      walk_at "w"
      walk_at "ei"
      walk_at "fc"
      rw [TT_lit]
      walk_at "sp"
      · rename_i h
        exact ⟨[.none], rfl, ⟨trivial, outs_nil⟩, hq _ (held_int1 h).symm⟩
      · rename_i h
        walk_at "fn"
        exact ⟨[.none], rfl, ⟨trivial, outs_nil⟩, hq _ (held_int0 h).symm⟩
    | pair i j =>
      walk_at "w"
      walk_at "ei"
      walk_at "fc"
      rw [TT_lit]
      walk_at "sp"
      · rename_i h
        exact ⟨[.none], rfl, ⟨trivial, outs_nil⟩, hq _ (held_p1 (.inl h)).symm⟩
      · rename_i h
        walk_at "fc"
        rw [TT_lit]
        walk_at "sp"
        · rename_i k
          exact ⟨[.none], rfl, ⟨trivial, outs_nil⟩, hq _ (held_p1 (.inr k)).symm⟩
        · rename_i k
          walk_at "fn"
          exact ⟨[.none], rfl, ⟨trivial, outs_nil⟩, hq _ (held_p0 h k).symm⟩⟩
def sp_l_held : FSpec := fun cs Q => ∃ d, cs = [.val d] ∧ numB d = true ∧ ∀ e, e = heldD d → Q e [.none]
set_option maxHeartbeats 4000000 in
theorem ok_l_held (T : Txt K mg) : K_l_held P w base T 2 sp_l_held :=
  okD T.F_l_held sc_l_held fun cdv A outer s H E B cs Q hr hl hs => ⟨_, d_l_held T (ok_l_ten T) (by decide) hr, by
    obtain ⟨d, rfl, hd, hq⟩ := hs
    cases numB_of hd with
    | int i =>
      walk_at "w"
      walk_at "ei"
      walk_at "mc"
      walk_at "mn"
      refine ⟨[absI i], rfl, Nat.le_refl _, fun m hm _ => ?_⟩
      obtain rfl : m = absI i := by simpa using hm
      walk_at "w"
      walk_at "ei"
      rw [TT_pow]
      walk_at "sp"
      · rename_i h
        exact ⟨[.none], rfl, ⟨trivial, outs_nil⟩, hq _ (held_int1 h).symm⟩
      · rename_i h
        exact ⟨[.none], rfl, ⟨trivial, outs_nil⟩, hq _ (held_int0 h).symm⟩
    | pair i j =>
      walk_at "w"
      walk_at "ei"
      walk_at "mc"
      walk_at "mc"
      walk_at "mn"
      refine ⟨[absI i, absI j], rfl, Nat.succ_pos _, fun m hm hx => ?_⟩
      have h1 : absI i ≤ m := hx _ List.mem_cons_self
      have h2 : absI j ≤ m := hx _ (List.mem_cons_of_mem _ List.mem_cons_self)
      have h3 : m = absI i ∨ m = absI j := by simpa using hm
      walk_at "w"
      walk_at "ei"
      rw [TT_pow]
      walk_at "sp"
      · rename_i h
        exact ⟨[.none], rfl, ⟨trivial, outs_nil⟩, hq _ (held_p1 (h3.imp (fun e => e ▸ h) fun e => e ▸ h)).symm⟩
      · rename_i h
        exact ⟨[.none], rfl, ⟨trivial, outs_nil⟩, hq _ (held_p0 (fun e => h (by omega)) (fun e => h (by omega))).symm⟩⟩
def wordB : D → Bool
  | .str x => decide (x = "least" ∨ x = "greatest" ∨ x = "ways" ∨ x = "sum" ∨ x = "leasts" ∨ x = "greatests")
  | _ => false
def words6 : List D := [.str "least", .str "greatest", .str "ways", .str "sum", .str "leasts", .str "greatests"]
theorem words6_of {d : D} (h : wordB d = true) : d ∈ words6 := by
  cases d <;> first | cases h | skip
  have h := of_decide_eq_true h
  rcases h with rfl | rfl | rfl | rfl | rfl | rfl <;> simp [words6]
def sp_l_drawn : FSpec := fun cs Q => ∃ w, cs = [.opq false PenOk, .val w] ∧ wordB w = true ∧ ∀ d, OkW w d → Q d [.opq false PenOk, .none]
theorem one_lt {a : Int} (h : ¬ TT ≤ absI a) : ¬ TT ≤ absI (if a > 1 then a else 1) := by
  split
  · exact h
  · exact lt_small (by omega) (by omega)
theorem max_lt {v : Int} (h : ¬ TT ≤ absI v) : ¬ TT ≤ absI (if (if v < 0 then -v else v) > 1 then (if v < 0 then -v else v) else 1) := one_lt (lt_abs h)
set_option maxHeartbeats 4000000 in
theorem ok_l_drawn (T : Txt K mg) : K_l_drawn P w base T 3 sp_l_drawn :=
  okD T.F_l_drawn sc_l_drawn fun cdv A outer s H E B cs Q hr hl hs => ⟨_, d_l_drawn T (ok_l_number T) (by decide) (ok_l_take T) (by decide) hr, by
    obtain ⟨w, rfl, hw, hq⟩ := hs
    replace hw := words6_of hw
    simp only [words6, List.mem_cons, List.not_mem_nil, or_false] at hw
    have fin : ∀ {d : D} {env : DEnv}, OkW w d → Outs env [.opq false PenOk, .none] → ∃ cs' : List Cell, cs'.length = 2 ∧ Outs env cs' ∧ Q d cs' := fun h o => ⟨_, rfl, o, hq _ h⟩
    rcases hw with rfl | rfl | rfl | rfl | rfl | rfl <;> walk_at "w" <;> walk_at "ei"
    all_goals first
      | (exact fin (.ways _ (lt_abs (by assumption))) ⟨fun _ h => h, trivial, outs_nil⟩)
      | (exact fin (.sum _ (by assumption)) ⟨fun _ h => h, trivial, outs_nil⟩)
      | skip
    all_goals
      walk_at "sp"
      · first | (exact fin .least0 ⟨fun _ h => h, trivial, outs_nil⟩) | (exact fin .greatest0 ⟨fun _ h => h, trivial, outs_nil⟩) | (exact fin .leasts0 ⟨fun _ h => h, trivial, outs_nil⟩) | (exact fin .greatests0 ⟨fun _ h => h, trivial, outs_nil⟩)
      · walk_at "ei"
        first
          | (exact fin (.least _ (by assumption)) ⟨fun _ h => h, trivial, outs_nil⟩)
          | (exact fin (.greatest _ (by assumption)) ⟨fun _ h => h, trivial, outs_nil⟩)
          | (exact fin (.leasts _ _ (by assumption) (max_lt (by assumption))) ⟨fun _ h => h, trivial, outs_nil⟩)
          | (exact fin (.greatests _ _ (by assumption) (max_lt (by assumption))) ⟨fun _ h => h, trivial, outs_nil⟩)⟩
def sp_is_better : FSpec := fun cs Q => ∃ x i j, cs = [.val (.str x), .val (.int i), .val (.int j)] ∧ wordB (.str x) = true ∧ Q (.bl (betB x i j)) [.none, .none, .none]
set_option maxHeartbeats 4000000 in
theorem ok_is_better (T : Txt K mg) : K_is_better P w base T 1 sp_is_better :=
  okD T.F_is_better sc_is_better fun cdv A outer s H E B cs Q hr hl hs => ⟨_, d_is_better T hr, by
    obtain ⟨x, i, j, rfl, hw, hq⟩ := hs
    have hw := words6_of hw
    simp only [words6, List.mem_cons, List.not_mem_nil, or_false, D.str.injEq] at hw
    rcases hw with rfl | rfl | rfl | rfl | rfl | rfl <;> walk_at "w" <;> walk_at "ei" <;> exact ⟨[.none, .none, .none], rfl, ⟨trivial, trivial, trivial, outs_nil⟩, hq⟩⟩
theorem held_ok {w a : D} (h : OkW w a) : heldD a = a := by
  cases h <;> first | rfl | exact held_int0 (by assumption) | exact held_p0 (by assumption) (by assumption)
theorem ei_lb (i j : Int) : eitherP (.str "least") (.int i) (.int j) = if betB (Str.ofString "least") j i = true then .int j else .int i := rfl
theorem ei_gb (i j : Int) : eitherP (.str "greatest") (.int i) (.int j) = if betB (Str.ofString "greatest") j i = true then .int j else .int i := rfl
theorem ei_pb (w : Str) (i n j m : Int) : eitherP (.str w) (.tup [.int i, .int n]) (.tup [.int j, .int m]) = if i = j then .tup [.int i, .int (n + m)] else if betB w j i = true then .tup [.int j, .int m] else .tup [.int i, .int n] := rfl
def sp_either : FSpec := fun cs Q => ∃ w a b, cs = [.val w, .val a, .val b] ∧ OkW w a ∧ OkW w b ∧ ∀ e, e = heldD (eitherP w a b) → Q e [.none, .none, .none]
set_option maxHeartbeats 4000000 in
theorem ok_either (T : Txt K mg) : K_either P w base T 2 sp_either :=
  okD T.F_either sc_either fun cdv A outer s H E B cs Q hr hl hs => ⟨_, d_either T (ok_held T) (by decide) (ok_is_better T) (by decide) hr, by
    obtain ⟨w, a, b, rfl, ha, hb, hq⟩ := hs
    have fin0 : ∀ (d : D) (env : DEnv), d = heldD (eitherP w a b) → Outs env [.none, .none, .none] → ∃ cs' : List Cell, cs'.length = 3 ∧ Outs env cs' ∧ Q d cs' := fun d env e2 o => ⟨_, rfl, o, hq _ e2⟩
    have fin : ∀ (d e : D) (env : DEnv), e = heldD d → d = eitherP w a b → Outs env [.none, .none, .none] → ∃ cs' : List Cell, cs'.length = 3 ∧ Outs env cs' ∧ Q e cs' := fun d e env e1 e2 o => fin0 e env (by rw [e1, e2]) o
    have la := held_ok ha
    have lb := held_ok hb
    cases ha <;> cases hb <;> walk_at "w" <;> walk_at "ei"
    all_goals first
      | exact fin0 _ _ (by first | exact la.symm | exact lb.symm | rfl) ⟨trivial, trivial, trivial, outs_nil⟩
      | exact fin _ _ _ (by assumption) rfl ⟨trivial, trivial, trivial, outs_nil⟩
      | skip
    · cases z : betB (Str.ofString "least") _ _ <;> (refine ⟨_, rfl, ?_⟩; walk_at "w"; walk_at "ei"; exact fin _ _ _ (by assumption) (by rw [ei_lb, z]; rfl) ⟨trivial, trivial, trivial, outs_nil⟩)
    · cases z : betB (Str.ofString "greatest") _ _ <;> (refine ⟨_, rfl, ?_⟩; walk_at "w"; walk_at "ei"; exact fin _ _ _ (by assumption) (by rw [ei_gb, z]; rfl) ⟨trivial, trivial, trivial, outs_nil⟩)
    · walk_at "sp"
      · rename_i q
        walk_at "ei"
        exact fin _ _ _ (by assumption) (by rw [ei_pb, if_pos q]) ⟨trivial, trivial, trivial, outs_nil⟩
      · rename_i q
        walk_at "ei"
        cases z : betB (Str.ofString "leasts") _ _ <;> (refine ⟨_, rfl, ?_⟩; walk_at "w"; walk_at "ei"; exact fin _ _ _ (by assumption) (by rw [ei_pb, if_neg q, z]; rfl) ⟨trivial, trivial, trivial, outs_nil⟩)
    · walk_at "sp"
      · rename_i q
        walk_at "ei"
        exact fin _ _ _ (by assumption) (by rw [ei_pb, if_pos q]) ⟨trivial, trivial, trivial, outs_nil⟩
      · rename_i q
        walk_at "ei"
        cases z : betB (Str.ofString "greatests") _ _ <;> (refine ⟨_, rfl, ?_⟩; walk_at "w"; walk_at "ei"; exact fin _ _ _ (by assumption) (by rw [ei_pb, if_neg q, z]; rfl) ⟨trivial, trivial, trivial, outs_nil⟩)⟩
theorem sort2i {i j : Int} {ns : List Int} (h : ns.Perm [i, j]) (k : ns.Pairwise (· ≤ ·)) : ns = if j < i then [j, i] else [i, j] := by
  have l := h.length_eq
  match ns, l with
  | [x, y], _ =>
    have hx : x ∈ [i, j] := h.mem_iff.mp List.mem_cons_self
    have hi : i ∈ [x, y] := h.mem_iff.mpr List.mem_cons_self
    have hj : j ∈ [x, y] := h.mem_iff.mpr (List.mem_cons_of_mem _ List.mem_cons_self)
    have hy : y ∈ [i, j] := h.mem_iff.mp (List.mem_cons_of_mem _ List.mem_cons_self)
    simp at hx hi hj hy k
    split <;> (congr <;> omega)
theorem sort2p {i n j m : Int} {ns : List (Int × Int)} (q : i ≠ j) (h : ns.Perm [(i, n), (j, m)]) (k : ns.Pairwise (fun x y => SrtO.lexB y x = false)) : ns = if j < i then [(j, m), (i, n)] else [(i, n), (j, m)] := by
  have l := h.length_eq
  match ns, l with
  | [x, y], _ =>
    have hx : x ∈ [(i, n), (j, m)] := h.mem_iff.mp List.mem_cons_self
    have hi : (i, n) ∈ [x, y] := h.mem_iff.mpr List.mem_cons_self
    have hj : (j, m) ∈ [x, y] := h.mem_iff.mpr (List.mem_cons_of_mem _ List.mem_cons_self)
    have kk : ¬ (y.1 < x.1 ∨ (y.1 = x.1 ∧ y.2 < x.2)) := SrtO.lexB_no.mp (by simpa using k)
    simp at hx hi hj
    rcases hx with rfl | rfl
    · rcases hj with e | rfl
      · exact absurd (congrArg Prod.fst e) (fun z => q z.symm)
      · rw [if_neg (by simp at kk; omega)]
    · rcases hi with e | rfl
      · exact absurd (congrArg Prod.fst e) q
      · rw [if_pos (by simp at kk; omega)]
def sp_l_ought : FSpec := fun cs Q => ∃ w a b, cs = [.val w, .val a, .val b] ∧ OkW w a ∧ OkW w b ∧ ∀ e, e = heldD (eitherP w a b) → Q e [.none, .none, .none]
set_option maxHeartbeats 4000000 in
theorem ok_l_ought (T : Txt K mg) : K_l_ought P w base T 3 sp_l_ought :=
  okD T.F_l_ought sc_l_ought fun cdv A outer s H E B cs Q hr hl hs => ⟨_, d_l_ought T (ok_l_held T) (by decide) hr, by
    obtain ⟨w, a, b, rfl, ha, hb, hq⟩ := hs
    have fin0 : ∀ (d : D) (env : DEnv), d = heldD (eitherP w a b) → Outs env [.none, .none, .none] → ∃ cs' : List Cell, cs'.length = 3 ∧ Outs env cs' ∧ Q d cs' := fun d env e2 o => ⟨_, rfl, o, hq _ e2⟩
    have fin : ∀ (d e : D) (env : DEnv), e = heldD d → d = eitherP w a b → Outs env [.none, .none, .none] → ∃ cs' : List Cell, cs'.length = 3 ∧ Outs env cs' ∧ Q e cs' := fun d e env e1 e2 o => fin0 e env (by rw [e1, e2]) o
    have la := held_ok ha
    have lb := held_ok hb
    cases ha <;> cases hb <;> walk_at "w" <;> walk_at "ei"
    all_goals first
      | exact fin0 _ _ (by first | exact la.symm | exact lb.symm | rfl) ⟨trivial, trivial, trivial, outs_nil⟩
      | exact fin _ _ _ (by assumption) rfl ⟨trivial, trivial, trivial, outs_nil⟩
      | skip
    · rename_i i hi j hj
      refine .inl ⟨[i, j], rfl, Nat.le_of_ble_eq_true rfl, fun ns' h1 h2 => ?_⟩
      rw [sort2i h1 h2]
      by_cases q : j < i
      · rw [if_pos q]
        walk_at "w"
        walk_at "ei"
        exact fin0 _ _ (by rw [ei_l, if_pos q]; exact lb.symm) ⟨trivial, trivial, trivial, outs_nil⟩
      · rw [if_neg q]
        walk_at "w"
        walk_at "ei"
        exact fin0 _ _ (by rw [ei_l, if_neg q]; exact la.symm) ⟨trivial, trivial, trivial, outs_nil⟩
    · rename_i i hi j hj
      refine .inl ⟨[i, j], rfl, Nat.le_of_ble_eq_true rfl, fun ns' h1 h2 => ?_⟩
      rw [sort2i h1 h2]
      by_cases q : j < i
      · rw [if_pos q]
        walk_at "w"
        walk_at "ei"
        exact fin0 _ _ (by rw [ei_g, if_neg (show ¬ i < j by omega)]; exact la.symm) ⟨trivial, trivial, trivial, outs_nil⟩
      · rw [if_neg q]
        walk_at "w"
        walk_at "ei"
        refine fin0 _ _ ?_ ⟨trivial, trivial, trivial, outs_nil⟩
        rw [ei_g]
        by_cases p : i < j
        · rw [if_pos p]; exact lb.symm
        · rw [if_neg p, show i = j by omega]; exact lb.symm
    · rename_i i n hi hn j m hj hm
      walk_at "sp"
      · rename_i q
        walk_at "ei"
        exact fin _ _ _ (by assumption) (by rw [ei_pb, if_pos q]) ⟨trivial, trivial, trivial, outs_nil⟩
      · rename_i q
        walk_at "ei"
        refine .inr ⟨[(i, n), (j, m)], rfl, fun qs h1 h2 => ?_⟩
        rw [sort2p q h1 h2]
        by_cases p : j < i
        · rw [if_pos p]
          walk_at "w"
          walk_at "ei"
          exact fin0 _ _ (by rw [ei_ls, if_neg q, if_pos p]; exact lb.symm) ⟨trivial, trivial, trivial, outs_nil⟩
        · rw [if_neg p]
          walk_at "w"
          walk_at "ei"
          exact fin0 _ _ (by rw [ei_ls, if_neg q, if_neg p]; exact la.symm) ⟨trivial, trivial, trivial, outs_nil⟩
    · rename_i i n hi hn j m hj hm
      walk_at "sp"
      · rename_i q
        walk_at "ei"
        exact fin _ _ _ (by assumption) (by rw [ei_pb, if_pos q]) ⟨trivial, trivial, trivial, outs_nil⟩
      · rename_i q
        walk_at "ei"
        refine .inr ⟨[(i, n), (j, m)], rfl, fun qs h1 h2 => ?_⟩
        rw [sort2p q h1 h2]
        by_cases p : j < i
        · rw [if_pos p]
          walk_at "w"
          walk_at "ei"
          exact fin0 _ _ (by rw [ei_gs, if_neg q, if_neg (show ¬ i < j by omega)]; exact la.symm) ⟨trivial, trivial, trivial, outs_nil⟩
        · rw [if_neg p]
          walk_at "w"
          walk_at "ei"
          exact fin0 _ _ (by rw [ei_gs, if_neg q, if_pos (show i < j by omega)]; exact lb.symm) ⟨trivial, trivial, trivial, outs_nil⟩⟩
def sp_l_close : FSpec := fun cs Q => ∃ i n : Int, cs = [.val (.int i), .val (.int n)] ∧ ¬ TT ≤ absI i ∧ ∀ v, ¬ TT ≤ absI v → Q (.int v) [.none, .none]
set_option maxHeartbeats 4000000 in
theorem ok_l_close (T : Txt K mg) : K_l_close P w base T 2 sp_l_close :=
  okD T.F_l_close sc_l_close fun cdv A outer s H E B cs Q hr hl hs => ⟨_, d_l_close T (ok_l_ten T) (by decide) hr, by
    obtain ⟨i, n, rfl, hi, hq⟩ := hs
    walk_at "w"
    walk_at "ei"
    rw [TT_pow]
    walk_at "sp"
    · exact ⟨[.none, .none], rfl, ⟨trivial, trivial, outs_nil⟩, hq _ hi⟩
    · rename_i h
      exact ⟨[.none, .none], rfl, ⟨trivial, trivial, outs_nil⟩, hq _ h⟩⟩
theorem min_lt {x : Int} : ¬ TT ≤ absI (if TT - 1 < (if x > 1 then x else 1) then TT - 1 else (if x > 1 then x else 1)) := by
  have e := BB_TT
  have b := BB_big
  unfold absI
  repeat' split
  all_goals omega
def sp_l_near : FSpec := fun cs Q => ∃ w a b, cs = [.opq false PenOk, .val w, .val a, .val b] ∧ OkW w a ∧ OkW w b ∧ ∀ d, OkW w d → Q d [.opq false PenOk, .none, .none, .none]
set_option maxHeartbeats 4000000 in
theorem ok_l_near (T : Txt K mg) : K_l_near P w base T 3 sp_l_near :=
  okD T.F_l_near sc_l_near fun cdv A outer s H E B cs Q hr hl hs => ⟨_, d_l_near T (ok_l_close T) (by decide) (ok_l_take T) (by decide) (ok_l_ten T) (by decide) hr, by
    obtain ⟨w, a, b, rfl, ha, hb, hq⟩ := hs
    have fin : ∀ {d : D} {env : DEnv}, OkW w d → Outs env [.opq false PenOk, .none, .none, .none] → ∃ cs' : List Cell, cs'.length = 4 ∧ Outs env cs' ∧ Q d cs' := fun h o => ⟨_, rfl, o, hq _ h⟩
    have nl : ∀ {r : Int}, 0 ≤ r → r < 4 → ∃ x, atI [D.int 0, D.int 0, D.int 1, D.int (-1)] r = some x ∧ intB (fun _ => true) x = true := fun h0 h1 => atI_all _ (by decide) h0 h1
    have ha' := ha
    have hb' := hb
    cases ha <;> cases hb <;> walk_at "w" <;> walk_at "ei"
    all_goals first
      | exact fin (by assumption) ⟨fun _ h => h, trivial, trivial, trivial, outs_nil⟩
      | skip
    all_goals
      walk_at "sp"
      exact fin (by assumption) ⟨fun _ h => h, trivial, trivial, trivial, outs_nil⟩
      walk_at "ei"
      rename_i r h0 h1
      obtain ⟨x, hx, hp⟩ := nl h0 h1
      obtain ⟨z, rfl, _⟩ := intB_of hp
      refine ⟨_, hx, ?_⟩
      walk_at "w"
      walk_at "ei"
    · walk_at "sp"
      · walk_at "ei"
        rw [TT_pow]
        exact fin (.ways _ min_lt) ⟨fun _ h => h, trivial, trivial, trivial, outs_nil⟩
      · walk_at "ei"
        exact fin (.ways _ (lt_abs (by assumption))) ⟨fun _ h => h, trivial, trivial, trivial, outs_nil⟩
    · walk_at "sp"
      · walk_at "ei"
        rw [TT_pow]
        exact fin (.sum _ min_lt) ⟨fun _ h => h, trivial, trivial, trivial, outs_nil⟩
      · walk_at "ei"
        exact fin (.sum _ (by assumption)) ⟨fun _ h => h, trivial, trivial, trivial, outs_nil⟩
    · exact fin (.least _ (by assumption)) ⟨fun _ h => h, trivial, trivial, trivial, outs_nil⟩
    · exact fin (.greatest _ (by assumption)) ⟨fun _ h => h, trivial, trivial, trivial, outs_nil⟩
    · rename_i r0 r1
      rcases bit r0 r1 with rfl | rfl
      · refine ⟨_, rfl, ?_⟩
        walk_at "w"
        walk_at "ei"
        exact fin (.leasts _ _ (by assumption) (by assumption)) ⟨fun _ h => h, trivial, trivial, trivial, outs_nil⟩
      · refine ⟨_, rfl, ?_⟩
        walk_at "w"
        walk_at "ei"
        rw [TT_pow]
        exact fin (.leasts _ _ (by assumption) min_lt) ⟨fun _ h => h, trivial, trivial, trivial, outs_nil⟩
    · rename_i r0 r1
      rcases bit r0 r1 with rfl | rfl
      · refine ⟨_, rfl, ?_⟩
        walk_at "w"
        walk_at "ei"
        exact fin (.greatests _ _ (by assumption) (by assumption)) ⟨fun _ h => h, trivial, trivial, trivial, outs_nil⟩
      · refine ⟨_, rfl, ?_⟩
        walk_at "w"
        walk_at "ei"
        rw [TT_pow]
        exact fin (.greatests _ _ (by assumption) min_lt) ⟨fun _ h => h, trivial, trivial, trivial, outs_nil⟩⟩
theorem ei_ok {w a b : D} (ha : OkW w a) (hb : OkW w b) : ∃ o, eitherP w a b = o ∧ Worth (heldD o) := by
  refine ⟨_, rfl, ?_⟩
  have hi : ∀ i, Worth (heldD (.int i)) := fun i => by
    by_cases h : TT ≤ absI i
    · rw [held_int1 h]; exact .str _
    · rw [held_int0 h]; exact .int _
  have hp : ∀ i j, Worth (heldD (.tup [.int i, .int j])) := fun i j => by
    by_cases h : TT ≤ absI i ∨ TT ≤ absI j
    · rw [held_p1 h]; exact .str _
    · rw [not_or] at h
      rw [held_p0 h.1 h.2]; exact .pair _ _
  cases ha <;> cases hb <;> simp only [ei_w, ei_s, ei_l, ei_g, ei_ls, ei_gs, ei_n, ei_n' .non, ei_n' (.int _), ei_n' (.pair _ _)] <;> (repeat' split) <;> first | exact .non | exact hi _ | exact hp _ _
set_option maxHeartbeats 4000000 in
theorem law_in (DD : DEnds) (c0 : Cell) : ∀ (ws : List D) (c2 c3 c4 c5 c6 : Cell), (∀ d ∈ ws, wordB d = true) → (∀ c3 c4 c5 c6, DD.nx [c0, .opq true PenOk, c2, c3, c4, c5, c6]) →
    forL (fun d DD env => gN 3 d env fun env2 => t_law_1 sp_l_alike sp_either sp_l_ought sp_l_near sp_l_drawn DD env2) ws DD [c0, .opq true PenOk, c2, c3, c4, c5, c6]
  | [], c2, c3, c4, c5, c6, hw, h => by
    walk_at "fn"
    exact h c3 c4 c5 c6
  | d :: r, c2, c3, c4, c5, c6, hw, h => by
    have ih := fun c3 c4 c5 c6 => law_in DD c0 r c2 c3 c4 c5 c6 (fun d m => hw d (List.mem_cons_of_mem _ m)) h
    have hd := hw d List.mem_cons_self
    walk_at "fc"
    walk_at "ei"
    rename_i d1 h1 d2 h2 d3 h3 o ho x hx
    have hw0 : Worth o := by
      obtain ⟨o', e1, e2⟩ := ei_ok h1 h3
      rw [ho, e1]; exact e2
    refine ⟨⟨hx.trans ho.symm, hw0⟩, ?_⟩
    walk_at "w"
    walk_at "ei"
    rename_i y hy
    refine ⟨⟨hy.trans (((congrArg heldD (ei_comm h3 h1)).trans ho.symm)), hw0⟩, ?_⟩
    walk_at "w"
    exact ih _ _ _ _
set_option maxHeartbeats 4000000 in
theorem law_out (DD : DEnds) (c0 : Cell) : ∀ (ds : List D) (c2 c3 c4 c5 c6 : Cell), (∀ c2 c3 c4 c5 c6, DD.nx [c0, .opq true PenOk, c2, c3, c4, c5, c6]) →
    forL (fun d DD env => gN 2 d env fun env2 => t_law_2 sp_l_alike sp_either sp_l_ought sp_l_near sp_l_drawn DD env2) ds DD [c0, .opq true PenOk, c2, c3, c4, c5, c6]
  | [], c2, c3, c4, c5, c6, h => by
    walk_at "fn"
    exact h c2 c3 c4 c5 c6
  | d :: r, c2, c3, c4, c5, c6, h => by
    have ih := fun c2 c3 c4 c5 c6 => law_out DD c0 r c2 c3 c4 c5 c6 h
    walk_at "fc"
    walk_at "ei"
    refine law_in _ _ _ _ _ _ _ _ (fun d m => ?_) fun c3 c4 c5 c6 => ih _ c3 c4 c5 c6
    have m : d ∈ words6 := m
    simp only [words6, List.mem_cons, List.not_mem_nil, or_false] at m
    rcases m with rfl | rfl | rfl | rfl | rfl | rfl <;> decide
def sp_law : FSpec := fun cs Q => ∃ ns : List Int, cs = [.val (.scr (ns.map D.int))] ∧ Q (.bl true) [.none]
set_option maxHeartbeats 4000000 in
theorem ok_law (T : Txt K mg) : K_law P w base T 4 sp_law :=
  okD T.F_law sc_law fun cdv A outer s H E B cs Q hr hl hs => ⟨_, d_law T (ok_l_alike T) (by decide) (ok_either T) (by decide) (ok_l_ought T) (by decide) (ok_l_near T) (by decide) (ok_l_drawn T) (by decide) hr, by
    obtain ⟨ns, rfl, hq⟩ := hs
    walk_at "w"
    walk_at "ei"
    refine ⟨pen_start ns none _ 0 0, ?_⟩
    walk_at "w"
    walk_at "ei"
    refine law_out _ _ _ _ _ _ _ _ fun c2 c3 c4 c5 c6 => ?_
    walk_at "w"
    exact ⟨[.none], rfl, ⟨trivial, outs_nil⟩, hq⟩⟩
abbrev LV := 4
theorem law_asks (ns : List Int) (hl : ns.length ≤ 63) : sp_law [.val (.scr (ns.map D.int))] (fun d _ => d = .bl true) := ⟨ns, rfl, rfl⟩
end
end Y

open PySem PySem.W PyProof.Rows
set_option maxRecDepth 100000 in
set_option maxHeartbeats 0 in
theorem PySem.Challenge.cw_roomtables_k12_either_holds : PySem.Challenge.rw_roomtables_k12_either.Holds := by
  w_on; o_law; k_head; (case hw => w_witness2)
  k_fill
  refine L2.walk_of (l := PySem.Challenge.rw_roomtables_k12_either) (n := 63) (k := Y.LV) (x := "_law_script") (CX := fun _ => L2.CX0) (sp := fun w => L2.DL.spD _ 1 Y.sp_law) rfl (by decide) rfl ⟨rfl, by decide, by decide⟩ (fun w h Y => PySem.W.kIn_of Y) ?F (fun _ H a ns hl _ hS => L2.DL.law_start hS (Y.law_asks ns hl)) (fun _ _ _ _ _ h => h)
  case F =>
    intro w mg fa h KX G hmg
    obtain ⟨T, hl, hb⟩ : ∃ T : Y.Txt _ mg, mg "law" = some (.ref T.f_law) ∧ ∀ (s : Shared) (v : Value), BindsTo s T.d_law ⟨[v], []⟩ [("_law_script", v)] := by
      refine' Y.txt_mk KX G ?a0 ?l0 ?c0 ?k0 ?a1 ?l1 ?c1 ?k1 ?a2 ?l2 ?c2 ?k2 ?a3 ?l3 ?c3 ?k3 ?a4 ?l4 ?c4 ?k4 ?a5 ?l5 ?c5 ?k5 ?a6 ?l6 ?c6 ?k6 ?a7 ?l7 ?c7 ?k7 ?a8 ?l8 ?c8 ?k8 ?a9 ?l9 ?c9 ?k9 ?a10 ?l10 ?c10 ?k10 ?a11 ?l11 ?c11 ?k11 ?a12 ?l12 ?c12 ?k12 ?a13 ?l13 ?c13 ?k13 ?m_GREAT ?m_PAIRED ?n_PAIRED ?m_COUNTING ?n_COUNTING ?z_abs ?z_isinstance ?z_tuple ?z_int ?z_len ?z_max ?z_bool ?z_str ?z_list ?z_min ?z_sorted ?z_range
      (case a0 => k_is)
      (case l0 => k_is)
      (case c0 => k_is)
      (case k0 => k_is)
      (case a1 => k_is)
      (case l1 => k_is)
      (case c1 => k_is)
      (case k1 => k_is)
      (case a2 => k_is)
      (case l2 => k_is)
      (case c2 => k_is)
      (case k2 => k_is)
      (case a3 => k_is)
      (case l3 => k_is)
      (case c3 => k_is)
      (case k3 => k_is)
      (case a4 => k_is)
      (case l4 => k_is)
      (case c4 => k_is)
      (case k4 => k_is)
      (case a5 => k_is)
      (case l5 => k_is)
      (case c5 => k_is)
      (case k5 => k_is)
      (case a6 => k_is)
      (case l6 => k_is)
      (case c6 => k_is)
      (case k6 => k_is)
      (case a7 => k_is)
      (case l7 => k_is)
      (case c7 => k_is)
      (case k7 => k_is)
      (case a8 => k_is)
      (case l8 => k_is)
      (case c8 => k_is)
      (case k8 => k_is)
      (case a9 => k_is)
      (case l9 => k_is)
      (case c9 => k_is)
      (case k9 => k_is)
      (case a10 => k_is)
      (case l10 => k_is)
      (case c10 => k_is)
      (case k10 => k_is)
      (case a11 => k_is)
      (case l11 => k_is)
      (case c11 => k_is)
      (case k11 => k_is)
      (case a12 => k_is)
      (case l12 => k_is)
      (case c12 => k_is)
      (case k12 => k_is)
      (case a13 => k_is)
      (case l13 => k_is)
      (case c13 => k_is)
      (case k13 => k_is)
      (case m_GREAT => k_is)
      (case m_PAIRED => k_is)
      (case n_PAIRED => k_is)
      (case m_COUNTING => k_is)
      (case n_COUNTING => k_is)
      (case z_abs => k_is)
      (case z_isinstance => k_is)
      (case z_tuple => k_is)
      (case z_int => k_is)
      (case z_len => k_is)
      (case z_max => k_is)
      (case z_bool => k_is)
      (case z_str => k_is)
      (case z_list => k_is)
      (case z_min => k_is)
      (case z_sorted => k_is)
      (case z_range => k_is)
    have e := hmg.symm.trans hl
    cases e
    exact ⟨T.d_law, hb, fun base _ _ => Y.ok_law T⟩

