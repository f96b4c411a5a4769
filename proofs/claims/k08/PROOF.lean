import PyProof.Rows.All
import Wide.All
import OpenK.AllK
import Wide.FinOn
import HandS.ForMost
import HandS.IsInst
import HandS.TupAny
import HandS.Wide
import HandS.Flow
import HandS.TryOnly
import HandS.Codes
import PyProof.StrOps2
import HandS.Exc
import HandS.ExcOwn
import HandS.WordsExc
import KE.KDictKeyed
import KE.KeyNested
import HandS.Sort
import HandS.SortOrd
import HandS.DeepEq
import HandS.DictComp
import HandS.More
import HandS.Style
import KE.BitLaws
import KE.GoesEnum
import HandS.Replace
import HandS.Small
import HandS.Strs
import HandS.Dict
import HandS.TupMul
import KE.KDictCopyH
import HandS.Deep
import KE.KDictDisplayH
import HandS.TupLe
import KE.SortData
import HandS.Head0
import HandS.Head1
import HandS.Head2
import HandS.HeadEnd
import HandS.HeadHook1
import HandS.HeadHook2
import HandS.HeadHook3
import HandS.ExcIs
import HandS.TryMany
import KE.DataMinMax
import PyProof.Rows.RowBridgeK
import PySem.Challenge.RW_roomtables_k08_no_programs
set_option Elab.async false
set_option linter.all false
set_option autoImplicit false
set_option maxRecDepth 100000
namespace L2.DL
open PySem PySem.Spec PyProof.Rows

/-! ### room, and no repr under way -/
structure Rm (k : Nat) (A : Around) : Prop extends L2.Room k A where
  gd : A.guards = some []
instance {k : Nat} {A : Around} : Coe (Rm k A) (L2.Room k A) := ⟨Rm.toRoom⟩
section
variable {j k : Nat} {A : Around}
theorem Rm.mono (r : Rm k A) (h : j ≤ k) : Rm j A := { toRoom := r.toRoom.mono h, gd := r.gd }
theorem Rm.deeper (r : Rm (k + 1) A) (env : Env) : Rm k (A.deeper env) := { toRoom := r.toRoom.deeper env, gd := r.gd }
theorem Rm.make (r : Rm (k + 1) A) (C : Addr) (us : List Value) (kw : List (Str × Value)) : Rm k (A.under (.builtin "type.__call__" ⟨.ref C :: us, kw⟩)) where
  toRoom := r.toRoom.make C us kw
  gd := by
    have g0 : (Code.builtin "type.__call__" ⟨.ref C :: us, kw⟩).isGuard = false := by
      show guardIds.contains "type.__call__" = false
      decide +kernel
    show pushGuards (Code.guards (.builtin "type.__call__" ⟨.ref C :: us, kw⟩)) A.guards = some []
    unfold Code.guards
    rw [g0]
    exact r.gd
end
/-- what a def keeps, called where no repr is under way; what it raises is told by the promise -/
structure Fk (P : Program) (w : World) (K : PySem.W.Frag) (mg : Str → Option Value) (base : Heap) (k : Nat) (f : Addr) (fd : FuncData) (ps : List Str) (sp : Sp) : Prop where
  many : ∀ {vs : List V} {H : Hp} {Q : VK} {E : XK}, sp vs H Q E → vs.length = ps.length
  runs : ∀ {A : Around} {outer : List Env} {s : Shared} {H : Hp} {as : Args} {us : List Value} {vs : List V} {Q : VK} {E : XK}, Rm k A → Env0 P w K mg base A outer s H → BindsTo s fd as (ps.zip us) → Vals vs us → sp vs H Q E →
    codeAny (model P w) A (.call (.ref f) as) (CR (L2.CX P w) outer P w H s Q E) s
theorem Fk.imp {P : Program} {w : World} {K : PySem.W.Frag} {mg : Str → Option Value} {base : Heap} {k : Nat} {f : Addr} {fd : FuncData} {ps : List Str} {sp sp2 : Sp} (G : Fk P w K mg base k f fd ps sp) (h : ∀ vs H Q E, sp2 vs H Q E → sp vs H Q E) : Fk P w K mg base k f fd ps sp2 where
  many := fun q => G.many (h _ _ _ _ q)
  runs := fun r e b v q => G.runs r e b v (h _ _ _ _ q)
theorem Fk.up {P : Program} {w : World} {K : PySem.W.Frag} {mg : Str → Option Value} {base : Heap} {j k : Nat} {f : Addr} {fd : FuncData} {ps : List Str} {sp : Sp} (G : Fk P w K mg base j f fd ps sp) (h : j ≤ k) : Fk P w K mg base k f fd ps sp where
  many := G.many
  runs := fun r e b v q => G.runs (r.mono h) e b v q
section
variable {P : Program} {w : World} {K : PySem.W.Frag} {mg : Str → Option Value} {base : Heap}
/-- the body's reading makes the promise -/
theorem _root_.L2.Fun.fk {x qual : Str} {st : Stmt} {f : Addr} {fd : FuncData} {N ps : List Str} {k : Nat} {sp : Sp} (F : Fun K x qual st f fd) (S : FnScope N ps (defScope st)) (many : ∀ vs H Q E, sp vs H Q E → vs.length = ps.length)
    (body : ∀ (cdv : Value) (A : Around) (outer : List Env) (s : Shared) (H : Hp) (vs : List V) (Q : VK) (E : XK), Rm k (A.deeper (envOfC qual (defScope st) s.heap.objs.size f cdv)) → sp vs H Q E →
      ∃ t, PSs (cxOf (L2.CX P w) P w K mg base N qual (defScope st) f cdv A outer s H E) (defBody st) t ∧ t { nx := fun _ H' => Q .non H', rt := Q } (start N vs) H) : Fk P w K mg base (k + 1) f fd ps sp where
  many := fun q => many _ _ _ _ q
  runs := by
    intro A outer s H as us vs Q E room e0 bind vals q
    obtain ⟨oc, od, kV, doc, pm, an, cdv, ct, osl, rfl, look, code⟩ := F.ex
    have len := many vs H Q E q
    have KX : K.In s.heap := e0.mod.kin.keeps fun b o z => (e0.bs b o z).1
    have free : s.heap.NoLimit := e0.mod.nolimit.keeps fun b o z => (e0.bs b o z).1
    refine codeAny_call_function room.toRoom.depth (KX _ _ look) rfl S.co S.gen rfl (PySem.W.codeRec_of KX code) (bind _ _ _ _ (wpAny_newFunctionEnv_cells S.kind (fun p hp => ?_) fun env he s1 inside => ?_))
    · rcases S.par p.1 (List.of_mem_zip hp).1 with z | z
      · exact Or.inl z
      · exact Or.inr ⟨z, PySem.W.cellsFrom_some _ _ _ (Or.inl z)⟩
    · cases he
      obtain ⟨t, d, tq⟩ := body cdv A outer s H vs Q E (room.deeper _) q
      have start_ := inv_start (CX := L2.CX P w) (E := E) S room.hd e0 len vals inside
      refine ⟨free.keeps inside.toInCall.keep, codeAny_func (wpAny_mono (d.run [] s1 (start N vs) H _ start_ tq) (fun fl s2 hs => ?_) fun _ _ z => z)⟩
      cases fl with
      | next => obtain ⟨_, H2, J, z⟩ := hs; exact ⟨.non, H2, J.os, J.bare, J.base, J.hok, rfl, z⟩
      | ret u => obtain ⟨v, _, H2, J, rv, z⟩ := hs; exact ⟨v, H2, J.os, J.bare, J.base, J.hok, rv, z⟩
      | brk => obtain ⟨_, _, _, z⟩ := hs; cases z
      | cont => obtain ⟨_, _, _, z⟩ := hs; cases z
end
/-! ### calls -/
def tMethS (C : Addr) (m : Str) (sp : Sp) (E : St → XK) (ta : TE) (t : TA) : TE := fun σ H Q => ta σ H fun x H1 => ∃ a dx fs, x = .ref a ∧ H1 a = some (.ins C dx fs) ∧ fs.lookup m = none ∧ t σ H1 fun vs H2 => sp (x :: vs) H2 Q (E σ)
def tMakeS (C : Addr) (sp : Sp) (E : St → XK) (t : TA) : TE := fun σ H Q => t σ H fun vs H1 => ∀ x dx, H1 x = none → H1 dx = none → dx ≠ x → sp (.ref x :: vs) (upd (upd H1 dx (.own x)) x (.ins C dx [])) (fun v H2 => v = .non ∧ Q (.ref x) H2) (E σ)
/-- what a call may let out is taken -/
abbrev Lets (X : Cx) (E : St → XK) : Prop := ∀ σ, PassesAt (L2.CX X.prog X.w) X σ (E σ)
theorem lets0 {X : Cx} : Lets X fun _ => E0 := fun _ _ _ _ _ _ _ c => by
  obtain ⟨_, _, _, _, _, _, _, _, _, _, _, _, z⟩ := c
  cases z
section
variable {X : Cx} {k : Nat} {f C : Addr} {fd : FuncData} {ps : List Str} {sp : Sp} {E : St → XK} {x m : Str} {p pos apos : Pos} {e o : Expr} {es : List Expr} {ta : TE} {t : TA}
theorem run_fk {pins : List (Addr × Obj)} {σ : St} {H : Hp} {s : Shared} {Q : VK} {us : List Value} {vs : List V} (G : Fk X.prog X.w X.K X.mg X.base k f fd ps sp) (room : Rm k X.A) (bind : Binds X.K fd ps []) (lets : PassesAt (L2.CX X.prog X.w) X σ (E σ))
    (I : Inv X pins σ H s) (vals : Vals vs us) (q : sp vs H Q (E σ)) : wpAny (model X.prog X.w) X.A (call (.ref f) us) (EP X pins σ Q) X.xe s := by
  have b := bind s us I.kIn (by rw [List.append_nil, ← vals.length]; exact G.many q)
  rw [List.append_nil] at b
  refine wpAny_call (codeAny_mono (G.runs room I.env0 b vals q) fun r s2 z => ?_)
  match r, z with
  | .error u, z => exact lets pins H s u s2 I z
  | .ok (.ret u), z => exact I.after z
theorem pk_call (G : Fk X.prog X.w X.K X.mg X.base k f fd ps sp) (room : Rm k X.A) (gl : Gl X x) (at_ : X.mg x = some (.ref f)) (kp : PySem.W.keepIn X.K (.ref f) = true) (bind : Binds X.K fd ps []) (lets : Lets X E)
    (args : PA X (e :: es) t) (dbg : (x == ("__debug__" : Str)) = false := by decide) (st : starEach (e :: es) X.env = (false, eval e X.env) :: starEach es X.env := by rfl) (pl : (backTo pos (starEach es X.env)).any (·.1) = false := by rfl) :
    PE X (.Call (.Name x p) (e :: es) [] pos) (tCallS sp E t) where
  run := fun pins s σ H Q I h => wpAny_Call_Name_kw (ld_glob I gl at_ (PySem.W.callWith_K (h₀ := X.base) I.ok.mod.kin kp (thn (args.run pos pins s σ H _ I h) fun us s1 ⟨vs, H1, I1, r, q⟩ => ⟨I1.kIn, run_fk G room bind (lets σ) I1 r q⟩) st pl) dbg)
theorem pk_call0 (G : Fk X.prog X.w X.K X.mg X.base k f fd ps sp) (room : Rm k X.A) (gl : Gl X x) (at_ : X.mg x = some (.ref f)) (kp : PySem.W.keepIn X.K (.ref f) = true) (bind : Binds X.K fd ps []) (lets : Lets X E) (dbg : (x == ("__debug__" : Str)) = false := by decide) :
    PE X (.Call (.Name x p) [] [] pos) (tCallS sp E tNil) where
  run := fun pins s σ H Q I h => wpAny_Call_Name_kw (ld_glob I gl at_ (PySem.W.callWith_K0 I.kIn kp (run_fk (us := []) G room bind (lets σ) I .nil h)) dbg)
theorem pk_meth {pl : Sem Bool} (ob : PE X o ta) (c : Cls X.K C) (mt : Meth X.K C m f) (G : Fk X.prog X.w X.K X.mg X.base k f fd ps sp) (room : Rm k X.A) (bind : Binds X.K fd ps []) (lets : Lets X E) (args : PA X (e :: es) t)
    (st : starEach (e :: es) X.env = (false, eval e X.env) :: starEach es X.env := by rfl) (plain : (backTo pos (starEach es X.env)).any (·.1) = false := by rfl)
    (form : eval (.Call (.Attribute o m apos) (e :: es) [] pos) X.env = (do
      let v ← eval o X.env
      standAt apos.atName
      let (g, one) ← holding [v] (getMethod v m pl)
      callWith pos g one (backTo pos (starEach (e :: es) X.env)) (backToKw pos (keywordEach [] X.env))) := by rfl) : PE X (.Call (.Attribute o m apos) (e :: es) [] pos) (tMethS C m sp E ta t) where
  run := fun pins s σ H Q I h => PySem.W.methodCall_KW (pl := pl) (thn (ob.run pins s σ H _ I h) fun u s1 ⟨x, H1, I1, rx, a, dx, fs, ex, ea, l, q⟩ => by
    subst ex
    obtain rfl : u = Value.ref a := rx
    exact getmeth_ok I1 ea c mt l (PySem.W.callWith_K (first := [.ref a]) (h₀ := X.base) I.ok.mod.kin mt.kp (thn (args.run pos pins s1 σ H1 _ I1 q) fun us s2 ⟨vs, H2, I2, r, q2⟩ => ⟨I2.kIn, run_fk (us := .ref a :: us) (vs := .ref a :: vs) G room bind (lets σ) I2 (.cons rfl r) q2⟩) st plain)) form
theorem pk_meth0 {pl : Sem Bool} (ob : PE X o ta) (c : Cls X.K C) (mt : Meth X.K C m f) (G : Fk X.prog X.w X.K X.mg X.base k f fd ps sp) (room : Rm k X.A) (bind : Binds X.K fd ps []) (lets : Lets X E)
    (form : eval (.Call (.Attribute o m apos) [] [] pos) X.env = (do
      let v ← eval o X.env
      standAt apos.atName
      let (g, one) ← holding [v] (getMethod v m pl)
      callWith pos g one (backTo pos (starEach [] X.env)) (backToKw pos (keywordEach [] X.env))) := by rfl) : PE X (.Call (.Attribute o m apos) [] [] pos) (tMethS C m sp E ta tNil) where
  run := fun pins s σ H Q I h => PySem.W.methodCall_KW (pl := pl) (thn (ob.run pins s σ H _ I h) fun u s1 ⟨x, H1, I1, rx, a, dx, fs, ex, ea, l, q⟩ => by
    subst ex
    obtain rfl : u = Value.ref a := rx
    exact getmeth_ok I1 ea c mt l (PySem.W.callWith_K0 (first := [.ref a]) I1.kIn mt.kp (run_fk (us := [.ref a]) (vs := [.ref a]) G room bind (lets σ) I1 (.cons rfl .nil) q))) form
theorem run_mk {pins : List (Addr × Obj)} {σ : St} {H : Hp} {s : Shared} {Q : VK} {us : List Value} {vs : List V} (M : Mk X.K C f) (G : Fk X.prog X.w X.K X.mg X.base k f fd ps sp) (room : Rm (k + 1) X.A) (bind : Binds X.K fd ps [])
    (lets : PassesAt (L2.CX X.prog X.w) X σ (E σ)) (I : Inv X pins σ H s) (vals : Vals vs us)
    (q : ∀ x dx, H x = none → H dx = none → dx ≠ x → sp (.ref x :: vs) (upd (upd H dx (.own x)) x (.ins C dx [])) (fun v H2 => v = .non ∧ Q (.ref x) H2) (E σ)) : wpAny (model X.prog X.w) X.A (call (.ref C) us) (EP X pins σ Q) X.xe s := by
  have hq := q (s.heap.objs.size + 1) s.heap.objs.size (I.hok.fresh (Nat.le_succ _)) (I.hok.fresh (Nat.le_refl _)) (Nat.ne_of_lt (Nat.lt_succ_self _))
  have J := Inv.made (C := C) I
  have vals2 : Vals (V.ref (s.heap.objs.size + 1) :: vs) (Value.ref (s.heap.objs.size + 1) :: us) := .cons rfl vals
  have b := bind _ (Value.ref (s.heap.objs.size + 1) :: us) J.kIn (by rw [List.append_nil, ← vals2.length]; exact G.many hq)
  rw [List.append_nil] at b
  refine wpAny_call (make_map (f := f) I.kIn M.makes M.init (beq_iff_eq.mp M.fn) (codeAny_mono (G.runs (room.make C us []) (J.env0.make C us []) b vals2 hq) fun r s2 z => ?_))
  match r, z with
  | .error u, z => exact lets pins _ _ u s2 J z
  | .ok (.ret u), z =>
    obtain ⟨v, H2, I2, rv, ev, q3⟩ := J.after z
    subst ev
    exact ⟨rv, V.ref (s.heap.objs.size + 1), H2, I2, rfl, q3⟩
theorem pk_make (M : Mk X.K C f) (G : Fk X.prog X.w X.K X.mg X.base k f fd ps sp) (room : Rm (k + 1) X.A) (gl : Gl X x) (at_ : X.mg x = some (.ref C)) (bind : Binds X.K fd ps []) (lets : Lets X E)
    (args : PA X (e :: es) t) (dbg : (x == ("__debug__" : Str)) = false := by decide) (st : starEach (e :: es) X.env = (false, eval e X.env) :: starEach es X.env := by rfl) (pl : (backTo pos (starEach es X.env)).any (·.1) = false := by rfl) :
    PE X (.Call (.Name x p) (e :: es) [] pos) (tMakeS C sp E t) where
  run := fun pins s σ H Q I h => wpAny_Call_Name_kw (ld_glob I gl at_ (PySem.W.callWith_K (h₀ := X.base) I.ok.mod.kin M.kp (thn (args.run pos pins s σ H _ I h) fun us s1 ⟨vs, H1, I1, r, q⟩ => ⟨I1.kIn, run_mk M G room bind (lets σ) I1 r q⟩) st pl) dbg)
end
end L2.DL

namespace L2.DL
open PySem PySem.Spec PyProof.Rows
/-- what stands fixed: the facts that are kept, the program, the world -/
structure KW where
  K : PySem.W.Frag
  P : Program
  w : World
  mg : Str → Option Value
instance : Coe KW PySem.W.Frag := ⟨KW.K⟩
@[reducible] def _root_.L2.Cx.kw (X : Cx) : KW := ⟨X.K, X.prog, X.w, X.mg⟩

/-! ### data without addresses -/
inductive D where
  | non | bl (b : Bool) | int (i : Int) | str (x : Str) | atm (v : V)
  | tup (xs : List D) | lst (xs : List D) | dct (kvs : List (Key × D)) | scr (xs : List D) | dcn (kvs : List (D × D)) | ins (n : Str) (fs : List (Str × D))

/-! ### dicts whose keys are tuples, of any depth -/
def NdRel (p : NestedKey × Addr × V) (q : NestedKey × Addr × Value) : Prop := p.1 = q.1 ∧ p.2.1 = q.2.1 ∧ RelV p.2.2 q.2.2
def ndEntry (w : World) (x : NestedKey × Addr × Value) : DictEntry := ⟨x.1.hash w, .ref x.2.1, x.2.2⟩
/-- what such a dict's own object is -/
def NdOk (w : World) (a : Addr) (o : Obj) (kvs : List (NestedKey × Addr × V)) (h : Heap) : Prop := kvs.length ≤ sizeLine ∧ (a == sysModules) = false ∧ ∃ xs : List (NestedKey × Addr × Value), Paired NdRel kvs xs ∧
  ∃ es ep, h.get? a = some o ∧ o.ExactDict ∧ o.data = .dict es ep ∧ es.toList = xs.map (ndEntry w) ∧ (xs.map (·.1)).Nodup
def NdO (w : World) (a : Addr) (o : Obj) (kvs : List (NestedKey × Addr × V)) : HO := .ext (NdOk w a o kvs)
mutual
/-- a key -/
def nkey : D → Option NestedKey
  | .non => some .none
  | .int i => some (.num i)
  | .str x => some (.text x)
  | .tup ds => (nkeys ds).map .tup
  | .bl _ => none
  | .atm _ => none
  | .lst _ => none
  | .dct _ => none
  | .scr _ => none
  | .dcn _ => none
  | .ins _ _ => none
def nkeys : List D → Option (List NestedKey)
  | [] => some []
  | d :: r => match nkey d, nkeys r with
    | some k, some ks => some (k :: ks)
    | _, _ => none
end
mutual
inductive Rp (K : KW) (F : Hp) : V → D → Prop
  | non : Rp K F .non .non
  | bl (b : Bool) : Rp K F (.bl b) (.bl b)
  | int (i : Int) : Rp K F (.int i) (.int i)
  | str (x : Str) : Rp K F (.str x) (.str x)
  | atm (v : V) : Rp K F v (.atm v)
  | tup {a : Addr} {vs : List V} {ds : List D} : SqT K F a vs → RpA K F vs ds → Rp K F (.ref a) (.tup ds)
  | lst {a : Addr} {vs : List V} {ds : List D} : F a = some (.lst vs) → RpA K F vs ds → Rp K F (.ref a) (.lst ds)
  | scr {a : Addr} {vs : List V} {ds : List D} : SqL K F a vs → RpA K F vs ds → Rp K F (.ref a) (.scr ds)
  | dct {a : Addr} {kvs : List (Key × V)} {ds : List (Key × D)} : F a = some (.dK kvs) → RpK K F kvs ds → Rp K F (.ref a) (.dct ds)
  | dcn {a : Addr} {o : Obj} {kvs : List (NestedKey × Addr × V)} {ds : List (D × D)} : F a = some (NdO K.w a o kvs) → RpN K F kvs ds → Rp K F (.ref a) (.dcn ds)
  | ins {n : Str} {a C dx : Addr} {vs : List (Str × V)} {ds : List (Str × D)} : K.mg n = some (.ref C) → F a = some (.ins C dx vs) → RpF K F vs ds → Rp K F (.ref a) (.ins n ds)
inductive RpA (K : KW) (F : Hp) : List V → List D → Prop
  | nil : RpA K F [] []
  | cons {v : V} {d : D} {vs : List V} {ds : List D} : Rp K F v d → RpA K F vs ds → RpA K F (v :: vs) (d :: ds)
inductive RpK (K : KW) (F : Hp) : List (Key × V) → List (Key × D) → Prop
  | nil : RpK K F [] []
  | cons {k : Key} {v : V} {d : D} {vs : List (Key × V)} {ds : List (Key × D)} : Rp K F v d → RpK K F vs ds → RpK K F ((k, v) :: vs) ((k, d) :: ds)
inductive RpN (K : KW) (F : Hp) : List (NestedKey × Addr × V) → List (D × D) → Prop
  | nil : RpN K F [] []
  | cons {k : NestedKey} {b : Addr} {v : V} {d e : D} {vs : List (NestedKey × Addr × V)} {ds : List (D × D)} : nkey d = some k ∧ k.depth ≤ 8 → Rp K F (.ref b) d → Rp K F v e → RpN K F vs ds → RpN K F ((k, b, v) :: vs) ((d, e) :: ds)
inductive RpF (K : KW) (F : Hp) : List (Str × V) → List (Str × D) → Prop
  | nil : RpF K F [] []
  | cons {x : Str} {v : V} {d : D} {vs : List (Str × V)} {ds : List (Str × D)} : Rp K F v d → RpF K F vs ds → RpF K F ((x, v) :: vs) ((x, d) :: ds)
end

section
variable {K : KW} {F F' H H' : Hp} {v : V} {d : D} {vs : List V} {ds : List D}
theorem same_rd {a : Addr} {u : HO} (s : Same F F') (h : Rd F a u) : Rd F' a u := by
  rcases h with h | ⟨o, h⟩
  · exact .inl (s _ _ h)
  · exact .inr ⟨o, s _ _ h⟩
theorem same_sqT {a : Addr} {xs : List V} (s : Same F F') (h : SqT K F a xs) : SqT K F' a xs := by
  rcases h with h | h
  · exact .inl (same_rd s h)
  · exact .inr h
theorem Rp.mono (s : Same F F') (h : Rp K F v d) : Rp K F' v d :=
  Rp.rec (motive_1 := fun v d _ => Rp K F' v d) (motive_2 := fun vs ds _ => RpA K F' vs ds) (motive_3 := fun vs ds _ => RpK K F' vs ds) (motive_4 := fun vs ds _ => RpN K F' vs ds) (motive_5 := fun vs ds _ => RpF K F' vs ds)
    .non .bl .int .str .atm (fun h _ ih => .tup (same_sqT s h) ih) (fun h _ ih => .lst (s _ _ h) ih) (fun h _ ih => .scr (s.seq h) ih) (fun h _ ih => .dct (s _ _ h) ih) (fun h _ ih => .dcn (s _ _ h) ih) (fun m h _ ih => .ins m (s _ _ h) ih)
    .nil (fun _ _ i1 i2 => .cons i1 i2) .nil (fun _ _ i1 i2 => .cons i1 i2) .nil (fun q _ _ _ i1 i2 i3 => .cons q i1 i2 i3) .nil (fun _ _ i1 i2 => .cons i1 i2) h
theorem RpA.mono (s : Same F F') : ∀ {vs : List V} {ds : List D}, RpA K F vs ds → RpA K F' vs ds
  | _, _, .nil => .nil
  | _, _, .cons h t => .cons (h.mono s) (RpA.mono s t)
theorem RpK.mono (s : Same F F') : ∀ {vs : List (Key × V)} {ds : List (Key × D)}, RpK K F vs ds → RpK K F' vs ds
  | _, _, .nil => .nil
  | _, _, .cons h t => .cons (h.mono s) (RpK.mono s t)
theorem RpN.mono (s : Same F F') : ∀ {vs : List (NestedKey × Addr × V)} {ds : List (D × D)}, RpN K F vs ds → RpN K F' vs ds
  | _, _, .nil => .nil
  | _, _, .cons q h g t => .cons q (h.mono s) (g.mono s) (RpN.mono s t)
theorem RpF.mono (s : Same F F') : ∀ {vs : List (Str × V)} {ds : List (Str × D)}, RpF K F vs ds → RpF K F' vs ds
  | _, _, .nil => .nil
  | _, _, .cons h t => .cons (h.mono s) (RpF.mono s t)
theorem RpF.get {x : Str} : ∀ {vs : List (Str × V)} {ds : List (Str × D)} {d : D}, RpF K F vs ds → ds.lookup x = some d → ∃ v, vs.lookup x = some v ∧ Rp K F v d
  | _, _, _, .nil, e => by cases e
  | _, _, d, .cons (x := y) h t, e => by
    rw [List.lookup_cons] at e ⊢
    split at e
    · cases e; exact ⟨_, rfl, h⟩
    · exact RpF.get t e
theorem RpF.none {x : Str} : ∀ {vs : List (Str × V)} {ds : List (Str × D)}, RpF K F vs ds → ds.lookup x = Option.none → vs.lookup x = Option.none
  | _, _, .nil, _ => rfl
  | _, _, .cons (x := y) h t, e => by
    rw [List.lookup_cons] at e ⊢
    split at e
    · cases e
    · exact RpF.none t e
theorem RpN.length : ∀ {vs : List (NestedKey × Addr × V)} {ds : List (D × D)}, RpN K F vs ds → vs.length = ds.length
  | _, _, .nil => rfl
  | _, _, .cons _ _ _ t => by rw [List.length_cons, List.length_cons, RpN.length t]
theorem RpA.length : ∀ {vs : List V} {ds : List D}, RpA K F vs ds → vs.length = ds.length
  | _, _, .nil => rfl
  | _, _, .cons _ t => by rw [List.length_cons, List.length_cons, RpA.length t]
theorem RpK.length : ∀ {vs : List (Key × V)} {ds : List (Key × D)}, RpK K F vs ds → vs.length = ds.length
  | _, _, .nil => rfl
  | _, _, .cons _ t => by rw [List.length_cons, List.length_cons, RpK.length t]
theorem RpA.get : ∀ {vs : List V} {ds : List D} {i : Nat} {d : D}, RpA K F vs ds → ds[i]? = some d → ∃ v, vs[i]? = some v ∧ Rp K F v d
  | _, _, _, _, .nil, e => by simp at e
  | _, _, 0, _, .cons h _, e => by simp at e; subst e; exact ⟨_, rfl, h⟩
  | _, _, i + 1, d, .cons _ t, e => by
    obtain ⟨u, h1, h2⟩ := RpA.get (i := i) (d := d) t (by simpa using e)
    exact ⟨u, by simpa using h1, h2⟩
theorem RpA.append : ∀ {vs ws : List V} {ds es : List D}, RpA K F vs ds → RpA K F ws es → RpA K F (vs ++ ws) (ds ++ es)
  | _, _, _, _, .nil, s => s
  | _, _, _, _, .cons r t, s => .cons r (RpA.append t s)
theorem RpA.take : ∀ {vs : List V} {ds : List D} (n : Nat), RpA K F vs ds → RpA K F (vs.take n) (ds.take n)
  | _, _, 0, _ => .nil
  | _, _, _ + 1, .nil => .nil
  | _, _, n + 1, .cons r t => .cons r (RpA.take n t)
theorem RpA.drop : ∀ {vs : List V} {ds : List D} (n : Nat), RpA K F vs ds → RpA K F (vs.drop n) (ds.drop n)
  | _, _, 0, r => r
  | _, _, _ + 1, .nil => .nil
  | _, _, n + 1, .cons _ t => RpA.drop n t
theorem RpA.set (h : Rp K F v d) : ∀ {vs : List V} {ds : List D} (i : Nat), RpA K F vs ds → RpA K F (vs.set i v) (ds.set i d)
  | _, _, _, .nil => .nil
  | _, _, 0, .cons _ t => .cons h t
  | _, _, i + 1, .cons q t => .cons q (RpA.set h i t)
theorem RpA.one (h : Rp K F v d) : RpA K F [v] [d] := .cons h .nil
theorem RpA.ints : ∀ ns : List Int, RpA K F (ns.map V.int) (ns.map D.int)
  | [] => .nil
  | _ :: r => .cons (.int _) (RpA.ints r)
theorem RpA.of_ints : ∀ {ns : List Int} {vs : List V}, RpA K F vs (ns.map D.int) → vs = ns.map V.int
  | [], _, .nil => rfl
  | n :: r, _, .cons h t => by
    cases h
    rw [RpA.of_ints t]; rfl
theorem RpA.of_strs : ∀ {ns : List Str} {vs : List V}, RpA K F vs (ns.map D.str) → vs = ns.map V.str
  | [], _, .nil => rfl
  | n :: r, _, .cons h t => by
    cases h
    rw [RpA.of_strs t]; rfl
theorem RpA.of_bls : ∀ {ns : List Bool} {vs : List V}, RpA K F vs (ns.map D.bl) → vs = ns.map V.bl
  | [], _, .nil => rfl
  | n :: r, _, .cons h t => by
    cases h
    rw [RpA.of_bls t]; rfl
end

/-! ### what a name holds: nothing that we know; data that stays; a list, dict or instance of one's own (fr: made in this call; else the caller's, handed in) -/
/-- a field of an instance of one's own: data, or a list of the instance's own -/
inductive Fd where
  | d (x : D) | l (b : Addr) (xs : List D)
inductive OC where
  | lst (xs : List D) | dct (kvs : List (Key × D)) | dcn (kvs : List (D × D)) | obj (n : Str) (fs : List (Str × Fd)) | dl (kvs : List (D × Addr × List D)) | tl (pre : List D) (b : Addr) (xs : List D) | exn (n : Str) (a : Addr)
/-- what is known of an exception that is kept -/
def stays (a : Addr) (o : Obj) : HO := .ext fun h => h.get? a = some o
inductive Cell where
  | none | val (d : D) | own (fr : Bool) (c : OC) | opq (fr : Bool) (φ : OC → Prop)
abbrev DEnv := List Cell
@[simp] def Cell.isOwn : Cell → Bool
  | .own _ _ => true
  | .opq _ _ => true
  | _ => false
/-- the lists that are an instance's own -/
def fdSubs : List (Str × Fd) → List Addr
  | [] => []
  | (_, .d _) :: r => fdSubs r
  | (_, .l b _) :: r => b :: fdSubs r
def OC.subs : OC → List Addr
  | .dl kvs => kvs.map fun p => p.2.1
  | .obj _ fs => fdSubs fs
  | .lst _ => []
  | .dct _ => []
  | .dcn _ => []
  | .tl _ b _ => [b]
  | .exn _ _ => []
/-- the addresses of a cell -/
def foot : Option (Option V) → Cell → List Addr
  | some (some (.ref a)), .own _ c => a :: c.subs
  | some (some (.ref a)), .opq _ _ => [a]
  | _, _ => []
structure Bd where
  M : Addr → Prop
  H0 : Hp
  F0 : Hp
  par : List V
  P : Hp
  ms : Nat → Addr → Prop
inductive FdOk (K : KW) (F H : Hp) : List (Str × V) → List (Str × Fd) → Prop
  | nil : FdOk K F H [] []
  | d {x : Str} {v : V} {e : D} {vs : List (Str × V)} {fs : List (Str × Fd)} : Rp K F v e → FdOk K F H vs fs → FdOk K F H ((x, v) :: vs) ((x, .d e) :: fs)
  | l {x : Str} {b : Addr} {ws : List V} {xs : List D} {vs : List (Str × V)} {fs : List (Str × Fd)} : H b = some (.lst ws) → RpA K F ws xs → FdOk K F H vs fs → FdOk K F H ((x, .ref b) :: vs) ((x, .l b xs) :: fs)
/-- a dict keyed by tuples, whose things are lists of its own -/
inductive DlOk (K : KW) (F H : Hp) : List (NestedKey × Addr × V) → List (D × Addr × List D) → Prop
  | nil : DlOk K F H [] []
  | cons {k : NestedKey} {b c : Addr} {d : D} {ws : List V} {xs : List D} {vs : List (NestedKey × Addr × V)} {kvs : List (D × Addr × List D)} : nkey d = some k ∧ k.depth ≤ 8 → Rp K F (.ref b) d → H c = some (.lst ws) → RpA K F ws xs → DlOk K F H vs kvs → DlOk K F H ((k, b, .ref c) :: vs) ((d, c, xs) :: kvs)
def OcOk (K : KW) (F H : Hp) (a : Addr) : OC → Prop
  | .lst xs => ∃ vs, H a = some (.lst vs) ∧ RpA K F vs xs
  | .dct kvs => ∃ ws, H a = some (.dK ws) ∧ RpK K F ws kvs
  | .dcn kvs => ∃ ws, (∃ o, H a = some (NdO K.w a o ws)) ∧ RpN K F ws kvs
  | .dl kvs => ∃ ws, (∃ o, H a = some (NdO K.w a o ws)) ∧ DlOk K F H ws kvs
  | .obj n fs => ∃ C dx vs, K.mg n = some (.ref C) ∧ H a = some (.ins C dx vs) ∧ FdOk K F H vs fs
  | .tl pre b xs => ∃ vs ws, H a = some (.tup (vs ++ [.ref b])) ∧ RpA K F vs pre ∧ H b = some (.lst ws) ∧ RpA K F ws xs
  | .exn n a' => a = a' ∧ ∃ C o, K.mg n = some (.ref C) ∧ H a = some (stays a o) ∧ o.cls = .ref C ∧ o.dict = Option.none ∧ ∃ vs, o.data = .fields vs
/-- the lists of an instance's own, apart from all else -/
def SubOk (B : Bd) (F : Hp) (fr : Bool) (i : Nat) (a : Addr) (c : OC) : Prop := (a :: c.subs).Nodup ∧ ∀ b, b ∈ c.subs → F b = Option.none ∧ B.P b = Option.none ∧ (B.H0 b = Option.none ∨ (fr = false ∧ B.M b ∧ B.ms i b))
def OwnOk (K : KW) (B : Bd) (F H : Hp) (o : Option (Option V)) (i : Nat) (fr : Bool) (c : OC) : Prop :=
  ∃ a, o = some (some (.ref a)) ∧ OcOk K F H a c ∧ F a = Option.none ∧ B.P a = Option.none ∧ (if fr = true then B.H0 a = Option.none else B.M a ∧ B.par[i]? = some (.ref a)) ∧ SubOk B F fr i a c
def CellOk (K : KW) (B : Bd) (F H : Hp) (o : Option (Option V)) (i : Nat) : Cell → Prop
  | .none => True
  | .val d => ∃ v, o = some (some v) ∧ Rp K F v d
  | .own fr c => OwnOk K B F H o i fr c
  | .opq fr φ => ∃ c, φ c ∧ c.subs = [] ∧ OwnOk K B F H o i fr c
structure Rep (K : KW) (B : Bd) (F H : Hp) (σ : St) (env : DEnv) : Prop where
  len : env.length = σ.length
  sub : Same F H
  fix : ∀ b o, B.H0 b = some o → ¬ B.M b → H b = some o
  gro : Same B.F0 F
  new : ∀ b, B.F0 b = Option.none → F b ≠ Option.none → B.H0 b = Option.none
  mf : ∀ b, B.M b → F b = Option.none
  mh : ∀ b, B.M b → H b ≠ Option.none
  m0 : ∀ b, B.M b → B.H0 b ≠ Option.none
  pin : Same B.P H
  mp : ∀ b, B.M b → B.P b = Option.none
  pf : ∀ b o, B.P b = some o → F b = Option.none
  cells : ∀ (i : Nat) (c : Cell), env[i]? = some c → CellOk K B F H σ[i]? i c
  dis : ∀ (i j : Nat) (b : Addr) (c c' : Cell), env[i]? = some c → env[j]? = some c' → b ∈ foot σ[i]? c → b ∈ foot σ[j]? c' → i = j

section
variable {K : KW} {B : Bd} {F F' H H' : Hp} {σ : St} {env : DEnv} {v : V} {d : D} {i : Nat} {c : Cell} {o : Option (Option V)}
theorem foot_main {a : Addr} (w : c.isOwn = true) (s : o = some (some (.ref a))) : a ∈ foot o c := by
  subst s
  cases c with
  | none => cases w
  | val d => cases w
  | own fr c => exact List.mem_cons_self
  | opq fr φ => exact List.mem_cons_self
theorem foot_isOwn {b : Addr} (h : b ∈ foot o c) : c.isOwn = true := by
  unfold foot at h
  split at h
  · rfl
  · rfl
  · cases h
theorem foot_val (d : D) : foot o (.val d) = [] := by unfold foot; split <;> first | rfl | (rename_i h; cases h)
theorem foot_none : foot o .none = [] := by unfold foot; split <;> first | rfl | (rename_i h; cases h)
theorem Rep.disM (R : Rep K B F H σ env) (i j : Nat) (a : Addr) (c c' : Cell) (e : env[i]? = some c) (e' : env[j]? = some c') (w : c.isOwn = true) (w' : c'.isOwn = true) (s : σ[i]? = some (some (.ref a))) (s' : σ[j]? = some (some (.ref a))) : i = j :=
  R.dis i j a c c' e e' (foot_main w s) (foot_main w' s')
theorem FdOk.mono (s : Same F F') : ∀ {vs : List (Str × V)} {fs : List (Str × Fd)}, (∀ b, b ∈ fdSubs fs → H' b = H b) → FdOk K F H vs fs → FdOk K F' H' vs fs
  | _, _, _, .nil => .nil
  | _, _, e, .d h t => .d (h.mono s) (FdOk.mono s e t)
  | _, _, e, .l h r t => .l (by rw [e _ List.mem_cons_self]; exact h) (r.mono s) (FdOk.mono s (fun b m => e b (List.mem_cons_of_mem _ m)) t)
theorem FdOk.there : ∀ {vs : List (Str × V)} {fs : List (Str × Fd)}, FdOk K F H vs fs → ∀ b, b ∈ fdSubs fs → H b ≠ Option.none
  | _, _, .nil, b, m => by cases m
  | _, _, .d _ t, b, m => FdOk.there t b m
  | _, _, .l h _ t, b, m => by
    rcases List.mem_cons.mp m with q | q
    · rw [q, h]; simp
    · exact FdOk.there t b q
theorem DlOk.mono (s : Same F F') : ∀ {vs : List (NestedKey × Addr × V)} {kvs : List (D × Addr × List D)}, (∀ b, b ∈ (kvs.map fun p => p.2.1) → H' b = H b) → DlOk K F H vs kvs → DlOk K F' H' vs kvs
  | _, _, _, .nil => .nil
  | _, _, e, .cons q h g r t => .cons q (h.mono s) (by rw [e _ List.mem_cons_self]; exact g) (r.mono s) (DlOk.mono s (fun b m => e b (List.mem_cons_of_mem _ m)) t)
theorem DlOk.there : ∀ {vs : List (NestedKey × Addr × V)} {kvs : List (D × Addr × List D)}, DlOk K F H vs kvs → ∀ b, b ∈ (kvs.map fun p => p.2.1) → H b ≠ Option.none
  | _, _, .nil, b, m => by cases m
  | _, _, .cons _ _ g _ t, b, m => by
    rcases List.mem_cons.mp m with q | q
    · rw [q, g]; simp
    · exact DlOk.there t b q
theorem OcOk.monoS {a : Addr} {c : OC} (s : Same F F') (e : ∀ b, b ∈ a :: c.subs → H' b = H b) (h : OcOk K F H a c) : OcOk K F' H' a c := by
  have e0 := e a List.mem_cons_self
  cases c with
  | lst xs => obtain ⟨vs, h1, h2⟩ := h; exact ⟨vs, by rw [e0]; exact h1, h2.mono s⟩
  | dct xs => obtain ⟨vs, h1, h2⟩ := h; exact ⟨vs, by rw [e0]; exact h1, h2.mono s⟩
  | dcn xs => obtain ⟨vs, ⟨o, h1⟩, h2⟩ := h; exact ⟨vs, ⟨o, by rw [e0]; exact h1⟩, h2.mono s⟩
  | dl xs => obtain ⟨vs, ⟨o, h1⟩, h2⟩ := h; exact ⟨vs, ⟨o, by rw [e0]; exact h1⟩, h2.mono s fun b m => e b (List.mem_cons_of_mem _ m)⟩
  | obj n fs => obtain ⟨C, dx, vs, h0, h1, h2⟩ := h; exact ⟨C, dx, vs, h0, by rw [e0]; exact h1, h2.mono s fun b m => e b (List.mem_cons_of_mem _ m)⟩
  | tl pre b xs => obtain ⟨vs, ws, h1, h2, h3, h4⟩ := h; exact ⟨vs, ws, by rw [e0]; exact h1, h2.mono s, by rw [e b (List.mem_cons_of_mem _ List.mem_cons_self)]; exact h3, h4.mono s⟩
  | exn n a' => obtain ⟨h0, C, o, h1, h2, h3⟩ := h; exact ⟨h0, C, o, h1, by rw [e0]; exact h2, h3⟩
theorem OcOk.thereS {a : Addr} {c : OC} (h : OcOk K F H a c) : ∀ b, b ∈ a :: c.subs → H b ≠ Option.none := by
  intro b m
  cases c with
  | lst xs => obtain ⟨vs, h1, _⟩ := h; rw [List.mem_singleton.mp m, h1]; simp
  | dct xs => obtain ⟨vs, h1, _⟩ := h; rw [List.mem_singleton.mp m, h1]; simp
  | dcn xs => obtain ⟨vs, ⟨o, h1⟩, _⟩ := h; rw [List.mem_singleton.mp m, h1]; simp
  | exn n a' => obtain ⟨_, C, o, _, h1, _⟩ := h; rw [List.mem_singleton.mp m, h1]; simp
  | tl pre c xs =>
    obtain ⟨vs, ws, h1, _, h3, _⟩ := h
    rcases List.mem_cons.mp m with q | q
    · rw [q, h1]; simp
    · rw [List.mem_singleton.mp q, h3]; simp
  | dl xs =>
    obtain ⟨vs, ⟨o, h1⟩, h2⟩ := h
    rcases List.mem_cons.mp m with q | q
    · rw [q, h1]; simp
    · exact h2.there b q
  | obj n fs =>
    obtain ⟨C, dx, vs, h0, h1, h2⟩ := h
    rcases List.mem_cons.mp m with q | q
    · rw [q, h1]; simp
    · exact h2.there b q
theorem OcOk.there {a : Addr} {c : OC} (h : OcOk K F H a c) : H a ≠ Option.none := h.thereS a List.mem_cons_self
theorem OwnOk.mono {fr : Bool} {c : OC} (s : Same F F') (e : ∀ a, o = some (some (.ref a)) → ∀ b, b ∈ a :: c.subs → H b ≠ Option.none → F b = Option.none → H' b = H b ∧ F' b = Option.none) (h : OwnOk K B F H o i fr c) : OwnOk K B F' H' o i fr c := by
  obtain ⟨a, h1, h2, h3, h5, h4, h6, h7⟩ := h
  have fb : ∀ b, b ∈ a :: c.subs → F b = Option.none := fun b m => by
    rcases List.mem_cons.mp m with q | q
    · rw [q]; exact h3
    · exact (h7 b q).1
  have e2 := fun b m => e a h1 b m (h2.thereS b m) (fb b m)
  exact ⟨a, h1, h2.monoS s fun b m => (e2 b m).1, (e2 a List.mem_cons_self).2, h5, h4, h6, fun b m => ⟨(e2 b (List.mem_cons_of_mem _ m)).2, (h7 b m).2⟩⟩
theorem CellOk.mono (s : Same F F') (e : ∀ b, b ∈ foot o c → H b ≠ Option.none → F b = Option.none → H' b = H b ∧ F' b = Option.none) (h : CellOk K B F H o i c) : CellOk K B F' H' o i c := by
  cases c with
  | none => trivial
  | val d => obtain ⟨v, h1, h2⟩ := h; exact ⟨v, h1, h2.mono s⟩
  | own fr c => exact OwnOk.mono s (fun a q b m => e b (by rw [q]; exact m)) h
  | opq fr φ => obtain ⟨c, h1, h0, h2⟩ := h; exact ⟨c, h1, h0, h2.mono s (fun a q b m => e b (by rw [q]; rw [h0] at m; exact m))⟩
theorem CellOk.own_foot (h : CellOk K B F H o i c) : ∀ b, b ∈ foot o c → F b = Option.none ∧ H b ≠ Option.none ∧ B.P b = Option.none ∧ (B.H0 b = Option.none ∨ B.M b) := by
  have key : ∀ {fr : Bool} {c : OC} {a : Addr}, o = some (some (.ref a)) → OwnOk K B F H o i fr c → ∀ b, b ∈ a :: c.subs → F b = Option.none ∧ H b ≠ Option.none ∧ B.P b = Option.none ∧ (B.H0 b = Option.none ∨ B.M b) := by
    rintro fr c a' q ⟨a, h1, h2, h3, h5, h4, h6, h7⟩ b m
    rw [q] at h1; cases h1
    have th := h2.thereS b m
    rcases List.mem_cons.mp m with z | z
    · subst z
      refine ⟨h3, th, h5, ?_⟩
      cases fr with
      | true => exact .inl (by simpa using h4)
      | false => exact .inr (by simpa using h4.1)
    · obtain ⟨z1, z2, z3⟩ := h7 b z
      exact ⟨z1, th, z2, z3.imp id fun q => q.2.1⟩
  intro b m
  unfold foot at m
  split at m
  · exact key rfl h b m
  · obtain ⟨c, _, h0, h2⟩ := h
    exact key rfl h2 b (by rw [h0]; exact m)
  · cases m
theorem CellOk.own_addr (h : CellOk K B F H o i c) (w : c.isOwn = true) : ∃ a, o = some (some (.ref a)) ∧ F a = Option.none ∧ H a ≠ Option.none ∧ B.P a = Option.none ∧ (B.H0 a = Option.none ∨ B.M a) := by
  have q : ∃ a, o = some (some (.ref a)) := by
    cases c with
    | none => cases w
    | val d => cases w
    | own fr c => obtain ⟨a, h1, _⟩ := h; exact ⟨a, h1⟩
    | opq fr φ => obtain ⟨c, _, _, a, h1, _⟩ := h; exact ⟨a, h1⟩
  obtain ⟨a, q⟩ := q
  exact ⟨a, q, h.own_foot a (foot_main w q)⟩
/-- new objects: H grows where it was empty, F with it or not -/
theorem Rep.grow (R : Rep K B F H σ env) (sF : Same F F') (sH : Same H H') (sub : Same F' H') (nw : ∀ b, F b = Option.none → F' b ≠ Option.none → H b = Option.none) : Rep K B F' H' σ env where
  len := R.len
  sub := sub
  fix := fun b o e m => sH _ _ (R.fix b o e m)
  gro := R.gro.trans sF
  new := fun b e n => by
    by_cases q : F b = Option.none
    · have h := nw b q n
      cases z : B.H0 b with
      | none => rfl
      | some o =>
        by_cases m : B.M b
        · exact absurd h (R.mh b m)
        · rw [R.fix b o z m] at h; cases h
    · exact R.new b e q
  mf := fun b m => by
    cases z : F' b with
    | none => rfl
    | some o =>
      have h := nw b (R.mf b m) (by rw [z]; simp)
      exact absurd h (R.mh b m)
  mh := fun b m => by
    cases z : H b with
    | none => exact absurd z (R.mh b m)
    | some o => rw [sH _ _ z]; simp
  m0 := R.m0
  pin := R.pin.trans sH
  mp := R.mp
  pf := fun b o e => by
    cases z : F' b with
    | none => rfl
    | some x =>
      have h := nw b (R.pf b o e) (by rw [z]; simp)
      rw [R.pin _ _ e] at h; cases h
  cells := fun i c e => (R.cells i c e).mono sF fun a _ n f => by
    constructor
    · cases z : H a with
      | none => exact absurd z n
      | some o => exact sH _ _ z
    · cases z : F' a with
      | none => rfl
      | some o => exact absurd (nw a f (by rw [z]; simp)) n
  dis := R.dis
theorem same_upd {p : Addr} {o : HO} (h : H p = Option.none) : Same H (upd H p o) := fun b x e => by
  rw [upd_ne (ne_of_none e h)]; exact e
theorem Rep.freeF (R : Rep K B F H σ env) {p : Addr} (h : H p = Option.none) : F p = Option.none := R.sub.free h
/-- a new object, kept for good -/
theorem Rep.alloc (R : Rep K B F H σ env) {p : Addr} {o : HO} (h : H p = Option.none) : Rep K B (upd F p o) (upd H p o) σ env := by
  refine R.grow (same_upd (R.freeF h)) (same_upd h) (fun b x e => ?_) (fun b e n => ?_)
  · by_cases q : b = p
    · subst q; rw [upd_same] at e ⊢; exact e
    · rw [upd_ne q] at e ⊢; exact R.sub _ _ e
  · by_cases q : b = p
    · subst q; exact h
    · rw [upd_ne q] at n; exact absurd e n
/-- a new object that is not kept -/
theorem Rep.junk (R : Rep K B F H σ env) {p : Addr} {o : HO} (h : H p = Option.none) : Rep K B F (upd H p o) σ env :=
  R.grow (Same.refl _) (same_upd h) (R.sub.trans (same_upd h)) fun b e n => absurd e n
/-- a name gets data -/
theorem Rep.set (R : Rep K B F H σ env) (h : Rp K F v d) (i : Nat) : Rep K B F H (σ.set i (some v)) (env.set i (.val d)) where
  len := by rw [List.length_set, List.length_set]; exact R.len
  sub := R.sub
  fix := R.fix
  gro := R.gro
  new := R.new
  mf := R.mf
  mh := R.mh
  m0 := R.m0
  pin := R.pin
  mp := R.mp
  pf := R.pf
  cells := fun j c e => by
    by_cases q : i = j
    · subst q
      have hl : i < env.length := by
        have := (List.getElem?_eq_some_iff.mp e).1
        rw [List.length_set] at this; exact this
      rw [List.getElem?_set_self hl] at e
      cases e
      exact ⟨v, by rw [List.getElem?_set_self (by rw [← R.len]; exact hl)], h⟩
    · rw [List.getElem?_set_ne q] at e ⊢
      exact R.cells j c e
  dis := fun j k a c c' e1 e2 s1 s2 => by
    have nv : ∀ {o : Option (Option V)}, a ∈ foot o (.val d) → False := fun m => by rw [foot_val] at m; cases m
    by_cases q : i = j
    · subst q
      have hl : i < env.length := by
        have := (List.getElem?_eq_some_iff.mp e1).1
        rw [List.length_set] at this; exact this
      rw [List.getElem?_set_self hl] at e1
      cases e1; exact (nv s1).elim
    · by_cases q' : i = k
      · subst q'
        have hl : i < env.length := by
          have := (List.getElem?_eq_some_iff.mp e2).1
          rw [List.length_set] at this; exact this
        rw [List.getElem?_set_self hl] at e2
        cases e2; exact (nv s2).elim
      · rw [List.getElem?_set_ne q] at e1 s1
        rw [List.getElem?_set_ne q'] at e2 s2
        exact R.dis j k a c c' e1 e2 s1 s2
/-- cells forgotten -/
theorem Rep.weak {env' : DEnv} (R : Rep K B F H σ env) (hl : env'.length = env.length) (h : ∀ (i : Nat) (c : Cell), env'[i]? = some c → env[i]? = some c ∨ c = .none) : Rep K B F H σ env' where
  len := hl.trans R.len
  sub := R.sub
  fix := R.fix
  gro := R.gro
  new := R.new
  mf := R.mf
  mh := R.mh
  m0 := R.m0
  pin := R.pin
  mp := R.mp
  pf := R.pf
  cells := fun i c e => by
    rcases h i c e with q | q
    · exact R.cells i c q
    · subst q; trivial
  dis := fun j k a c c' e1 e2 s1 s2 => by
    rcases h j c e1 with q | q
    · rcases h k c' e2 with q' | q'
      · exact R.dis j k a c c' q q' s1 s2
      · subst q'; rw [foot_none] at s2; cases s2
    · subst q; rw [foot_none] at s1; cases s1
end
end L2.DL

namespace L2.DL
open PySem PySem.Spec PyProof.Rows

abbrev DK := D → DEnv → Prop
abbrev TD := DEnv → DK → Prop
abbrev TDT := DEnv → (Bool → DEnv → Prop) → Prop
abbrev TDA := DEnv → (List D → DEnv → Prop) → Prop

/-- an expression as a transformer of names' contents -/
structure DE (X : Cx) (B : Bd) (e : Expr) (t : TD) : Prop where
  ex : ∃ te, PE X e te ∧ ∀ (F H : Hp) (σ : St) (env : DEnv) (Q : DK) (Q' : VK), Rep X.kw B F H σ env → t env Q →
    (∀ d env' v F' H', Q d env' → Same F F' → Rep X.kw B F' H' σ env' → Rp X.kw F' v d → Q' v H') → te σ H Q'
structure DT (X : Cx) (B : Bd) (e : Expr) (t : TDT) : Prop where
  ex : ∃ te, PT X e te ∧ ∀ (F H : Hp) (σ : St) (env : DEnv) (Q : Bool → DEnv → Prop) (Q' : Bool → Hp → Prop), Rep X.kw B F H σ env → t env Q →
    (∀ b env' F' H', Q b env' → Same F F' → Rep X.kw B F' H' σ env' → Q' b H') → te σ H Q'
structure DW (X : Cx) (B : Bd) (e : Expr) (t : TDT) : Prop where
  ex : ∃ te, PW X e te ∧ ∀ (F H : Hp) (σ : St) (env : DEnv) (Q : Bool → DEnv → Prop) (Q' : Bool → Hp → Prop), Rep X.kw B F H σ env → t env Q →
    (∀ b env' F' H', Q b env' → Same F F' → Rep X.kw B F' H' σ env' → Q' b H') → te σ H Q'
structure DA (X : Cx) (B : Bd) (es : List Expr) (t : TDA) : Prop where
  ex : ∃ te, PA X es te ∧ ∀ (F H : Hp) (σ : St) (env : DEnv) (Q : List D → DEnv → Prop) (Q' : List V → Hp → Prop), Rep X.kw B F H σ env → t env Q →
    (∀ ds env' vs F' H', Q ds env' → Same F F' → Rep X.kw B F' H' σ env' → RpA X.kw F' vs ds → Q' vs H') → te σ H Q'

/-- a step of an operation: nothing, or one new object -/
def Stp (F H F' H' : Hp) : Prop := (F' = F ∧ H' = H) ∨ ∃ p o, H p = none ∧ F' = upd F p o ∧ H' = upd H p o
section
variable {K : KW} {B : Bd} {F F' H H' : Hp} {σ : St} {env : DEnv}
theorem Stp.same (R : Same F H) (s : Stp F H F' H') : Same F F' := by
  rcases s with ⟨rfl, _⟩ | ⟨p, o, n, rfl, _⟩
  · exact Same.refl _
  · exact same_upd (R.free n)
theorem Rep.stp (R : Rep K B F H σ env) (s : Stp F H F' H') : Rep K B F' H' σ env := by
  rcases s with ⟨rfl, rfl⟩ | ⟨p, o, n, rfl, rfl⟩
  · exact R
  · exact R.alloc n
theorem Stp.nil : Stp F H F H := .inl ⟨rfl, rfl⟩
theorem Stp.new {p : Addr} {o : HO} (n : H p = none) : Stp F H (upd F p o) (upd H p o) := .inr ⟨p, o, n, rfl, rfl⟩
end
/-- an operation by values -/
abbrev S2 := D → D → (D → Prop) → Prop
abbrev S1 := D → (D → Prop) → Prop
abbrev SN := List D → (D → Prop) → Prop
def DOp (X : Cx) (f : Value → Value → Sem Value) (s : S2) : Prop :=
  ∃ r, OpR X f r ∧ ∀ (F H : Hp) (x y : V) (d e : D) (Q : D → Prop) (Q' : VK), Same F H → Rp X.kw F x d → Rp X.kw F y e → s d e Q →
    (∀ d' v F' H', Q d' → Stp F H F' H' → Rp X.kw F' v d' → Q' v H') → r x y H Q'
def DIx (X : Cx) (s : S2) : Prop :=
  ∃ r, IxR X r ∧ ∀ (F H : Hp) (x y : V) (d e : D) (Q : D → Prop) (Q' : VK), Same F H → Rp X.kw F x d → Rp X.kw F y e → s d e Q →
    (∀ d' v F' H', Q d' → Stp F H F' H' → Rp X.kw F' v d' → Q' v H') → r x y H Q'
def DUn (X : Cx) (f : Value → Sem Value) (s : S1) : Prop :=
  ∃ r, UnR X f r ∧ ∀ (F H : Hp) (x : V) (d : D) (Q : D → Prop) (Q' : VK), Same F H → Rp X.kw F x d → s d Q →
    (∀ d' v F' H', Q d' → Stp F H F' H' → Rp X.kw F' v d' → Q' v H') → r x H Q'
def DCl (X : Cx) (f : Value) (s : SN) : Prop :=
  ∃ r, CallR X f r ∧ ∀ (F H : Hp) (xs : List V) (ds : List D) (Q : D → Prop) (Q' : VK), Same F H → RpA X.kw F xs ds → s ds Q →
    (∀ d' v F' H', Q d' → Stp F H F' H' → Rp X.kw F' v d' → Q' v H') → r xs H Q'

section
variable {X : Cx} {B : Bd} {e a b c : Expr} {ta tb tc : TD} {pos : Pos}

/-! ### names and constants -/
@[simp] def qVar (i : Nat) : TD := fun env Q => match env[i]? with
  | some (.val d) => Q d env
  | _ => False
theorem de_var {i : Nat} {x : Str} (h : PE X (.Name x pos) (tVar i)) : DE X B (.Name x pos) (qVar i) := by
  refine ⟨_, h, fun F H σ env Q Q' R ht k => ?_⟩
  unfold qVar at ht
  cases z : env[i]? with
  | none => rw [z] at ht; exact ht.elim
  | some c =>
    rw [z] at ht
    cases c with
    | val d =>
      obtain ⟨v, e1, e2⟩ := R.cells i _ z
      exact ⟨v, e1, k d env v F H ht (Same.refl _) R e2⟩
    | none => exact ht.elim
    | own _ _ => exact ht.elim
    | opq _ _ => exact ht.elim
/-- a name of the def -/
theorem dv (i : Nat) {x : Str} (hN : X.N[i]? = some x := by rfl) (hv : Vis X.env.scope x := by first | exact Or.inl rfl | exact Or.inr (Or.inl rfl) | exact Or.inr (Or.inr rfl)) (hd : (x == ("__debug__" : Str)) = false := by decide)
    (hcd : (x == ("__classdict__" : Str)) = false := by decide) : DE X B (.Name x pos) (qVar i) := de_var (pe_var hN hv hd hcd)
@[simp] def qC (d : D) : TD := fun env Q => Q d env
theorem de_tC {v : V} {d : D} (h : PE X e (tC v)) (r : ∀ F, Rp X.kw F v d) : DE X B e (qC d) :=
  ⟨_, h, fun F H σ env Q Q' R ht k => k d env v F H ht (Same.refl _) R (r F)⟩
theorem de_int {i : Int} {j : Nat} : DE X B (.Constant (.int i) j pos) (qC (.int i)) := de_tC pe_int fun _ => .int i
theorem de_bl {b : Bool} {j : Nat} : DE X B (.Constant (.bool b) j pos) (qC (.bl b)) := de_tC pe_bl fun _ => .bl b
theorem de_non {j : Nat} : DE X B (.Constant .none j pos) (qC .non) := de_tC pe_non fun _ => .non
theorem de_str {x : Str} {j : Nat} : DE X B (.Constant (.str x) j pos) (qC (.str x)) := de_tC pe_str fun _ => .str x
/-- a module's constant -/
theorem de_glob {x : Str} {v : V} {u : Value} {d : D} (hg : Gl X x) (hm : X.mg x = some u) (r : RelV v u) (h : ∀ F, Rp X.kw F v d) (hd : (x == ("__debug__" : Str)) = false := by decide) : DE X B (.Name x pos) (qC d) :=
  de_tC (pe_glob hg hm r hd) h

/-! ### operators -/
@[simp] def qOp (s : S2) (ta tb : TD) : TD := fun env Q => ta env fun d env1 => tb env1 fun e env2 => s d e fun r => Q r env2
@[simp] def qUn (s : S1) (ta : TD) : TD := fun env Q => ta env fun d env1 => s d fun r => Q r env1
theorem op_run {f : Value → Value → Sem Value} {s : S2} {te1 te2 : TE} {r : R2} (hr : ∀ (F H : Hp) (x y : V) (d e : D) (Q : D → Prop) (Q' : VK), Same F H → Rp X.kw F x d → Rp X.kw F y e → s d e Q →
      (∀ d' v F' H', Q d' → Stp F H F' H' → Rp X.kw F' v d' → Q' v H') → r x y H Q')
    (h1 : ∀ (F H : Hp) (σ : St) (env : DEnv) (Q : DK) (Q' : VK), Rep X.kw B F H σ env → ta env Q → (∀ d env' v F' H', Q d env' → Same F F' → Rep X.kw B F' H' σ env' → Rp X.kw F' v d → Q' v H') → te1 σ H Q')
    (h2 : ∀ (F H : Hp) (σ : St) (env : DEnv) (Q : DK) (Q' : VK), Rep X.kw B F H σ env → tb env Q → (∀ d env' v F' H', Q d env' → Same F F' → Rep X.kw B F' H' σ env' → Rp X.kw F' v d → Q' v H') → te2 σ H Q') :
    ∀ (F H : Hp) (σ : St) (env : DEnv) (Q : DK) (Q' : VK), Rep X.kw B F H σ env → qOp s ta tb env Q → (∀ d env' v F' H', Q d env' → Same F F' → Rep X.kw B F' H' σ env' → Rp X.kw F' v d → Q' v H') → tOp r te1 te2 σ H Q' := by
  intro F H σ env Q Q' R ht k
  refine h1 F H σ env _ _ R ht fun d env1 x F1 H1 q1 s1 R1 r1 => ?_
  refine h2 F1 H1 σ env1 _ _ R1 q1 fun d2 env2 y F2 H2 q2 s2 R2 r2 => ?_
  refine hr F2 H2 x y d d2 _ _ R2.sub (r1.mono s2) r2 q2 fun d' v F3 H3 q3 s3 r3 => ?_
  exact k d' env2 v F3 H3 q3 ((s1.trans s2).trans (s3.same R2.sub)) (R2.stp s3) r3
theorem de_op {op : Operator} {s : S2} (ho : DOp X (binaryOp op) s) (ha : DE X B a ta) (hb : DE X B b tb) : DE X B (.BinOp a op b pos) (qOp s ta tb) := by
  obtain ⟨r, h, hr⟩ := ho
  obtain ⟨te1, p1, h1⟩ := ha.ex
  obtain ⟨te2, p2, h2⟩ := hb.ex
  exact ⟨_, pe_op h p1 p2, op_run (f := binaryOp op) hr h1 h2⟩
theorem de_cmp {op : CmpOp} {s : S2} (ho : DOp X (compareOp op) s) (ha : DE X B a ta) (hb : DE X B b tb) (hm : behindInMarks op b = false) : DE X B (.Compare a [op] [b] pos) (qOp s ta tb) := by
  obtain ⟨r, h, hr⟩ := ho
  obtain ⟨te1, p1, h1⟩ := ha.ex
  obtain ⟨te2, p2, h2⟩ := hb.ex
  exact ⟨_, pe_cmpR h p1 p2 hm, op_run (f := compareOp op) hr h1 h2⟩
/-- a value that must be a truth -/
@[simp] def qTest (t : TD) : TDT := fun env Q => t env fun d env1 => match d with
  | .bl k => Q k env1
  | _ => False
theorem dt_cmp {op : CmpOp} {s : S2} (ho : DOp X (compareOp op) s) (ha : DE X B a ta) (hb : DE X B b tb) (hm : behindInMarks op b = false) : DT X B (.Compare a [op] [b] pos) (qTest (qOp s ta tb)) := by
  obtain ⟨r, h, hr⟩ := ho
  obtain ⟨te1, p1, h1⟩ := ha.ex
  obtain ⟨te2, p2, h2⟩ := hb.ex
  refine ⟨_, pt_cmpR h p1 p2 hm, fun F H σ env Q Q' R ht k => ?_⟩
  refine op_run (f := compareOp op) hr h1 h2 F H σ env _ _ R ht fun d env' v F' H' q s' R' r' => ?_
  cases d with
  | bl b => cases r' with
    | bl _ => exact ⟨b, rfl, k b env' F' H' q s' R'⟩
  | _ => exact q.elim
theorem dt_val {t : TD} (h : DE X B e t) (he : ∀ whole, isTrue e X.env whole = (do let v ← whole; standAt e.pos; holding [v] (truthy v)) := by intro _; rfl) : DT X B e (qTest t) := by
  obtain ⟨te, p, h⟩ := h.ex
  refine ⟨_, pt_val p he, fun F H σ env Q Q' R ht k => ?_⟩
  refine h F H σ env _ _ R ht fun d env' v F' H' q s' R' r' => ?_
  cases d with
  | bl b => cases r' with
    | bl _ => exact ⟨b, rfl, k b env' F' H' q s' R'⟩
  | _ => exact q.elim
theorem de_un {op : UnaryOp} {s : S1} (ho : DUn X (unaryOp op) s) (ha : DE X B a ta) : DE X B (.UnaryOp op a pos) (qUn s ta) := by
  obtain ⟨r, h, hr⟩ := ho
  obtain ⟨te1, p1, h1⟩ := ha.ex
  refine ⟨_, pe_un h p1, fun F H σ env Q Q' R ht k => ?_⟩
  refine h1 F H σ env _ _ R ht fun d env1 x F1 H1 q1 s1 R1 r1 => ?_
  refine hr F1 H1 x d _ _ R1.sub r1 q1 fun d' v F3 H3 q3 s3 r3 => ?_
  exact k d' env1 v F3 H3 q3 (s1.trans (s3.same R1.sub)) (R1.stp s3) r3
theorem de_ix {s : S2} (ho : DIx X s) (ha : DE X B a ta) (hb : DE X B b tb) (hs : PlainIx b := by exact fun _ _ => rfl) : DE X B (.Subscript a b pos) (qOp s ta tb) := by
  obtain ⟨r, h, hr⟩ := ho
  obtain ⟨te1, p1, h1⟩ := ha.ex
  obtain ⟨te2, p2, h2⟩ := hb.ex
  exact ⟨_, pe_ix h p1 p2 hs, op_run (f := fun a _ => pure a) hr h1 h2⟩
/-- a < b < c -/
@[simp] def qChain (s s' : S2) (ta tb tc : TD) : TD := fun env Q => ta env fun d env1 => tb env1 fun e env2 => s d e fun r => match r with
  | .bl true => tc env2 fun f env3 => s' e f fun r' => Q r' env3
  | .bl false => Q (.bl false) env2
  | _ => False
theorem chain_run {s s' : S2} {te1 te2 te3 : TE} {r r' : R2} (hr : ∀ (F H : Hp) (x y : V) (d e : D) (Q : D → Prop) (Q' : VK), Same F H → Rp X.kw F x d → Rp X.kw F y e → s d e Q →
      (∀ d' v F' H', Q d' → Stp F H F' H' → Rp X.kw F' v d' → Q' v H') → r x y H Q')
    (hr' : ∀ (F H : Hp) (x y : V) (d e : D) (Q : D → Prop) (Q' : VK), Same F H → Rp X.kw F x d → Rp X.kw F y e → s' d e Q →
      (∀ d' v F' H', Q d' → Stp F H F' H' → Rp X.kw F' v d' → Q' v H') → r' x y H Q')
    (h1 : ∀ (F H : Hp) (σ : St) (env : DEnv) (Q : DK) (Q' : VK), Rep X.kw B F H σ env → ta env Q → (∀ d env' v F' H', Q d env' → Same F F' → Rep X.kw B F' H' σ env' → Rp X.kw F' v d → Q' v H') → te1 σ H Q')
    (h2 : ∀ (F H : Hp) (σ : St) (env : DEnv) (Q : DK) (Q' : VK), Rep X.kw B F H σ env → tb env Q → (∀ d env' v F' H', Q d env' → Same F F' → Rep X.kw B F' H' σ env' → Rp X.kw F' v d → Q' v H') → te2 σ H Q')
    (h3 : ∀ (F H : Hp) (σ : St) (env : DEnv) (Q : DK) (Q' : VK), Rep X.kw B F H σ env → tc env Q → (∀ d env' v F' H', Q d env' → Same F F' → Rep X.kw B F' H' σ env' → Rp X.kw F' v d → Q' v H') → te3 σ H Q') :
    ∀ (F H : Hp) (σ : St) (env : DEnv) (Q : DK) (Q' : VK), Rep X.kw B F H σ env → qChain s s' ta tb tc env Q → (∀ d env' v F' H', Q d env' → Same F F' → Rep X.kw B F' H' σ env' → Rp X.kw F' v d → Q' v H') → tChain r r' te1 te2 te3 σ H Q' := by
  intro F H σ env Q Q' R ht k
  refine h1 F H σ env _ _ R ht fun d env1 x F1 H1 q1 s1 R1 r1 => ?_
  refine h2 F1 H1 σ env1 _ _ R1 q1 fun d2 env2 y F2 H2 q2 s2 R2 r2 => ?_
  refine hr F2 H2 x y d d2 _ _ R2.sub (r1.mono s2) r2 q2 fun d' v F3 H3 q3 s3 r3 => ?_
  have R3 := R2.stp s3
  have ss := s3.same R2.sub
  cases d' with
  | bl b => cases r3 with
    | bl _ =>
      cases b with
      | true =>
        refine ⟨true, rfl, iteT ?_⟩
        refine h3 F3 H3 σ env2 _ _ R3 q3 fun d4 env4 z F4 H4 q4 s4 R4 r4 => ?_
        refine hr' F4 H4 y z d2 d4 _ _ R4.sub (r2.mono (ss.trans s4)) r4 q4 fun d' v F5 H5 q5 s5 r5 => ?_
        exact k d' env4 v F5 H5 q5 ((((s1.trans s2).trans ss).trans s4).trans (s5.same R4.sub)) (R4.stp s5) r5
      | false => exact ⟨false, rfl, iteF (k _ env2 _ F3 H3 q3 ((s1.trans s2).trans ss) R3 (.bl false))⟩
  | _ => exact q3.elim
theorem de_chain {op op' : CmpOp} {s s' : S2} (ho : DOp X (compareOp op) s) (ho' : DOp X (compareOp op') s') (ha : DE X B a ta) (hb : DE X B b tb) (hc : DE X B c tc) (hm : lastMarks [op, op'] [b, c] = false := by with_unfolding_all rfl) :
    DE X B (.Compare a [op, op'] [b, c] pos) (qChain s s' ta tb tc) := by
  obtain ⟨r, h, hr⟩ := ho
  obtain ⟨r', h', hr'⟩ := ho'
  obtain ⟨te1, p1, h1⟩ := ha.ex
  obtain ⟨te2, p2, h2⟩ := hb.ex
  obtain ⟨te3, p3, h3⟩ := hc.ex
  exact ⟨_, pe_chain h h' p1 p2 p3 hm, chain_run hr hr' h1 h2 h3⟩
theorem dt_chain {op op' : CmpOp} {s s' : S2} (ho : DOp X (compareOp op) s) (ho' : DOp X (compareOp op') s') (ha : DE X B a ta) (hb : DE X B b tb) (hc : DE X B c tc) (hm : lastMarks [op, op'] [b, c] = false := by with_unfolding_all rfl) :
    DT X B (.Compare a [op, op'] [b, c] pos) (qTest (qChain s s' ta tb tc)) := by
  obtain ⟨r, h, hr⟩ := ho
  obtain ⟨r', h', hr'⟩ := ho'
  obtain ⟨te1, p1, h1⟩ := ha.ex
  obtain ⟨te2, p2, h2⟩ := hb.ex
  obtain ⟨te3, p3, h3⟩ := hc.ex
  refine ⟨_, pt_chain h h' p1 p2 p3 hm, fun F H σ env Q Q' R ht k => ?_⟩
  refine chain_run hr hr' h1 h2 h3 F H σ env _ _ R ht fun d env' v F' H' q s' R' r' => ?_
  cases d with
  | bl b => cases r' with
    | bl _ => exact ⟨b, rfl, k b env' F' H' q s' R'⟩
  | _ => exact q.elim

/-! ### and, or, not, if -/
@[simp] def qAnd (t u : TDT) : TDT := fun env Q => t env fun c env1 => match c with
  | true => u env1 Q
  | false => Q false env1
@[simp] def qOr (t u : TDT) : TDT := fun env Q => t env fun c env1 => match c with
  | true => Q true env1
  | false => u env1 Q
@[simp] def qNot (t : TDT) : TDT := fun env Q => t env fun c env1 => Q (!c) env1
variable {tA tB : TDT} {rest : List Expr}
theorem dw_and1 (ha : DT X B a tA) : DW X B (.BoolOp .And [a] pos) tA := by
  obtain ⟨te, p, h⟩ := ha.ex
  exact ⟨_, pw_and1 p, h⟩
theorem dw_or1 (ha : DT X B a tA) : DW X B (.BoolOp .Or [a] pos) tA := by
  obtain ⟨te, p, h⟩ := ha.ex
  exact ⟨_, pw_or1 p, h⟩
theorem dw_and (ha : DT X B a tA) (hb : DW X B (.BoolOp .And (b :: rest) pos) tB) : DW X B (.BoolOp .And (a :: b :: rest) pos) (qAnd tA tB) := by
  obtain ⟨te, p, h⟩ := ha.ex
  obtain ⟨te2, p2, h2⟩ := hb.ex
  refine ⟨_, pw_and p p2, fun F H σ env Q Q' R ht k => ?_⟩
  refine h F H σ env _ _ R ht fun c env1 F1 H1 q1 s1 R1 => ?_
  cases c with
  | true => exact iteT (h2 F1 H1 σ env1 _ _ R1 q1 fun c env2 F2 H2 q2 s2 R2 => k c env2 F2 H2 q2 (s1.trans s2) R2)
  | false => exact iteF (k _ env1 F1 H1 q1 s1 R1)
theorem dw_or (ha : DT X B a tA) (hb : DW X B (.BoolOp .Or (b :: rest) pos) tB) : DW X B (.BoolOp .Or (a :: b :: rest) pos) (qOr tA tB) := by
  obtain ⟨te, p, h⟩ := ha.ex
  obtain ⟨te2, p2, h2⟩ := hb.ex
  refine ⟨_, pw_or p p2, fun F H σ env Q Q' R ht k => ?_⟩
  refine h F H σ env _ _ R ht fun c env1 F1 H1 q1 s1 R1 => ?_
  cases c with
  | false => exact iteF (h2 F1 H1 σ env1 _ _ R1 q1 fun c env2 F2 H2 q2 s2 R2 => k c env2 F2 H2 q2 (s1.trans s2) R2)
  | true => exact iteT (k _ env1 F1 H1 q1 s1 R1)
theorem DW.dt {t : TDT} (h : DW X B e t) : DT X B e t := by
  obtain ⟨te, p, h⟩ := h.ex
  exact ⟨_, p.pt, h⟩
theorem dt_not (ha : DT X B a tA) : DT X B (.UnaryOp .Not a pos) (qNot tA) := by
  obtain ⟨te, p, h⟩ := ha.ex
  refine ⟨_, pt_not p, fun F H σ env Q Q' R ht k => ?_⟩
  exact h F H σ env _ _ R ht fun c env1 F1 H1 q1 s1 R1 => k _ env1 F1 H1 q1 s1 R1
/-- .. as values -/
@[simp] def qAndV (ta tb : TD) : TD := fun env Q => ta env fun d env1 => match d with
  | .bl true => tb env1 Q
  | .bl false => Q (.bl false) env1
  | _ => False
@[simp] def qOrV (ta tb : TD) : TD := fun env Q => ta env fun d env1 => match d with
  | .bl false => tb env1 Q
  | .bl true => Q (.bl true) env1
  | _ => False
@[simp] def qNotV (ta : TD) : TD := fun env Q => ta env fun d env1 => match d with
  | .bl k => Q (.bl (!k)) env1
  | _ => False
theorem de_one {op : BoolOp} {t : TD} (h : DE X B a t) : DE X B (.BoolOp op [a] pos) t := by
  obtain ⟨te, p, h⟩ := h.ex
  exact ⟨_, pe_one p, h⟩
theorem de_and (ha : DE X B a ta) (hb : DE X B (.BoolOp .And (b :: rest) pos) tb) : DE X B (.BoolOp .And (a :: b :: rest) pos) (qAndV ta tb) := by
  obtain ⟨te, p, h⟩ := ha.ex
  obtain ⟨te2, p2, h2⟩ := hb.ex
  refine ⟨_, pe_and p p2, fun F H σ env Q Q' R ht k => ?_⟩
  refine h F H σ env _ _ R ht fun d env1 v F1 H1 q1 s1 R1 r1 => ?_
  cases d with
  | bl c => cases r1 with
    | bl _ => cases c with
      | true => exact ⟨true, rfl, iteT (h2 F1 H1 σ env1 _ _ R1 q1 fun c env2 v F2 H2 q2 s2 R2 r2 => k c env2 v F2 H2 q2 (s1.trans s2) R2 r2)⟩
      | false => exact ⟨false, rfl, iteF (k _ env1 _ F1 H1 q1 s1 R1 (.bl false))⟩
  | _ => exact q1.elim
theorem de_or (ha : DE X B a ta) (hb : DE X B (.BoolOp .Or (b :: rest) pos) tb) : DE X B (.BoolOp .Or (a :: b :: rest) pos) (qOrV ta tb) := by
  obtain ⟨te, p, h⟩ := ha.ex
  obtain ⟨te2, p2, h2⟩ := hb.ex
  refine ⟨_, pe_or p p2, fun F H σ env Q Q' R ht k => ?_⟩
  refine h F H σ env _ _ R ht fun d env1 v F1 H1 q1 s1 R1 r1 => ?_
  cases d with
  | bl c => cases r1 with
    | bl _ => cases c with
      | false => exact ⟨false, rfl, iteF (h2 F1 H1 σ env1 _ _ R1 q1 fun c env2 v F2 H2 q2 s2 R2 r2 => k c env2 v F2 H2 q2 (s1.trans s2) R2 r2)⟩
      | true => exact ⟨true, rfl, iteT (k _ env1 _ F1 H1 q1 s1 R1 (.bl true))⟩
  | _ => exact q1.elim
theorem de_not (ha : DE X B a ta) : DE X B (.UnaryOp .Not a pos) (qNotV ta) := by
  obtain ⟨te, p, h⟩ := ha.ex
  refine ⟨_, pe_not p, fun F H σ env Q Q' R ht k => ?_⟩
  refine h F H σ env _ _ R ht fun d env1 v F1 H1 q1 s1 R1 r1 => ?_
  cases d with
  | bl c => cases r1 with
    | bl _ => exact ⟨c, rfl, k _ env1 _ F1 H1 q1 s1 R1 (.bl _)⟩
  | _ => exact q1.elim
@[simp] def qIf (t : TDT) (ta tb : TD) : TD := fun env Q => t env fun c env1 => match c with
  | true => ta env1 Q
  | false => tb env1 Q
theorem de_if {c : Expr} (hc : DT X B c tA) (ha : DE X B a ta) (hb : DE X B b tb) : DE X B (.IfExp c a b pos) (qIf tA ta tb) := by
  obtain ⟨tc, p, h⟩ := hc.ex
  obtain ⟨te1, p1, h1⟩ := ha.ex
  obtain ⟨te2, p2, h2⟩ := hb.ex
  refine ⟨_, pe_ifExp p p1 p2, fun F H σ env Q Q' R ht k => ?_⟩
  refine h F H σ env _ _ R ht fun c env1 F1 H1 q1 s1 R1 => ?_
  cases c with
  | true => exact iteT (h1 F1 H1 σ env1 _ _ R1 q1 fun c env2 v F2 H2 q2 s2 R2 r2 => k c env2 v F2 H2 q2 (s1.trans s2) R2 r2)
  | false => exact iteF (h2 F1 H1 σ env1 _ _ R1 q1 fun c env2 v F2 H2 q2 s2 R2 r2 => k c env2 v F2 H2 q2 (s1.trans s2) R2 r2)

/-! ### argument lists, tuples, lists, calls of built-ins -/
variable {es : List Expr} {tr : TDA}
@[simp] def qNil : TDA := fun env Q => Q [] env
@[simp] def qCons (ta : TD) (tr : TDA) : TDA := fun env Q => ta env fun d env1 => tr env1 fun ds env2 => Q (d :: ds) env2
theorem da_nil : DA X B [] qNil := ⟨_, pa_nil, fun F H σ env Q Q' R ht k => k [] env [] F H ht (Same.refl _) R .nil⟩
theorem da_cons (ha : DE X B e ta) (hr : DA X B es tr) (hs : starEach (e :: es) X.env = (false, eval e X.env) :: starEach es X.env := by rfl) : DA X B (e :: es) (qCons ta tr) := by
  obtain ⟨te, p, h⟩ := ha.ex
  obtain ⟨te2, p2, h2⟩ := hr.ex
  refine ⟨_, pa_cons p p2 hs, fun F H σ env Q Q' R ht k => ?_⟩
  refine h F H σ env _ _ R ht fun d env1 v F1 H1 q1 s1 R1 r1 => ?_
  refine h2 F1 H1 σ env1 _ _ R1 q1 fun ds env2 vs F2 H2 q2 s2 R2 r2 => ?_
  exact k _ env2 _ F2 H2 q2 (s1.trans s2) R2 (.cons (r1.mono s2) r2)
@[simp] def qTup (tr : TDA) : TD := fun env Q => tr env fun ds env1 => ds.length ≤ sizeLine ∧ Q (.tup ds) env1
@[simp] def qLst (tr : TDA) : TD := fun env Q => tr env fun ds env1 => ds.length ≤ sizeLine ∧ Q (.lst ds) env1
theorem de_tup {k : Nat} (h : DA X B es tr) : DE X B (.Tuple es k pos) (qTup tr) := by
  obtain ⟨te, p, h⟩ := h.ex
  refine ⟨_, pe_tup p, fun F H σ env Q Q' R ht k => ?_⟩
  refine h F H σ env _ _ R ht fun ds env1 vs F1 H1 q1 s1 R1 r1 => ?_
  refine ⟨by rw [r1.length]; exact q1.1, fun p hp => ?_⟩
  have sF : Same F1 (upd F1 p (.tup vs)) := same_upd (R1.freeF hp)
  exact k _ env1 _ _ _ q1.2 (s1.trans sF) (R1.alloc hp) (.tup (.of upd_same) (r1.mono sF))
theorem de_lst (h : DA X B es tr) : DE X B (.List es pos) (qLst tr) := by
  obtain ⟨te, p, h⟩ := h.ex
  refine ⟨_, pe_lst p, fun F H σ env Q Q' R ht k => ?_⟩
  refine h F H σ env _ _ R ht fun ds env1 vs F1 H1 q1 s1 R1 r1 => ?_
  refine ⟨by rw [r1.length]; exact q1.1, fun p hp => ?_⟩
  have sF : Same F1 (upd F1 p (.lst vs)) := same_upd (R1.freeF hp)
  exact k _ env1 _ _ _ q1.2 (s1.trans sF) (R1.alloc hp) (.lst upd_same (r1.mono sF))
@[simp] def qCl (s : SN) (tr : TDA) : TD := fun env Q => tr env fun ds env1 => s ds fun r => Q r env1
theorem cl_run {s : SN} {te : TA} {r : List V → Hp → VK → Prop} (hr : ∀ (F H : Hp) (xs : List V) (ds : List D) (Q : D → Prop) (Q' : VK), Same F H → RpA X.kw F xs ds → s ds Q →
      (∀ d' v F' H', Q d' → Stp F H F' H' → Rp X.kw F' v d' → Q' v H') → r xs H Q')
    (h : ∀ (F H : Hp) (σ : St) (env : DEnv) (Q : List D → DEnv → Prop) (Q' : List V → Hp → Prop), Rep X.kw B F H σ env → tr env Q →
      (∀ ds env' vs F' H', Q ds env' → Same F F' → Rep X.kw B F' H' σ env' → RpA X.kw F' vs ds → Q' vs H') → te σ H Q') :
    ∀ (F H : Hp) (σ : St) (env : DEnv) (Q : DK) (Q' : VK), Rep X.kw B F H σ env → qCl s tr env Q → (∀ d env' v F' H', Q d env' → Same F F' → Rep X.kw B F' H' σ env' → Rp X.kw F' v d → Q' v H') → tCB r te σ H Q' := by
  intro F H σ env Q Q' R ht k
  refine h F H σ env _ _ R ht fun ds env1 vs F1 H1 q1 s1 R1 r1 => ?_
  refine hr F1 H1 vs ds _ _ R1.sub r1 q1 fun d' v F3 H3 q3 s3 r3 => ?_
  exact k d' env1 v F3 H3 q3 (s1.trans (s3.same R1.sub)) (R1.stp s3) r3
theorem de_callB {x : Str} {p : Pos} {id : String} {s : SN} (hc : DCl X (.builtin id) s) (hg : Gl X x) (hm : X.mg x = none) (hv : bootBuiltins x = some (.builtin id)) (ha : DA X B (e :: es) tr) (hn : x ≠ "__name__" := by decide) (hdb : (x == ("__debug__" : Str)) = false := by decide)
    (he : starEach (e :: es) X.env = (false, eval e X.env) :: starEach es X.env := by rfl) (hpl : (backTo pos (starEach es X.env)).any (·.1) = false := by rfl) : DE X B (.Call (.Name x p) (e :: es) [] pos) (qCl s tr) := by
  obtain ⟨r, h, hr⟩ := hc
  obtain ⟨te, q, h1⟩ := ha.ex
  exact ⟨_, pe_callB h hg hm hv q hn hdb he hpl, cl_run hr h1⟩
theorem de_callTy {x : Str} {p : Pos} {T : String} {s : SN} (hc : DCl X (.type T) s) (hg : Gl X x) (hm : X.mg x = none) (hv : bootBuiltins x = some (.type T)) (ha : DA X B (e :: es) tr) (hn : x ≠ "__name__" := by decide) (hdb : (x == ("__debug__" : Str)) = false := by decide)
    (he : starEach (e :: es) X.env = (false, eval e X.env) :: starEach es X.env := by rfl) (hpl : (backTo pos (starEach es X.env)).any (·.1) = false := by rfl) : DE X B (.Call (.Name x p) (e :: es) [] pos) (qCl s tr) := by
  obtain ⟨r, h, hr⟩ := hc
  obtain ⟨te, q, h1⟩ := ha.ex
  exact ⟨_, pe_callTy h hg hm hv q hn hdb he hpl, cl_run hr h1⟩
/-! ### slices -/
abbrev TDO := DEnv → (Option Int → DEnv → Prop) → Prop
structure DO (X : Cx) (B : Bd) (e : Option Expr) (t : TDO) : Prop where
  ex : ∃ te, PO X e te ∧ ∀ (F H : Hp) (σ : St) (env : DEnv) (Q : Option Int → DEnv → Prop) (Q' : Option Int → Hp → Prop), Rep X.kw B F H σ env → t env Q →
    (∀ o env' F' H', Q o env' → Same F F' → Rep X.kw B F' H' σ env' → Q' o H') → te σ H Q'
@[simp] def qNoPart : TDO := fun env Q => Q none env
@[simp] def qPart (t : TD) : TDO := fun env Q => t env fun d env1 => match d with
  | .int i => Q (some i) env1
  | _ => False
theorem do_none : DO X B none qNoPart := ⟨_, po_none, fun F H σ env Q Q' R ht k => k none env F H ht (Same.refl _) R⟩
theorem do_some {t : TD} (h : DE X B e t) : DO X B (some e) (qPart t) := by
  obtain ⟨te, p, h⟩ := h.ex
  refine ⟨_, po_some p, fun F H σ env Q Q' R ht k => ?_⟩
  refine h F H σ env _ _ R ht fun d env' v F' H' q s' R' r' => ?_
  cases d with
  | int i => cases r' with
    | int _ => exact ⟨i, rfl, k _ env' F' H' q s' R'⟩
  | _ => exact q.elim
abbrev S3 := D → Option Int → Option Int → (D → Prop) → Prop
def DSl (X : Cx) (s : S3) : Prop :=
  ∃ r, SlR X r ∧ ∀ (F H : Hp) (x : V) (d : D) (lo hi : Option Int) (Q : D → Prop) (Q' : VK), Same F H → Rp X.kw F x d → s d lo hi Q →
    (∀ d' v F' H', Q d' → Stp F H F' H' → Rp X.kw F' v d' → Q' v H') → r x lo hi H Q'
@[simp] def qSl (s : S3) (t : TD) (tl th : TDO) : TD := fun env Q => t env fun d env1 => tl env1 fun lo env2 => th env2 fun hi env3 => s d lo hi fun r => Q r env3
theorem de_slice {s : S3} {lo hi : Option Expr} {tl th : TDO} {p2 : Pos} {t : TD} (hs : DSl X s) (he : DE X B e t) (hl : DO X B lo tl) (hh : DO X B hi th) : DE X B (.Subscript e (.Slice lo hi none p2) pos) (qSl s t tl th) := by
  obtain ⟨r, h, hr⟩ := hs
  obtain ⟨te, q, h1⟩ := he.ex
  obtain ⟨tel, ql, h2⟩ := hl.ex
  obtain ⟨teh, qh, h3⟩ := hh.ex
  refine ⟨_, pe_slice h q ql qh, fun F H σ env Q Q' R ht k => ?_⟩
  refine h1 F H σ env _ _ R ht fun d env1 v F1 H1 q1 s1 R1 r1 => ?_
  refine h2 F1 H1 σ env1 _ _ R1 q1 fun lo env2 F2 H2 q2 s2 R2 => ?_
  refine h3 F2 H2 σ env2 _ _ R2 q2 fun hi env3 F3 H3 q3 s3 R3 => ?_
  refine hr F3 H3 v d lo hi _ _ R3.sub (r1.mono (s2.trans s3)) q3 fun d' v F4 H4 q4 s4 r4 => ?_
  exact k d' env3 v F4 H4 q4 (((s1.trans s2).trans s3).trans (s4.same R3.sub)) (R3.stp s4) r4
end
end L2.DL

namespace L2.DL
open PySem PySem.Spec PyProof.Rows

/-! ### statements -/
structure DEnds where
  nx : DEnv → Prop
  rt : D → DEnv → Prop
  bk : DEnv → Prop := fun _ => False
  ct : DEnv → Prop := fun _ => False
  ro : OC → DEnv → Prop := fun _ _ => False
abbrev TDS := DEnds → DEnv → Prop
def Apart (p : Addr) (σ : St) (env : DEnv) : Prop := ∀ (i : Nat) (c : Cell), env[i]? = some c → p ∉ foot σ[i]? c
/-- a new object and its lists are apart from all that the names hold -/
def Apt (B : Bd) (F : Hp) (p : Addr) (c : OC) (σ : St) (env : DEnv) : Prop := Apart p σ env ∧ (p :: c.subs).Nodup ∧ ∀ b, b ∈ c.subs → F b = none ∧ B.H0 b = none ∧ B.P b = none ∧ Apart b σ env
theorem apt {B : Bd} {F : Hp} {p : Addr} {c : OC} {σ : St} {env : DEnv} (h : Apart p σ env) (hs : c.subs = [] := by rfl) : Apt B F p c σ env := ⟨h, by rw [hs]; simp, fun b m => by rw [hs] at m; cases m⟩
theorem Apt.sub {B : Bd} {F : Hp} {p : Addr} {c : OC} {σ σ' : St} {env env' : DEnv} (h : Apt B F p c σ env) (k : ∀ b, Apart b σ env → Apart b σ' env') : Apt B F p c σ' env' := ⟨k _ h.1, h.2.1, fun b m => ⟨(h.2.2 b m).1, (h.2.2 b m).2.1, (h.2.2 b m).2.2.1, k _ (h.2.2 b m).2.2.2⟩⟩
structure Lk (K : KW) (B : Bd) (F : Hp) (DD : DEnds) (DH : Ends) : Prop where
  nx : ∀ (env' : DEnv) (σ' : St) (F' H' : Hp), DD.nx env' → Same F F' → Rep K B F' H' σ' env' → DH.nx σ' H'
  rt : ∀ (d : D) (env' : DEnv) (v : V) (σ' : St) (F' H' : Hp), DD.rt d env' → Same F F' → Rep K B F' H' σ' env' → Rp K F' v d → DH.rt v H'
  bk : ∀ (env' : DEnv) (σ' : St) (F' H' : Hp), DD.bk env' → Same F F' → Rep K B F' H' σ' env' → DH.bk σ' H'
  ct : ∀ (env' : DEnv) (σ' : St) (F' H' : Hp), DD.ct env' → Same F F' → Rep K B F' H' σ' env' → DH.ct σ' H'
  ro : ∀ (c : OC) (env' : DEnv) (p : Addr) (σ' : St) (F' H' : Hp), DD.ro c env' → Same F F' → Rep K B F' H' σ' env' → OcOk K F' H' p c → F' p = none → B.H0 p = none → B.P p = none → Apt B F' p c σ' env' → DH.rt (.ref p) H'
theorem Lk.mono {K : KW} {B : Bd} {F F1 : Hp} {DD : DEnds} {DH : Ends} (l : Lk K B F DD DH) (s : Same F F1) : Lk K B F1 DD DH :=
  ⟨fun a b c d e f g => l.nx a b c d e (s.trans f) g, fun a b c d e f g h i j => l.rt a b c d e f g (s.trans h) i j, fun a b c d e f g => l.bk a b c d e (s.trans f) g, fun a b c d e f g => l.ct a b c d e (s.trans f) g, fun a b c d e f g h i => l.ro a b c d e f g (s.trans h) i⟩
structure DS (X : Cx) (B : Bd) (st : Stmt) (t : TDS) : Prop where
  ex : ∃ ts, PS X st ts ∧ ∀ (F H : Hp) (σ : St) (env : DEnv) (DD : DEnds) (DH : Ends), Rep X.kw B F H σ env → t DD env → Lk X.kw B F DD DH → ts DH σ H
structure DSs (X : Cx) (B : Bd) (st : List Stmt) (t : TDS) : Prop where
  ex : ∃ ts, PSs X st ts ∧ ∀ (F H : Hp) (σ : St) (env : DEnv) (DD : DEnds) (DH : Ends), Rep X.kw B F H σ env → t DD env → Lk X.kw B F DD DH → ts DH σ H
/-- targets; vs: the names stored -/
abbrev TDG := D → DEnv → (DEnv → Prop) → Prop
abbrev TDGs := List D → DEnv → (DEnv → Prop) → Prop
def Chg (vs : List Nat) (σ σ' : St) : Prop := σ'.length = σ.length ∧ ∀ i, i ∉ vs → σ'[i]? = σ[i]?
theorem Chg.refl {vs : List Nat} {σ : St} : Chg vs σ σ := ⟨rfl, fun _ _ => rfl⟩
theorem Chg.trans {vs : List Nat} {a b c : St} (h : Chg vs a b) (k : Chg vs b c) : Chg vs a c := ⟨k.1.trans h.1, fun i n => (k.2 i n).trans (h.2 i n)⟩
structure DG (X : Cx) (B : Bd) (tg : Expr) (vs : List Nat) (t : TDG) : Prop where
  ex : ∃ g, PG X tg g ∧ ∀ (F H : Hp) (σ : St) (env : DEnv) (d : D) (v : V) (Q : DEnv → Prop) (Q' : St → Hp → Prop), Rep X.kw B F H σ env → Rp X.kw F v d → t d env Q →
    (∀ env' σ', Q env' → Chg vs σ σ' → Rep X.kw B F H σ' env' → Q' σ' H) → g v σ H Q'
structure DGs (X : Cx) (B : Bd) (tgs : List Expr) (vs : List Nat) (t : TDGs) : Prop where
  ex : ∃ g, PGs X tgs g ∧ ∀ (F H : Hp) (σ : St) (env : DEnv) (ds : List D) (us : List V) (Q : DEnv → Prop) (Q' : St → Hp → Prop), Rep X.kw B F H σ env → RpA X.kw F us ds → t ds env Q →
    (∀ env' σ', Q env' → Chg vs σ σ' → Rep X.kw B F H σ' env' → Q' σ' H) → g us σ H Q'

section
variable {X : Cx} {B : Bd} {e a b c : Expr} {ta tb tc te : TD} {pos : Pos} {st : Stmt} {rest sts : List Stmt} {t u : TDS}
@[simp] def sNext : TDS := fun DD env => DD.nx env
@[simp] def sSeq (t u : TDS) : TDS := fun DD env => t { DD with nx := u DD } env
theorem dss_nil : DSs X B [] sNext := ⟨_, pss_nil, fun F H σ env DD DH R ht l => l.nx env σ F H ht (Same.refl _) R⟩
theorem dss_cons (h1 : DS X B st t) (h2 : DSs X B rest u) : DSs X B (st :: rest) (sSeq t u) := by
  obtain ⟨ts, p1, h1⟩ := h1.ex
  obtain ⟨us, p2, h2⟩ := h2.ex
  refine ⟨_, pss_cons p1 p2, fun F H σ env DD DH R ht l => ?_⟩
  refine h1 F H σ env _ _ R ht ⟨fun env' σ' F' H' q s R' => ?_, l.rt, l.bk, l.ct, l.ro⟩
  exact h2 F' H' σ' env' _ _ R' q (l.mono s)
theorem dss_one (h1 : DS X B st t) : DSs X B [st] t := by
  obtain ⟨ts, p1, h1⟩ := h1.ex
  exact ⟨_, pss_one p1, h1⟩
theorem ds_pass : DS X B (.Pass pos) sNext := ⟨_, ps_pass, fun F H σ env DD DH R ht l => l.nx env σ F H ht (Same.refl _) R⟩
@[simp] def sBreak : TDS := fun DD env => DD.bk env
@[simp] def sCont : TDS := fun DD env => DD.ct env
theorem ds_break : DS X B (.Break pos) sBreak := ⟨_, ps_break, fun F H σ env DD DH R ht l => l.bk env σ F H ht (Same.refl _) R⟩
theorem ds_continue : DS X B (.Continue pos) sCont := ⟨_, ps_continue, fun F H σ env DD DH R ht l => l.ct env σ F H ht (Same.refl _) R⟩
theorem ds_doc {x : Str} {j : Nat} {pos' : Pos} : DS X B (.Expr (.Constant (.str x) j pos) pos') sNext := ⟨_, ps_doc, fun F H σ env DD DH R ht l => l.nx env σ F H ht (Same.refl _) R⟩
@[simp] def sDrop (te : TD) : TDS := fun DD env => te env fun _ env1 => DD.nx env1
theorem ds_expr (he : DE X B e te) (hs : swapsWith e none pos.line X.env = pure false := by rfl) : DS X B (.Expr e pos) (sDrop te) := by
  obtain ⟨ts, p, h⟩ := he.ex
  refine ⟨_, ps_expr p hs, fun F H σ env DD DH R ht l => ?_⟩
  exact h F H σ env _ _ R ht fun d env' v F' H' q s R' _ => l.nx env' σ F' H' q s R'
@[simp] def sRet (te : TD) : TDS := fun DD env => te env DD.rt
theorem ds_ret (he : DE X B e te) : DS X B (.Return (some e) pos) (sRet te) := by
  obtain ⟨ts, p, h⟩ := he.ex
  refine ⟨_, ps_ret p, fun F H σ env DD DH R ht l => ?_⟩
  exact h F H σ env _ _ R ht fun d env' v F' H' q s R' r => l.rt d env' v σ F' H' q s R' r
@[simp] def sRetN : TDS := fun DD env => DD.rt .non env
theorem ds_retN : DS X B (.Return none pos) sRetN := ⟨_, ps_retN, fun F H σ env DD DH R ht l => l.rt .non env .non σ F H ht (Same.refl _) R .non⟩
@[simp] def sIf (c : TDT) (t u : TDS) : TDS := fun DD env => c env fun b env1 => match b with
  | true => t DD env1
  | false => u DD env1
theorem ds_if {c : Expr} {a b : List Stmt} {tc : TDT} (hc : DT X B c tc) (ha : DSs X B a t) (hb : DSs X B b u) : DS X B (.If c a b pos) (sIf tc t u) := by
  obtain ⟨tcs, p, h⟩ := hc.ex
  obtain ⟨ts, p1, h1⟩ := ha.ex
  obtain ⟨us, p2, h2⟩ := hb.ex
  refine ⟨_, ps_if p p1 p2, fun F H σ env DD DH R ht l => ?_⟩
  refine h F H σ env _ _ R ht fun b env' F' H' q s R' => ?_
  cases b with
  | true => exact iteT (h1 F' H' σ env' _ _ R' q (l.mono s))
  | false => exact iteF (h2 F' H' σ env' _ _ R' q (l.mono s))
@[simp] def sNever : TDS := fun _ _ => False
theorem ds_never : DS X B st sNever := ⟨_, ps_never, fun _ _ _ _ _ _ _ h _ => h.elim⟩
theorem dss_never : DSs X B sts sNever := ⟨_, pss_never, fun _ _ _ _ _ _ _ h _ => h.elim⟩

/-- a name's content is put, the row of names read at once -/
def setC : Nat → Cell → DEnv → (DEnv → Prop) → Prop
  | _, _, [], Q => Q []
  | 0, c, _ :: r, Q => Q (c :: r)
  | i + 1, c, a :: r, Q => setC i c r fun r' => Q (a :: r')
theorem setC_of : ∀ {i : Nat} {c : Cell} {env : DEnv} {Q : DEnv → Prop}, setC i c env Q → Q (env.set i c)
  | i, _, [], _, h => by cases i <;> exact h
  | 0, _, _ :: _, _, h => h
  | i + 1, c, a :: r, Q, h => setC_of (i := i) (c := c) (env := r) (Q := fun r' => Q (a :: r')) h
/-! ### targets -/
@[simp] def gN (i : Nat) : TDG := fun d env Q => setC i (.val d) env Q
theorem dg_name {i : Nat} {x : Str} (hN : X.N.Nodup) (hi : X.N[i]? = some x := by rfl) (hx : Loc X.env.scope x := by first | exact Or.inl rfl | exact Or.inr rfl) (hf : X.fn x = true ∨ X.env.scope.names.lookup x = some .local := by first | exact .inl rfl | exact .inr rfl | assumption) : DG X B (.Name x pos) [i] (gN i) := by
  refine ⟨_, pg_name (i := i) hN hi hx hf, fun F H σ env d v Q Q' R r ht k => ?_⟩
  refine k (env.set i (.val d)) (σ.set i (some v)) (setC_of ht) ⟨List.length_set, fun j n => ?_⟩ (R.set r i)
  exact List.getElem?_set_ne (fun e => n (by simp [e]))
@[simp] def gNilD : TDGs := fun ds env Q => ds = [] ∧ Q env
@[simp] def gConsD (t : TDG) (u : TDGs) : TDGs := fun ds env Q => match ds with
  | d :: r => t d env fun env1 => u r env1 Q
  | [] => False
theorem dgs_nil : DGs X B [] [] gNilD := by
  refine ⟨_, pgs_nil, fun F H σ env ds us Q Q' R r ht k => ?_⟩
  obtain ⟨rfl, ht⟩ := ht
  cases r
  exact ⟨rfl, k env σ ht .refl R⟩
theorem Chg.app {vs ws : List Nat} {σ σ1 σ2 : St} (h : Chg vs σ σ1) (k : Chg ws σ1 σ2) : Chg (vs ++ ws) σ σ2 :=
  ⟨k.1.trans h.1, fun i n => by
    rw [List.mem_append, not_or] at n
    exact (k.2 i n.2).trans (h.2 i n.1)⟩
theorem dgs_cons {es : List Expr} {vs ws : List Nat} {t : TDG} {u : TDGs} (h1 : DG X B e vs t) (h2 : DGs X B es ws u)
    (hs : (assignEach (e :: es) X.env).map (·.2) = assign e X.env :: (assignEach es X.env).map (·.2) := by rfl) : DGs X B (e :: es) (vs ++ ws) (gConsD t u) := by
  obtain ⟨g, p, h⟩ := h1.ex
  obtain ⟨g2, p2, h2⟩ := h2.ex
  refine ⟨_, pgs_cons p p2 hs, fun F H σ env ds us Q Q' R r ht k => ?_⟩
  cases r with
  | nil => exact ht.elim
  | cons r rr =>
    refine ⟨_, _, rfl, ?_⟩
    refine h F H σ env _ _ _ _ R r ht fun env1 σ1 q1 c1 R1 => ?_
    exact h2 F H σ1 env1 _ _ _ _ R1 rr q1 fun env2 σ2 q2 c2 R2 => k env2 σ2 q2 (c1.app c2) R2
@[simp] def gTupD (n : Nat) (t : TDGs) : TDG := fun d env Q => match d with
  | .tup ds => ds.length = n ∧ t ds env Q
  | _ => False
theorem dg_tup {es : List Expr} {k : Nat} {t : TDGs} {n : Nat} {vs : List Nat} (hc : X.calm = true) (h : DGs X B es vs t)
    (hn : (assignEach es X.env).length = n := by rfl) (hst : (assignEach es X.env).findIdx? (·.1) = none := by rfl) : DG X B (.Tuple es k pos) vs (gTupD n t) := by
  obtain ⟨g, p, h⟩ := h.ex
  refine ⟨_, pg_tup hc p hn hst, fun F H σ env d v Q Q' R r ht kk => ?_⟩
  cases r with
  | tup q ra => exact ⟨_, _, rfl, same_sqT R.sub q, ra.length.trans ht.1, h F H σ env _ _ _ _ R ra ht.2 kk⟩
  | _ => exact ht.elim
@[simp] def sAsg (te : TD) (g : TDG) : TDS := fun DD env => te env fun d env1 => g d env1 DD.nx
theorem ds_asg {tg : Expr} {g : TDG} {vs : List Nat} (he : DE X B e te) (hg : DG X B tg vs g) (hs : swapsWithSole [tg] e pos.line X.env = pure false := by rfl) (hw : swappedStores [tg] e X.env = pure none := by rfl)
    (h1 : (assignEach [tg] X.env).map (·.2) = [assign tg X.env] := by rfl) : DS X B (.Assign [tg] e pos) (sAsg te g) := by
  obtain ⟨ts, p, h⟩ := he.ex
  obtain ⟨gs, p2, h2⟩ := hg.ex
  refine ⟨_, ps_asg p p2 hs hw h1, fun F H σ env DD DH R ht l => ?_⟩
  refine h F H σ env _ _ R ht fun d env1 v F1 H1 q s1 R1 r1 => ?_
  exact h2 F1 H1 σ env1 d v _ _ R1 r1 q fun env2 σ2 q2 _ R2 => l.nx env2 σ2 F1 H1 q2 s1 R2
theorem ds_set {i : Nat} {x : Str} {pos' : Pos} (hN : X.N.Nodup) (he : DE X B e te) (hi : X.N[i]? = some x := by rfl) (hx : Loc X.env.scope x := by first | exact Or.inl rfl | exact Or.inr rfl) (hs : swapsWith e (some (.Name x pos')) pos.line X.env = pure false := by rfl) (hf : X.fn x = true ∨ X.env.scope.names.lookup x = some .local := by first | exact .inl rfl | exact .inr rfl | assumption) :
    DS X B (.Assign [.Name x pos'] e pos) (sAsg te (gN i)) := by
  obtain ⟨ts, p, h⟩ := he.ex
  refine ⟨_, ps_set (i := i) hN hi hx p hs hf, fun F H σ env DD DH R ht l => ?_⟩
  refine h F H σ env _ _ R ht fun d env1 v F1 H1 q s1 R1 r1 => ?_
  exact l.nx _ _ F1 H1 (setC_of q) s1 (R1.set r1 i)

/-! ### what a loop goes through -/
abbrev TDI := DEnv → (List D → DEnv → Prop) → Prop
def IterOk (K : KW) (J : It) (ds : List D) (F0 : Hp) : Prop :=
  ∀ (F H : Hp) (i : Nat), Same F0 F → Same F H → (i = ds.length → J.stop i H) ∧ ∀ d, ds[i]? = some d → J.go i H ∧ ∀ x H', J.yld i H x H' → ∃ F', Stp F H F' H' ∧ Rp K F' x d
structure DI (X : Cx) (B : Bd) (tg iter : Expr) (t : TDI) : Prop where
  ex : ∃ wi, PI X tg iter wi ∧ ∀ (F H : Hp) (σ : St) (env : DEnv) (Q : List D → DEnv → Prop) (R' : It → Hp → Prop), Rep X.kw B F H σ env → t env Q →
    (∀ ds env' J F' H', Q ds env' → Same F F' → Rep X.kw B F' H' σ env' → IterOk X.kw J ds F' → R' J H') → wi σ H R'
def forL0 (body : D → TDS) : List D → TDS
  | [], DD, env => DD.nx env
  | d :: r, DD, env => body d { nx := forL0 body r DD, ct := forL0 body r DD, bk := DD.nx, rt := DD.rt, ro := DD.ro } env
@[irreducible] def forL (body : D → TDS) : List D → TDS := forL0 body
theorem forL_nil (body : D → TDS) (DD : DEnds) (env : DEnv) : forL body [] DD env = DD.nx env := by unfold forL; rfl
theorem forL_cons (body : D → TDS) (d : D) (r : List D) (DD : DEnds) (env : DEnv) : forL body (d :: r) DD env = body d { nx := forL body r DD, ct := forL body r DD, bk := DD.nx, rt := DD.rt, ro := DD.ro } env := by unfold forL; rfl
@[simp] def sFor (ti : TDI) (g : TDG) (tb : TDS) : TDS := fun DD env => ti env fun ds env1 => forL (fun d DD env => g d env fun env2 => tb DD env2) ds DD env1
theorem ds_for {tg iter : Expr} {body : List Stmt} {ti : TDI} {g : TDG} {tb : TDS} {vs : List Nat} (hp : PassesOwn (model X.prog X.w) X.A X.env X.xe) (hc : X.calm = true) (hi : DI X B tg iter ti) (hg : DG X B tg vs g) (hb : DSs X B body tb)
    (hs : ∀ x, foldedSetIterable iter X.env x = pure x := by intro _; rfl) : DS X B (.For tg iter body [] pos) (sFor ti g tb) := by
  obtain ⟨wi, p, h⟩ := hi.ex
  obtain ⟨gs, p2, h2⟩ := hg.ex
  obtain ⟨ts, p3, h3⟩ := hb.ex
  refine ⟨_, ps_for hp hc p p2 p3 hs, fun F H σ env DD DH R ht l => ?_⟩
  refine h F H σ env _ _ R ht fun ds env1 J F1 H1 q s1 R1 io => ?_
  have l1 := l.mono s1
  refine ⟨fun i m σ H => ∃ F env, Same F1 F ∧ Rep X.kw B F H σ env ∧ forL (fun d DD env => g d env fun env2 => tb DD env2) (ds.drop i) DD env ∧ m = ds.length - i ∧ i ≤ ds.length,
    ⟨ds.length, F1, env1, Same.refl _, R1, by simpa using q, by simp, Nat.zero_le _⟩, ?_⟩
  rintro i m σ3 H3 ⟨F3, env3, s3, R3, q3, rfl, hle⟩
  obtain ⟨i1, i2⟩ := io F3 H3 i s3 R3.sub
  by_cases hlt : i < ds.length
  · have hd : ds[i]? = some ds[i] := List.getElem?_eq_getElem hlt
    obtain ⟨go, yl⟩ := i2 _ hd
    rw [List.drop_eq_getElem_cons hlt, forL_cons] at q3
    refine .inr ⟨go, fun σ H => ∃ F env, Same F1 F ∧ Rep X.kw B F H σ env ∧ forL (fun d DD env => g d env fun env2 => tb DD env2) (ds.drop (i + 1)) DD env, ?_, ?_⟩
    · rintro σ' H' ⟨F', env', s', R', q'⟩
      exact ⟨ds.length - (i + 1), by omega, F', env', s', R', q', rfl, hlt⟩
    · intro x H4 y4
      obtain ⟨F4, st4, r4⟩ := yl x H4 y4
      have R4 := R3.stp st4
      have s4 := s3.trans (st4.same R3.sub)
      refine h2 F4 H4 σ3 env3 _ x _ _ R4 r4 q3 fun env5 σ5 q5 _ R5 => ?_
      refine h3 F4 H4 σ5 env5 _ _ R5 q5 ⟨?_, fun d env' v σ' F' H' q s R' r' => l1.rt d env' v σ' F' H' q (s4.trans s) R' r', fun env' σ' F' H' q s R' => l1.nx env' σ' F' H' q (s4.trans s) R', ?_, fun c env' p σ' F' H' q s => l1.ro c env' p σ' F' H' q (s4.trans s)⟩
      · exact fun env' σ' F' H' q s R' => ⟨F', env', s4.trans s, R', q⟩
      · exact fun env' σ' F' H' q s R' => ⟨F', env', s4.trans s, R', q⟩
  · have e : i = ds.length := by omega
    refine .inl ⟨i1 e, ?_⟩
    rw [e, List.drop_length, forL_nil] at q3
    exact l1.nx env3 σ3 F3 H3 q3 s3 R3
/-- by what holds and a number that falls -/
def sWhile (tc : TDT) (tb : TDS) : TDS := fun DD env => ∃ W : Nat → DEnv → Prop, (∃ m, W m env) ∧ ∀ m env, W m env → tc env fun b env1 => match b with
  | true => tb { nx := fun e => ∃ m', m' < m ∧ W m' e, ct := fun e => ∃ m', m' < m ∧ W m' e, bk := DD.nx, rt := DD.rt, ro := DD.ro } env1
  | false => DD.nx env1
theorem ds_while {c : Expr} {body : List Stmt} {tc : TDT} {tb : TDS} (hp : PassesOwn (model X.prog X.w) X.A X.env X.xe) (hc : DT X B c tc) (hb : DSs X B body tb) : DS X B (.While c body [] pos) (sWhile tc tb) := by
  obtain ⟨tcs, p, h⟩ := hc.ex
  obtain ⟨ts, p3, h3⟩ := hb.ex
  refine ⟨_, ps_while hp p p3, fun F H σ env DD DH R ht l => ?_⟩
  obtain ⟨W, ⟨m0, w0⟩, turn⟩ := ht
  refine ⟨fun m σ H => ∃ F' env, Same F F' ∧ Rep X.kw B F' H σ env ∧ W m env, ⟨m0, F, env, Same.refl _, R, w0⟩, ?_⟩
  rintro m σ1 H1 ⟨F1, env1, s1, R1, w1⟩
  refine h F1 H1 σ1 env1 _ _ R1 (turn m env1 w1) fun b env2 F2 H2 q2 s2 R2 => ?_
  cases b with
  | true =>
    refine iteT ⟨fun σ H => ∃ m' F' env, m' < m ∧ Same F F' ∧ Rep X.kw B F' H σ env ∧ W m' env, ?_, ?_⟩
    · rintro σ' H' ⟨m', F', env', hm, s', R', w'⟩
      exact ⟨m', hm, F', env', s', R', w'⟩
    · refine h3 F2 H2 σ1 env2 _ _ R2 q2 ⟨?_, fun d env' v σ' F' H' q s R' r' => l.rt d env' v σ' F' H' q ((s1.trans s2).trans s) R' r', fun env' σ' F' H' q s R' => l.nx env' σ' F' H' q ((s1.trans s2).trans s) R', ?_, fun c env' p σ' F' H' q s => l.ro c env' p σ' F' H' q ((s1.trans s2).trans s)⟩
      · rintro env' σ' F' H' ⟨m', hm, w'⟩ s R'
        exact ⟨m', F', env', hm, (s1.trans s2).trans s, R', w'⟩
      · rintro env' σ' F' H' ⟨m', hm, w'⟩ s R'
        exact ⟨m', F', env', hm, (s1.trans s2).trans s, R', w'⟩
  | false => exact iteF (l.nx env2 σ1 F2 H2 q2 (s1.trans s2) R2)
/-- lists, tuples -/
@[simp] def qSeqI (t : TD) : TDI := fun env Q => t env fun d env1 => match d with
  | .lst ds => Q ds env1
  | .scr ds => Q ds env1
  | _ => False
@[simp] def qTupI (t : TD) : TDI := fun env Q => t env fun d env1 => match d with
  | .tup ds => Q ds env1
  | _ => False
theorem di_list {tg l : Expr} {t : TD} (hl : DE X B l t) : DI X B tg l (qSeqI t) := by
  obtain ⟨ts, p, h⟩ := hl.ex
  refine ⟨_, pi_list p, fun F H σ env Q R' R ht k => ?_⟩
  refine h F H σ env _ _ R ht fun d env1 v F1 H1 q1 s1 R1 r1 => ?_
  have key : ∀ {a : Addr} {vs : List V} {ds : List D}, SqL X.kw F1 a vs → RpA X.kw F1 vs ds → Q ds env1 → ∃ a', V.ref a = V.ref a' ∧ (∃ xs, SqL X.kw H1 a' xs) ∧ R' (Itl X.kw a') H1 := by
    intro a vs ds hs ra q1
    refine ⟨a, rfl, ⟨vs, R1.sub.seq hs⟩, k _ env1 _ F1 H1 q1 s1 R1 fun F H i s0 sH => ?_⟩
    have hq := sH.seq (s0.seq hs)
    refine ⟨fun e => ⟨vs, hq, by rw [ra.length, e]; exact Nat.le_refl _⟩, fun d e => ?_⟩
    obtain ⟨v, hv, rv⟩ := ra.get e
    refine ⟨⟨vs, v, hq, hv⟩, ?_⟩
    rintro x H' ⟨rfl, y⟩
    have := y vs hq
    rw [hv] at this; cases this
    exact ⟨F, .nil, rv.mono s0⟩
  cases r1 with
  | lst hs ra => exact key (.of hs) ra q1
  | scr hs ra => exact key hs ra q1
  | _ => exact q1.elim
theorem di_tup {tg l : Expr} {t : TD} (hl : DE X B l t) : DI X B tg l (qTupI t) := by
  obtain ⟨ts, p, h⟩ := hl.ex
  refine ⟨_, pi_tup p, fun F H σ env Q R' R ht k => ?_⟩
  refine h F H σ env _ _ R ht fun d env1 v F1 H1 q1 s1 R1 r1 => ?_
  cases r1 with
  | @tup a vs ds hs ra =>
    refine ⟨a, rfl, ⟨vs, same_sqT R1.sub hs⟩, k _ env1 _ F1 H1 q1 s1 R1 fun F H i s0 sH => ?_⟩
    have hq := same_sqT sH (same_sqT s0 hs)
    refine ⟨fun e => ⟨vs, hq, by rw [ra.length, e]; exact Nat.le_refl _⟩, fun d e => ?_⟩
    obtain ⟨v, hv, rv⟩ := ra.get e
    refine ⟨⟨vs, v, hq, hv⟩, ?_⟩
    rintro x H' ⟨rfl, y⟩
    have := y vs hq
    rw [hv] at this; cases this
    exact ⟨F, .nil, rv.mono s0⟩
  | _ => exact q1.elim
def rgD (lo : Int) (n : Nat) : List D := (List.range n).map fun (i : Nat) => D.int (lo + (i : Int))
theorem rgD_get {lo : Int} {n i : Nat} : (rgD lo n)[i]? = if i < n then some (D.int (lo + i)) else none := by
  unfold rgD
  rw [List.getElem?_map]
  by_cases h : i < n
  · rw [List.getElem?_range h, if_pos h]; rfl
  · rw [List.getElem?_eq_none (by simpa using Nat.le_of_not_lt h), if_neg h]; rfl
theorem rgD_len {lo : Int} {n : Nat} : (rgD lo n).length = n := by unfold rgD; simp
theorem iter_range {K : KW} {lo : Int} {n : Nat} {F0 : Hp} : IterOk K (Itr lo n) (rgD lo n) F0 := fun F H i s0 sH => by
  refine ⟨fun e => by rw [rgD_len] at e; exact Nat.le_of_eq e.symm, fun d e => ?_⟩
  rw [rgD_get] at e
  by_cases h : i < n
  · rw [if_pos h] at e; cases e
    refine ⟨h, ?_⟩
    rintro x H' ⟨rfl, rfl⟩
    exact ⟨F, .nil, .int _⟩
  · rw [if_neg h] at e; cases e
@[simp] def SmallR (i : Int) : Prop := -(2 ^ 62) ≤ i ∧ i < 2 ^ 62
@[simp] def qRg1 (tr : TDA) : TDI := fun env Q => tr env fun ds env1 => match ds with
  | [.int j] => SmallR j ∧ Q (rgD 0 j.toNat) env1
  | _ => False
@[simp] def qRg2 (tr : TDA) : TDI := fun env Q => tr env fun ds env1 => match ds with
  | [.int i, .int j] => SmallR i ∧ SmallR j ∧ Q (rgD i (j - i).toNat) env1
  | _ => False
theorem RpA.int1 {K : KW} {F : Hp} {vs : List V} {i : Int} (r : RpA K F vs [.int i]) : vs = [.int i] := by
  cases r with
  | cons r rr => cases rr; cases r; rfl
theorem RpA.int2 {K : KW} {F : Hp} {vs : List V} {i j : Int} (r : RpA K F vs [.int i, .int j]) : vs = [.int i, .int j] := by
  cases r with
  | cons r rr => cases r; rw [rr.int1]
theorem di_range1 {tg a : Expr} {tr : TDA} {p : Pos} (hg : Gl X "range") (hm : X.mg "range" = none) (ha : DA X B [a] tr) (hs : starEach [a] X.env = [(false, eval a X.env)] := by rfl) : DI X B tg (.Call (.Name "range" p) [a] [] pos) (qRg1 tr) := by
  obtain ⟨ts, q, h⟩ := ha.ex
  refine ⟨_, pi_range1 hg hm q hs, fun F H σ env Q R' R ht k => ?_⟩
  refine h F H σ env _ _ R ht fun ds env1 vs F1 H1 q1 s1 R1 r1 => ?_
  split at q1
  · obtain ⟨⟨h1, h2⟩, q1⟩ := q1
    exact ⟨_, r1.int1, h1, h2, k _ env1 _ F1 H1 q1 s1 R1 iter_range⟩
  · exact q1.elim
theorem di_range2 {tg a b : Expr} {tr : TDA} {p : Pos} (hg : Gl X "range") (hm : X.mg "range" = none) (ha : DA X B [a, b] tr) (hs : starEach [a, b] X.env = [(false, eval a X.env), (false, eval b X.env)] := by rfl) (hs2 : starEach [b] X.env = [(false, eval b X.env)] := by rfl) :
    DI X B tg (.Call (.Name "range" p) [a, b] [] pos) (qRg2 tr) := by
  obtain ⟨ts, q, h⟩ := ha.ex
  refine ⟨_, pi_range2 hg hm q hs hs2, fun F H σ env Q R' R ht k => ?_⟩
  refine h F H σ env _ _ R ht fun ds env1 vs F1 H1 q1 s1 R1 r1 => ?_
  split at q1
  · obtain ⟨⟨h1, h2⟩, ⟨h3, h4⟩, q1⟩ := q1
    exact ⟨_, _, r1.int2, ⟨h1, h2, h3, h4⟩, k _ env1 _ F1 H1 q1 s1 R1 iter_range⟩
  · exact q1.elim
end
end L2.DL

namespace L2.DL
open PySem PySem.Spec PyProof.Rows

@[simp] def OC.frz : OC → D
  | .lst xs => .lst xs
  | .dct kvs => .dct kvs
  | .dcn kvs => .dcn kvs
  | .dl kvs => .dcn (kvs.map fun p => (p.1, .lst p.2.2))
  | .obj n fs => .ins n (fs.map fun p => (p.1, match p.2 with | .d x => x | .l _ xs => .lst xs))
  | .tl pre _ xs => .tup (pre ++ [.lst xs])
  | .exn _ a => .atm (.ref a)
section
variable {K : KW} {B : Bd} {F F' H H' : Hp} {σ : St} {env : DEnv} {v : V} {d : D} {i : Nat} {c : OC} {p : Addr}
theorem Rep.newp (R : Rep K B F H σ env) (h : H p = none) : F p = none ∧ B.H0 p = none ∧ B.P p = none ∧ Apart p σ env := by
  refine ⟨R.freeF h, ?_, R.pin.free h, fun i c e q => ?_⟩
  · cases z : B.H0 p with
    | none => rfl
    | some o =>
      by_cases m : B.M p
      · exact absurd h (R.mh p m)
      · rw [R.fix p o z m] at h; cases h
  · exact ((R.cells i c e).own_foot p q).2.1 h
/-- an object of one's own becomes data -/
theorem Rep.keepF (R : Rep K B F H σ env) {o : HO} (hH : H p = some o) (hF : F p = none) (h0 : B.H0 p = none) (hP : B.P p = none) (ap : Apart p σ env) : Rep K B (upd F p o) H σ env where
  len := R.len
  sub := fun b x e => by
    by_cases q : b = p
    · subst q; rw [upd_same] at e; rw [hH]; exact e
    · rw [upd_ne q] at e; exact R.sub _ _ e
  fix := R.fix
  gro := R.gro.trans (same_upd hF)
  new := fun b e n => by
    by_cases q : b = p
    · subst q; exact h0
    · rw [upd_ne q] at n; exact R.new b e n
  mf := fun b m => by
    have q : b ≠ p := fun q => by subst q; exact R.m0 b m h0
    rw [upd_ne q]; exact R.mf b m
  mh := R.mh
  m0 := R.m0
  pin := R.pin
  mp := R.mp
  pf := fun b x e => by
    have q : b ≠ p := fun q => by subst q; rw [hP] at e; cases e
    rw [upd_ne q]; exact R.pf b x e
  cells := fun j c e => (R.cells j c e).mono (same_upd hF) fun a s n f => ⟨rfl, by
    have q : a ≠ p := fun q => by subst q; exact ap j c e s
    rw [upd_ne q]; exact f⟩
  dis := R.dis
theorem FdOk.keep : ∀ {vs : List (Str × V)} {fs : List (Str × Fd)} {F : Hp}, Rep K B F H σ env → FdOk K F H vs fs → (fdSubs fs).Nodup → (∀ b, b ∈ fdSubs fs → F b = none ∧ B.H0 b = none ∧ B.P b = none ∧ Apart b σ env) →
    ∃ F', Same F F' ∧ Rep K B F' H σ env ∧ RpF K F' vs (fs.map fun p => (p.1, match p.2 with | .d x => x | .l _ xs => .lst xs)) ∧ ∀ b, b ∉ fdSubs fs → F' b = F b
  | _, _, F, R, .nil, _, _ => ⟨F, Same.refl _, R, .nil, fun _ _ => rfl⟩
  | _, _, F, R, .d h t, nd, hb => by
    obtain ⟨F', s, R', r, u⟩ := FdOk.keep R t nd hb
    exact ⟨F', s, R', .cons (h.mono s) r, u⟩
  | _, _, F, R, .l (b := b) (ws := ws) h r t, nd, hb => by
    obtain ⟨n1, n2⟩ := List.nodup_cons.mp nd
    obtain ⟨F', s, R', q, u⟩ := FdOk.keep R t n2 fun c m => hb c (List.mem_cons_of_mem _ m)
    obtain ⟨h1, h2, h3, h4⟩ := hb b List.mem_cons_self
    have hF : F' b = none := by rw [u b n1]; exact h1
    have sF : Same F' (upd F' b (.lst ws)) := same_upd hF
    refine ⟨_, s.trans sF, R'.keepF h hF h2 h3 h4, .cons (.lst upd_same (r.mono (s.trans sF))) (q.mono sF), fun c m => ?_⟩
    rw [upd_ne (fun z => m (by rw [z]; exact List.mem_cons_self))]
    exact u c fun z => m (List.mem_cons_of_mem _ z)
theorem DlOk.keep : ∀ {vs : List (NestedKey × Addr × V)} {kvs : List (D × Addr × List D)} {F : Hp}, Rep K B F H σ env → DlOk K F H vs kvs → (kvs.map fun p => p.2.1).Nodup → (∀ b, b ∈ (kvs.map fun p => p.2.1) → F b = none ∧ B.H0 b = none ∧ B.P b = none ∧ Apart b σ env) →
    ∃ F', Same F F' ∧ Rep K B F' H σ env ∧ RpN K F' vs (kvs.map fun p => (p.1, .lst p.2.2)) ∧ ∀ b, b ∉ (kvs.map fun p => p.2.1) → F' b = F b
  | _, _, F, R, .nil, _, _ => ⟨F, Same.refl _, R, .nil, fun _ _ => rfl⟩
  | _, _, F, R, .cons (c := b) (ws := ws) k h g r t, nd, hb => by
    obtain ⟨n1, n2⟩ := List.nodup_cons.mp nd
    obtain ⟨F', s, R', q, u⟩ := DlOk.keep R t n2 fun c m => hb c (List.mem_cons_of_mem _ m)
    obtain ⟨h1, h2, h3, h4⟩ := hb b List.mem_cons_self
    have hF : F' b = none := by rw [u b n1]; exact h1
    have sF : Same F' (upd F' b (.lst ws)) := same_upd hF
    refine ⟨_, s.trans sF, R'.keepF g hF h2 h3 h4, .cons k (h.mono (s.trans sF)) (.lst upd_same (r.mono (s.trans sF))) (q.mono sF), fun c m => ?_⟩
    rw [upd_ne (fun z => m (by rw [z]; exact List.mem_cons_self))]
    exact u c fun z => m (List.mem_cons_of_mem _ z)
/-- an object of one's own, all of it, becomes data -/
theorem Rep.keepC (R : Rep K B F H σ env) (h : OcOk K F H p c) (hF : F p = none) (h0 : B.H0 p = none) (hP : B.P p = none) (ap : Apt B F p c σ env) : ∃ F', Same F F' ∧ Rep K B F' H σ env ∧ Rp K F' (.ref p) c.frz := by
  obtain ⟨ap, nd, hb⟩ := ap
  cases c with
  | lst xs => obtain ⟨vs, h1, h2⟩ := h; exact ⟨_, same_upd hF, R.keepF h1 hF h0 hP ap, .lst upd_same (h2.mono (same_upd hF))⟩
  | dct xs => obtain ⟨vs, h1, h2⟩ := h; exact ⟨_, same_upd hF, R.keepF h1 hF h0 hP ap, .dct upd_same (h2.mono (same_upd hF))⟩
  | dcn xs => obtain ⟨vs, ⟨o, h1⟩, h2⟩ := h; exact ⟨_, same_upd hF, R.keepF h1 hF h0 hP ap, .dcn upd_same (h2.mono (same_upd hF))⟩
  | dl kvs =>
    obtain ⟨vs, ⟨o, h1⟩, h2⟩ := h
    obtain ⟨n1, n2⟩ := List.nodup_cons.mp nd
    obtain ⟨F', s, R', r, u⟩ := DlOk.keep R h2 n2 hb
    have hF' : F' p = none := by rw [u p n1]; exact hF
    exact ⟨_, s.trans (same_upd hF'), R'.keepF h1 hF' h0 hP ap, .dcn upd_same (r.mono (same_upd hF'))⟩
  | obj n fs =>
    obtain ⟨C, dx, vs, h0', h1, h2⟩ := h
    obtain ⟨n1, n2⟩ := List.nodup_cons.mp nd
    obtain ⟨F', s, R', r, u⟩ := FdOk.keep R h2 n2 hb
    have hF' : F' p = none := by rw [u p n1]; exact hF
    exact ⟨_, s.trans (same_upd hF'), R'.keepF h1 hF' h0 hP ap, .ins h0' upd_same (r.mono (same_upd hF'))⟩
  | exn n a => obtain ⟨h0', _⟩ := h; subst h0'; exact ⟨F, Same.refl _, R, .atm _⟩
  | tl pre b xs =>
    obtain ⟨vs, ws, h1, h2, h3, h4⟩ := h
    obtain ⟨n1, _⟩ := List.nodup_cons.mp nd
    obtain ⟨b1, b2, b3, b4⟩ := hb b List.mem_cons_self
    have s1 : Same F (upd F b (.lst ws)) := same_upd b1
    have hF' : upd F b (.lst ws) p = none := by rw [upd_ne fun z => n1 (by rw [z]; exact List.mem_cons_self)]; exact hF
    have s2 : Same (upd F b (.lst ws)) (upd (upd F b (.lst ws)) p (.tup (vs ++ [.ref b]))) := same_upd hF'
    exact ⟨_, s1.trans s2, (R.keepF h3 b1 b2 b3 b4).keepF h1 hF' h0 hP ap, .tup (.inl (.inl upd_same)) ((h2.mono (s1.trans s2)).append (.one (.lst (s2 _ _ upd_same) (h4.mono (s1.trans s2)))))⟩
theorem Rep.setCell (R : Rep K B F H σ env) {cl : Cell} (i : Nat) (hc : i < env.length → CellOk K B F H (some (some v)) i cl) (hd : ∀ a, a ∈ foot (some (some v)) cl → ∀ (j : Nat) (c : Cell), j ≠ i → env[j]? = some c → a ∉ foot σ[j]? c) :
    Rep K B F H (σ.set i (some v)) (env.set i cl) where
  len := by rw [List.length_set, List.length_set]; exact R.len
  sub := R.sub
  fix := R.fix
  gro := R.gro
  new := R.new
  mf := R.mf
  mh := R.mh
  m0 := R.m0
  pin := R.pin
  mp := R.mp
  pf := R.pf
  cells := fun j c e => by
    by_cases q : i = j
    · subst q
      have hl : i < env.length := by
        have := (List.getElem?_eq_some_iff.mp e).1
        rw [List.length_set] at this; exact this
      rw [List.getElem?_set_self hl] at e
      cases e
      rw [List.getElem?_set_self (by rw [← R.len]; exact hl)]
      exact hc hl
    · rw [List.getElem?_set_ne q] at e ⊢
      exact R.cells j c e
  dis := fun j k a c c' e1 e2 s1 s2 => by
    have at_i : ∀ {j : Nat} {c : Cell}, i = j → (env.set i cl)[j]? = some c → a ∈ foot (σ.set i (some v))[j]? c → c = cl ∧ a ∈ foot (some (some v)) cl := by
      intro j c q e s
      subst q
      have hl : i < env.length := by
        have := (List.getElem?_eq_some_iff.mp e).1
        rw [List.length_set] at this; exact this
      rw [List.getElem?_set_self hl] at e
      rw [List.getElem?_set_self (by rw [← R.len]; exact hl)] at s
      cases e; exact ⟨rfl, s⟩
    by_cases q : i = j
    · by_cases q' : i = k
      · exact q.symm.trans q'
      · obtain ⟨rfl, m⟩ := at_i q e1 s1
        rw [List.getElem?_set_ne q'] at e2 s2
        exact absurd s2 (hd a m k c' (Ne.symm q') e2)
    · by_cases q' : i = k
      · obtain ⟨rfl, m⟩ := at_i q' e2 s2
        rw [List.getElem?_set_ne q] at e1 s1
        exact absurd s1 (hd a m j c (Ne.symm q) e1)
      · rw [List.getElem?_set_ne q] at e1 s1
        rw [List.getElem?_set_ne q'] at e2 s2
        exact R.dis j k a c c' e1 e2 s1 s2
theorem Rep.setOwn (R : Rep K B F H σ env) (i : Nat) (h : OcOk K F H p c) (hF : F p = none) (h0 : B.H0 p = none) (hP : B.P p = none) (ap : Apt B F p c σ env) : Rep K B F H (σ.set i (some (.ref p))) (env.set i (.own true c)) :=
  R.setCell i (fun _ => ⟨p, rfl, h, hF, hP, by simpa using h0, ap.2.1, fun b m => ⟨(ap.2.2 b m).1, (ap.2.2 b m).2.2.1, .inl (ap.2.2 b m).2.1⟩⟩) fun a m j cl _ ej => by
    rcases List.mem_cons.mp (show a ∈ p :: c.subs from m) with z | z
    · rw [z]; exact ap.1 j cl ej
    · exact (ap.2.2 a z).2.2.2 j cl ej
theorem set_id {α : Type} {l : List α} {i : Nat} {x : α} (h : l[i]? = some x) : l.set i x = l := by
  apply List.ext_getElem?
  intro j
  by_cases q : i = j
  · subst q
    rw [List.getElem?_set_self (List.getElem?_eq_some_iff.mp h).1, h]
  · rw [List.getElem?_set_ne q]
theorem Rep.clear (R : Rep K B F H σ env) (i : Nat) : Rep K B F H σ (env.set i .none) := R.weak (by simp) fun j cl q => by
  by_cases w : i = j
  · subst w
    have hl : i < env.length := by
      have := (List.getElem?_eq_some_iff.mp q).1
      rw [List.length_set] at this; exact this
    rw [List.getElem?_set_self hl] at q
    cases q; exact .inr rfl
  · rw [List.getElem?_set_ne w] at q; exact .inl q
/-- what a cell held is apart from all other cells -/
theorem Rep.apart (R : Rep K B F H σ env) {cl : Cell} (e : env[i]? = some cl) {b : Addr} (m : b ∈ foot σ[i]? cl) : Apart b σ (env.set i .none) := fun j c q z => by
  by_cases y : i = j
  · subst y
    rw [List.getElem?_set_self (List.getElem?_eq_some_iff.mp e).1] at q
    cases q; rw [foot_none] at z; cases z
  · rw [List.getElem?_set_ne y] at q
    exact y (R.dis i j b _ _ e q m z)
theorem Rep.aptAt (R : Rep K B F H σ env) (e : env[i]? = some (.own true c)) : ∃ a, σ[i]? = some (some (.ref a)) ∧ OcOk K F H a c ∧ F a = none ∧ B.H0 a = none ∧ B.P a = none ∧ Apt B F a c σ (env.set i .none) := by
  obtain ⟨a, s, h, hF, hP, h0, nd, hs⟩ := R.cells i _ e
  refine ⟨a, s, h, hF, by simpa using h0, hP, R.apart e (by rw [s]; exact List.mem_cons_self), nd, fun b m => ?_⟩
  obtain ⟨h1, h2, h3⟩ := hs b m
  refine ⟨h1, ?_, h2, R.apart e (by rw [s]; exact List.mem_cons_of_mem _ m)⟩
  rcases h3 with h3 | ⟨h3, _⟩
  · exact h3
  · cases h3
/-- a name's own object becomes data -/
theorem Rep.freezeAt (R : Rep K B F H σ env) (e : env[i]? = some (.own true c)) : ∃ F', Same F F' ∧ Rep K B F' H σ (env.set i (.val c.frz)) := by
  obtain ⟨a, s, h, hF, h0, hP, ap⟩ := R.aptAt e
  obtain ⟨F', sF, R2, r⟩ := (R.clear i).keepC h hF h0 hP ap
  refine ⟨F', sF, ?_⟩
  have R3 := R2.set r i
  rw [List.set_set, set_id s] at R3
  exact R3
/-- a name's own object changes -/
theorem Rep.writeC (R : Rep K B F H σ env) {fr : Bool} {c c' : OC} {a : Addr} (e : env[i]? = some (.own fr c)) (s : σ[i]? = some (some (.ref a))) (keep : ∀ b, b ∉ a :: c.subs → H b ≠ none → H' b = H b) (h : OcOk K F H' a c') (nd : (a :: c'.subs).Nodup) (th : ∀ b, b ∈ a :: c.subs → H' b ≠ none) (sb : ∀ b, b ∈ c'.subs → b ∈ c.subs ∨ (F b = none ∧ B.H0 b = none ∧ B.P b = none ∧ Apart b σ (env.set i .none))) : Rep K B F H' σ (env.set i (.own fr c')) := by
  obtain ⟨a', s', hc, hF, hP, h0, nd0, hs⟩ := R.cells i _ e
  rw [s] at s'; cases s'
  have fo : ∀ b, b ∈ a :: c.subs → b ∈ foot σ[i]? (.own fr c) := fun b m => by rw [s]; exact m
  have own : ∀ b, b ∈ a :: c.subs → F b = none ∧ H b ≠ none ∧ B.P b = none ∧ (B.H0 b = none ∨ B.M b) := fun b m => (R.cells i _ e).own_foot b (fo b m)
  have stay : ∀ b x, H b = some x → (b ∈ a :: c.subs → False) → H' b = some x := fun b x q n => by rw [keep b n (by rw [q]; simp)]; exact q
  have sub : Same F H' := fun b x q => stay b x (R.sub _ _ q) fun m => by rw [(own b m).1] at q; cases q
  have R1 : Rep K B F H' σ (env.set i .none) := by
    refine ⟨by rw [List.length_set]; exact R.len, sub, fun b x q m => ?_, R.gro, R.new, R.mf, fun b m => ?_, R.m0, fun b x q => ?_, R.mp, R.pf, fun j cl q => ?_, ?_⟩
    · refine stay b x (R.fix b x q m) fun z => ?_
      rcases (own b z).2.2.2 with y | y
      · rw [y] at q; cases q
      · exact m y
    · by_cases z : b ∈ a :: c.subs
      · exact th b z
      · rw [keep b z (R.mh b m)]; exact R.mh b m
    · exact stay b x (R.pin _ _ q) fun m => by rw [(own b m).2.2.1] at q; cases q
    · by_cases w : i = j
      · subst w
        rw [List.getElem?_set_self (List.getElem?_eq_some_iff.mp e).1] at q
        cases q; trivial
      · rw [List.getElem?_set_ne w] at q
        refine (R.cells j cl q).mono (Same.refl _) fun b m n f => ⟨keep b (fun z => w (R.dis i j b _ _ e q (fo b z) m)) n, f⟩
    · intro j k b cl cl' e1 e2 s1 s2
      have n1 : i ≠ j := fun z => by
        subst z
        rw [List.getElem?_set_self (List.getElem?_eq_some_iff.mp e).1] at e1
        cases e1; rw [foot_none] at s1; cases s1
      have n2 : i ≠ k := fun z => by
        subst z
        rw [List.getElem?_set_self (List.getElem?_eq_some_iff.mp e).1] at e2
        cases e2; rw [foot_none] at s2; cases s2
      rw [List.getElem?_set_ne n1] at e1
      rw [List.getElem?_set_ne n2] at e2
      exact R.dis j k b _ _ e1 e2 s1 s2
  have R2 := R1.setCell (v := .ref a) (cl := .own fr c') i (fun _ => ⟨a, rfl, h, hF, hP, h0, nd, fun b m => ?_⟩) fun b m j cl nj ej z => by
    rw [List.getElem?_set_ne (Ne.symm nj)] at ej
    rcases List.mem_cons.mp (show b ∈ a :: c'.subs from m) with y | y
    · exact nj (R.dis j i b _ _ ej e z (fo b (by rw [y]; exact List.mem_cons_self)))
    · rcases sb b y with y | y
      · exact nj (R.dis j i b _ _ ej e z (fo b (List.mem_cons_of_mem _ y)))
      · exact y.2.2.2 j cl (by rw [List.getElem?_set_ne (Ne.symm nj)]; exact ej) z
  · rw [List.set_set, set_id s] at R2
    exact R2
  · rcases sb b m with y | y
    · exact hs b y
    · exact ⟨y.1, y.2.2.1, .inl y.2.1⟩
theorem Rep.writeAt (R : Rep K B F H σ env) {fr : Bool} {c c' : OC} {a : Addr} {o : HO} (e : env[i]? = some (.own fr c)) (s : σ[i]? = some (some (.ref a))) (h : OcOk K F (upd H a o) a c') (hs : c'.subs = c.subs := by rfl) : Rep K B F (upd H a o) σ (env.set i (.own fr c')) := by
  obtain ⟨a', s', hc, hF, hP, h0, nd0, _⟩ := R.cells i _ e
  rw [s] at s'; cases s'
  refine R.writeC e s (fun b m _ => upd_ne fun z => m (by rw [z]; exact List.mem_cons_self)) h (by rw [hs]; exact nd0) (fun b m => ?_) fun b m => .inl (by rw [← hs]; exact m)
  by_cases z : b = a
  · rw [z, upd_same]; simp
  · rw [upd_ne z]; exact hc.thereS b m
end

/-! ### what makes a new list or dict -/
abbrev TDF := DEnv → (OC → DEnv → Prop) → Prop
structure DF (X : Cx) (B : Bd) (e : Expr) (t : TDF) : Prop where
  ex : ∃ te, PE X e te ∧ ∀ (F H : Hp) (σ : St) (env : DEnv) (Q : OC → DEnv → Prop) (Q' : VK), Rep X.kw B F H σ env → t env Q →
    (∀ c env' p F' H', Q c env' → Same F F' → Rep X.kw B F' H' σ env' → OcOk X.kw F' H' p c → F' p = none → B.H0 p = none → B.P p = none → Apt B F' p c σ env' → Q' (.ref p) H') → te σ H Q'
section
variable {X : Cx} {B : Bd} {e a b c : Expr} {ta tb tc te : TD} {pos : Pos} {st : Stmt} {rest sts : List Stmt} {t u : TDS} {tf : TDF} {es : List Expr} {tr : TDA}
@[simp] def qFz (t : TDF) : TD := fun env Q => t env fun c env1 => Q c.frz env1
theorem DF.de (h : DF X B e tf) : DE X B e (qFz tf) := by
  obtain ⟨te, p, h⟩ := h.ex
  refine ⟨te, p, fun F H σ env Q Q' R ht k => ?_⟩
  refine h F H σ env _ _ R ht fun c env' p F' H' q s R' oc hF h0 hP ap => ?_
  obtain ⟨F2, s2, R2, r⟩ := R'.keepC oc hF h0 hP ap
  exact k _ env' _ _ _ q (s.trans s2) R2 r
@[simp] def fLst (tr : TDA) : TDF := fun env Q => tr env fun ds env1 => ds.length ≤ sizeLine ∧ Q (.lst ds) env1
theorem df_lst (h : DA X B es tr) : DF X B (.List es pos) (fLst tr) := by
  obtain ⟨te, p, h⟩ := h.ex
  refine ⟨_, pe_lst p, fun F H σ env Q Q' R ht k => ?_⟩
  refine h F H σ env _ _ R ht fun ds env1 vs F1 H1 q1 s1 R1 r1 => ?_
  refine ⟨by rw [r1.length]; exact q1.1, fun p hp => ?_⟩
  obtain ⟨n1, n2, n4, n3⟩ := R1.newp hp
  exact k _ env1 p F1 _ q1.2 s1 (R1.junk hp) ⟨vs, upd_same, r1⟩ n1 n2 n4 (apt n3)
/-- a new object of one's own gets a name -/
@[simp] def sOwn (i : Nat) (tf : TDF) : TDS := fun DD env => tf env fun c env1 => setC i (.own true c) env1 DD.nx
theorem ds_own {i : Nat} {x : Str} {pos' : Pos} (hN : X.N.Nodup) (he : DF X B e tf) (hi : X.N[i]? = some x := by rfl) (hx : Loc X.env.scope x := by first | exact Or.inl rfl | exact Or.inr rfl) (hs : swapsWith e (some (.Name x pos')) pos.line X.env = pure false := by rfl) (hf : X.fn x = true ∨ X.env.scope.names.lookup x = some .local := by first | exact .inl rfl | exact .inr rfl | assumption) :
    DS X B (.Assign [.Name x pos'] e pos) (sOwn i tf) := by
  obtain ⟨ts, p, h⟩ := he.ex
  refine ⟨_, ps_set (i := i) hN hi hx p hs hf, fun F H σ env DD DH R ht l => ?_⟩
  refine h F H σ env _ _ R ht fun c env1 p F1 H1 q s1 R1 oc hF h0 hP ap => ?_
  exact l.nx _ _ F1 H1 (setC_of q) s1 (R1.setOwn i oc hF h0 hP ap)
/-- (no step of the program) a name's own object becomes data -/
@[simp] def sFz (i : Nat) (t : TDS) : TDS := fun DD env => match env[i]? with
  | some (.own true c) => setC i (.val c.frz) env fun e => t DD e
  | _ => False
theorem fz_run {ts : TS} {i : Nat} {K : KW} (h : ∀ (F H : Hp) (σ : St) (env : DEnv) (DD : DEnds) (DH : Ends), Rep K B F H σ env → t DD env → Lk K B F DD DH → ts DH σ H) :
    ∀ (F H : Hp) (σ : St) (env : DEnv) (DD : DEnds) (DH : Ends), Rep K B F H σ env → sFz i t DD env → Lk K B F DD DH → ts DH σ H := by
  intro F H σ env DD DH R ht l
  unfold sFz at ht
  split at ht
  · rename_i c e
    obtain ⟨F', s, R'⟩ := R.freezeAt e
    exact h F' H σ _ DD DH R' (setC_of ht) (l.mono s)
  · exact ht.elim
theorem dss_fz (i : Nat) (h : DSs X B sts t) : DSs X B sts (sFz i t) := by
  obtain ⟨ts, p, h⟩ := h.ex
  exact ⟨ts, p, fz_run h⟩
theorem ds_fz (i : Nat) (h : DS X B st t) : DS X B st (sFz i t) := by
  obtain ⟨ts, p, h⟩ := h.ex
  exact ⟨ts, p, fz_run h⟩
/-- (no step) what is only known in part is opened -/
@[simp] def sOp (i : Nat) (t : TDS) : TDS := fun DD env => match env[i]? with
  | some (.opq fr φ) => ∀ c, φ c → setC i (.own fr c) env fun e => t DD e
  | _ => False
theorem Rep.openAt {K : KW} {F H : Hp} {σ : St} {env : DEnv} {i : Nat} {fr : Bool} {φ : OC → Prop} (R : Rep K B F H σ env) (e : env[i]? = some (.opq fr φ)) : ∃ c, φ c ∧ Rep K B F H σ (env.set i (.own fr c)) := by
  obtain ⟨c, hc, hs, ok⟩ := R.cells i _ e
  obtain ⟨a, s, _⟩ := id ok
  refine ⟨c, hc, ?_⟩
  have R2 := R.setCell (v := .ref a) (cl := .own fr c) i (fun _ => by rw [← s]; exact ok) fun b m j cl nj ej z => by
    have m : b ∈ a :: c.subs := m
    rw [hs] at m
    exact nj (R.dis j i b _ _ ej e z (by rw [s]; exact m))
  rw [set_id s] at R2
  exact R2
theorem dss_op (i : Nat) (h : DSs X B sts t) : DSs X B sts (sOp i t) := by
  obtain ⟨ts, p, h⟩ := h.ex
  refine ⟨ts, p, fun F H σ env DD DH R ht l => ?_⟩
  unfold sOp at ht
  split at ht
  · rename_i fr φ e
    obtain ⟨c, hc, R'⟩ := R.openAt e
    exact h F H σ _ DD DH R' (setC_of (ht c hc)) l
  · exact ht.elim

/-- (no step) of one's own object no more is kept than what φ says -/
@[simp] def sCl (i : Nat) (φ : OC → Prop) (t : TDS) : TDS := fun DD env => match env[i]? with
  | some (.own _ (.obj _ _)) => False
  | some (.own _ (.dl _)) => False
  | some (.own _ (.tl _ _ _)) => False
  | some (.own fr c) => φ c ∧ setC i (.opq fr φ) env fun e => t DD e
  | _ => False
theorem Rep.closeAt {K : KW} {F H : Hp} {σ : St} {env : DEnv} {i : Nat} {fr : Bool} {c : OC} {φ : OC → Prop} (R : Rep K B F H σ env) (e : env[i]? = some (.own fr c)) (hc : φ c) (hs : c.subs = []) : Rep K B F H σ (env.set i (.opq fr φ)) := by
  have ok : OwnOk K B F H σ[i]? i fr c := R.cells i _ e
  obtain ⟨a, s, _⟩ := id ok
  have R2 := R.setCell (v := .ref a) (cl := .opq fr φ) i (fun _ => ⟨c, hc, hs, by rw [← s]; exact ok⟩) fun b m j cl nj ej z => by
    have m : b ∈ [a] := m
    exact nj (R.dis j i b _ _ ej e z (by rw [s]; show b ∈ a :: c.subs; rw [hs]; exact m))
  rw [set_id s] at R2
  exact R2
theorem dss_cl (i : Nat) (φ : OC → Prop) (h : DSs X B sts t) : DSs X B sts (sCl i φ t) := by
  obtain ⟨ts, p, h⟩ := h.ex
  refine ⟨ts, p, fun F H σ env DD DH R ht l => ?_⟩
  unfold sCl at ht
  split at ht
  · exact ht.elim
  · exact ht.elim
  · exact ht.elim
  · rename_i fr c n n2 n3 e
    exact h F H σ _ DD DH (R.closeAt e ht.1 (by cases c <;> first | rfl | exact (n _ _ rfl).elim | exact (n2 _ rfl).elim | exact (n3 _ _ _ rfl).elim)) (setC_of ht.2) l
  · exact ht.elim

/-! ### one's own list: append, pop, items stored -/
@[simp] def ownL (env : DEnv) (i : Nat) (k : Bool → List D → Prop) : Prop := match env[i]? with
  | some (.own fr (.lst xs)) => k fr xs
  | _ => False
theorem ownL_of {env : DEnv} {i : Nat} {k : Bool → List D → Prop} (h : ownL env i k) : ∃ fr xs, env[i]? = some (.own fr (.lst xs)) ∧ k fr xs := by
  unfold ownL at h
  split at h
  · rename_i fr xs e
    exact ⟨fr, xs, e, h⟩
  · exact h.elim
@[simp] def sApp (i : Nat) (te : TD) : TDS := fun DD env => ownL env i fun _ _ => te env fun d env1 => ownL env1 i fun fr xs =>
  xs.length < sizeLine ∧ setC i (.own fr (.lst (xs ++ [d]))) env1 DD.nx
theorem own_read {K : KW} {F H : Hp} {σ : St} {env : DEnv} {i : Nat} {fr : Bool} {xs : List D} (R : Rep K B F H σ env) (e : env[i]? = some (.own fr (.lst xs))) : ∃ a vs, σ[i]? = some (some (.ref a)) ∧ H a = some (.lst vs) ∧ RpA K F vs xs := by
  obtain ⟨a, s, ⟨vs, h1, h2⟩, _⟩ := R.cells i _ e
  exact ⟨a, vs, s, h1, h2⟩
/-- as a term of the layer below -/
def canE (K : KW) (B : Bd) (t : TD) : TE := fun σ H Q' => ∃ (F : Hp) (env : DEnv) (Q : DK), Rep K B F H σ env ∧ t env Q ∧
  ∀ d env' v F' H', Q d env' → Same F F' → Rep K B F' H' σ env' → Rp K F' v d → Q' v H'
theorem DE.pe (h : DE X B e te) : PE X e (canE X.kw B te) := by
  obtain ⟨ts, p, h⟩ := h.ex
  exact ⟨fun pins s σ H Q I ⟨F, env, Qd, R, ht, k⟩ => p.run pins s σ H Q I (h F H σ env Qd Q R ht k)⟩
def canT (K : KW) (B : Bd) (t : TDT) : TT := fun σ H Q' => ∃ (F : Hp) (env : DEnv) (Q : Bool → DEnv → Prop), Rep K B F H σ env ∧ t env Q ∧
  ∀ b env' F' H', Q b env' → Same F F' → Rep K B F' H' σ env' → Q' b H'
theorem DT.pt {e : Expr} {t : TDT} (h : DT X B e t) : PT X e (canT X.kw B t) := by
  obtain ⟨ts, p, h⟩ := h.ex
  exact ⟨fun pins s σ H Q I ⟨F, env, Qd, R, ht, k⟩ => p.run pins s σ H Q I (h F H σ env Qd Q R ht k)⟩
def canG (K : KW) (B : Bd) (vs : List Nat) (t : TDG) : TG := fun v σ H Q' => ∃ (F : Hp) (env : DEnv) (d : D) (Q : DEnv → Prop), Rep K B F H σ env ∧ Rp K F v d ∧ t d env Q ∧
  ∀ env' σ', Q env' → Chg vs σ σ' → Rep K B F H σ' env' → Q' σ' H
theorem DG.pg {e : Expr} {vs : List Nat} {t : TDG} (h : DG X B e vs t) : PG X e (canG X.kw B vs t) := by
  obtain ⟨ts, p, h⟩ := h.ex
  exact ⟨fun pins s σ H v u Q I r ⟨F, env, d, Qd, R, rd, ht, k⟩ => p.run pins s σ H v u Q I r (h F H σ env d v Qd Q R rd ht k)⟩
theorem ds_append {i : Nat} {ce : Expr} {pos' : Pos} (p : PE X ce (tBM X.kw "list" rAppend (tVar i) (tCons (canE X.kw B te) tNil))) (hs' : swapsWith ce none pos'.line X.env = pure false := by rfl) :
    DS X B (.Expr ce pos') (sApp i te) := by
  refine ⟨_, ps_expr p hs', fun F H σ env DD DH R ht l => ?_⟩
  obtain ⟨fr, xs, e0, ht⟩ := ownL_of ht
  obtain ⟨a, vs, s, h1, _⟩ := own_read R e0
  refine ⟨_, s, .inl ⟨rfl, _, SqL.of h1⟩, F, env, _, R, ht, fun d env1 v F1 H1 q s1 R1 r1 => ?_⟩
  obtain ⟨fr, xs, e1, q⟩ := ownL_of q
  obtain ⟨a', vs', s', h1', ra⟩ := own_read R1 e1
  rw [s] at s'; cases s'
  refine ⟨a, vs', v, rfl, rfl, h1', by rw [ra.length]; exact q.1, ?_⟩
  exact l.nx _ σ F1 _ (setC_of q.2) s1 (R1.writeAt e1 s ⟨_, upd_same, ra.append (.one r1)⟩)
/-- x[k] = e, x one's own list -/
@[simp] def sSetL (i : Nat) (te tk : TD) : TDS := fun DD env => te env fun d env1 => ownL env1 i fun _ _ => tk env1 fun k env2 => match k with
  | .int j => ownL env2 i fun fr xs => ∃ m, ixN xs.length j = some m ∧ setC i (.own fr (.lst (xs.set m d))) env2 DD.nx
  | _ => False
theorem ds_setL {i : Nat} {tg : Expr} {tk : TD} (he : DE X B e te) (hg : PG X tg (gSub (tVar i) (canE X.kw B tk) rSetL)) (hs : swapsWithSole [tg] e pos.line X.env = pure false := by rfl) (hw : swappedStores [tg] e X.env = pure none := by rfl)
    (h1 : (assignEach [tg] X.env).map (·.2) = [assign tg X.env] := by rfl) : DS X B (.Assign [tg] e pos) (sSetL i te tk) := by
  obtain ⟨ts, p, h⟩ := he.ex
  refine ⟨_, ps_asg p hg hs hw h1, fun F H σ env DD DH R ht l => ?_⟩
  refine h F H σ env _ _ R ht fun d env1 v F1 H1 q s1 R1 r1 => ?_
  obtain ⟨fr, xs, e1, q⟩ := ownL_of q
  obtain ⟨a, vs, s, h1, _⟩ := own_read R1 e1
  refine ⟨_, s, F1, env1, _, R1, q, fun k env2 w F2 H2 q2 s2 R2 r2 => ?_⟩
  split at q2
  · obtain ⟨fr, xs, e2, m, hm, q2⟩ := ownL_of q2
    obtain ⟨a', vs', s', h2, ra⟩ := own_read R2 e2
    rw [s] at s'; cases s'
    cases r2
    refine ⟨a, vs', _, m, rfl, rfl, h2, by rw [ra.length]; exact hm, ?_⟩
    exact l.nx _ σ F2 _ (setC_of q2) (s1.trans s2) (R2.writeAt e2 s ⟨_, upd_same, ra.set (r1.mono s2) m⟩)
  · exact q2.elim
/-- an item of one's own list -/
@[simp] def qIxO (i : Nat) (tk : TD) : TD := fun env Q => ownL env i fun _ _ => tk env fun k env1 => match k with
  | .int j => ownL env1 i fun _ xs => ∃ d, atI xs j = some d ∧ Q d env1
  | _ => False
theorem RpA.at {K : KW} {F : Hp} {vs : List V} {ds : List D} {j : Int} {d : D} (r : RpA K F vs ds) (h : atI ds j = some d) : ∃ v, atI vs j = some v ∧ Rp K F v d := by
  unfold atI at h ⊢
  rw [r.length]
  cases z : ixN ds.length j with
  | none => rw [z] at h; cases h
  | some m =>
    rw [z] at h
    exact r.get h
theorem de_ixO {i : Nat} {ce : Expr} {tk : TD} (p : PE X ce (tOp (rIxL X.kw) (tVar i) (canE X.kw B tk))) : DE X B ce (qIxO i tk) := by
  refine ⟨_, p, fun F H σ env Q Q' R ht k => ?_⟩
  obtain ⟨fr, xs, e0, ht⟩ := ownL_of ht
  obtain ⟨a, vs, s, h1, _⟩ := own_read R e0
  refine ⟨_, s, F, env, _, R, ht, fun d env1 v F1 H1 q s1 R1 r1 => ?_⟩
  split at q
  · obtain ⟨fr, xs, e1, dd, hd, q⟩ := ownL_of q
    obtain ⟨a', vs', s', h2, ra⟩ := own_read R1 e1
    rw [s] at s'; cases s'
    cases r1
    obtain ⟨w, hw, rw'⟩ := ra.at hd
    exact ⟨a, vs', _, w, rfl, rfl, SqL.of h2, hw, k dd env1 w F1 H1 q s1 R1 rw'⟩
  · exact q.elim
/-- f(x), x one's own object: an answer that is no object -/
@[simp] def scalD (Q : D → Prop) : D → Prop
  | .non => Q .non
  | .bl b => Q (.bl b)
  | .int i => Q (.int i)
  | .str x => Q (.str x)
  | _ => False
theorem scal_rp {K : KW} {F F' : Hp} {Q : D → Prop} {d : D} {v : V} (h : scalD Q d) (r : Rp K F v d) : Q d ∧ Rp K F' v d := by
  cases d with
  | non => cases r; exact ⟨h, .non⟩
  | bl b => cases r; exact ⟨h, .bl b⟩
  | int b => cases r; exact ⟨h, .int b⟩
  | str b => cases r; exact ⟨h, .str b⟩
  | _ => exact h.elim
theorem Rep.junkS {K : KW} {F G G' H H' : Hp} {σ : St} {env : DEnv} (R : Rep K B F H σ env) (s : Stp G H G' H') : Rep K B F H' σ env := by
  rcases s with ⟨_, rfl⟩ | ⟨p, o, n, _, rfl⟩
  · exact R
  · exact R.junk n
theorem FdOk.view {K : KW} {F H : Hp} (sF : Same F H) : ∀ {vs : List (Str × V)} {fs : List (Str × Fd)}, FdOk K F H vs fs → RpF K H vs (fs.map fun p => (p.1, match p.2 with | .d x => x | .l _ xs => .lst xs))
  | _, _, .nil => .nil
  | _, _, .d h t => .cons (h.mono sF) (FdOk.view sF t)
  | _, _, .l h r t => .cons (.lst h (r.mono sF)) (FdOk.view sF t)
theorem DlOk.view {K : KW} {F H : Hp} (sF : Same F H) : ∀ {vs : List (NestedKey × Addr × V)} {kvs : List (D × Addr × List D)}, DlOk K F H vs kvs → RpN K H vs (kvs.map fun p => (p.1, .lst p.2.2))
  | _, _, .nil => .nil
  | _, _, .cons q h g r t => .cons q (h.mono sF) (.lst g (r.mono sF)) (DlOk.view sF t)
theorem OcOk.view {K : KW} {F H : Hp} {a : Addr} {c : OC} (h : OcOk K F H a c) (sF : Same F H) : Rp K H (.ref a) c.frz := by
  cases c with
  | lst xs => obtain ⟨vs, h1, h2⟩ := h; exact .lst h1 (h2.mono sF)
  | dct xs => obtain ⟨vs, h1, h2⟩ := h; exact .dct h1 (h2.mono sF)
  | dcn xs => obtain ⟨vs, ⟨o, h1⟩, h2⟩ := h; exact .dcn h1 (h2.mono sF)
  | dl kvs => obtain ⟨vs, ⟨o, h1⟩, h2⟩ := h; exact .dcn h1 (h2.view sF)
  | obj n fs => obtain ⟨C, dx, vs, h0, h1, h2⟩ := h; exact .ins h0 h1 (h2.view sF)
  | exn n a' => obtain ⟨h0, _⟩ := h; subst h0; exact .atm _
  | tl pre b xs => obtain ⟨vs, ws, h1, h2, h3, h4⟩ := h; exact .tup (.inl (.inl h1)) ((h2.mono sF).append (.one (.lst h3 (h4.mono sF))))
/-- a view of one's own object -/
theorem own_view {K : KW} {F H : Hp} {σ : St} {env : DEnv} {i : Nat} {fr : Bool} {c : OC} (R : Rep K B F H σ env) (e : env[i]? = some (.own fr c)) : ∃ a G, σ[i]? = some (some (.ref a)) ∧ Same F G ∧ Same G H ∧ Rp K G (.ref a) c.frz := by
  obtain ⟨a, s, oc, hF, _⟩ := R.cells i _ e
  exact ⟨a, H, s, R.sub, Same.refl _, oc.view R.sub⟩
@[simp] def ownC (env : DEnv) (i : Nat) (k : Bool → OC → Prop) : Prop := match env[i]? with
  | some (.own fr c) => k fr c
  | _ => False
theorem ownC_of {env : DEnv} {i : Nat} {k : Bool → OC → Prop} (h : ownC env i k) : ∃ fr c, env[i]? = some (.own fr c) ∧ k fr c := by
  unfold ownC at h
  split at h
  · rename_i fr xs e
    exact ⟨fr, xs, e, h⟩
  · exact h.elim
@[simp] def qClO (s : SN) (i : Nat) : TD := fun env Q => ownC env i fun _ c => s [c.frz] (scalD fun r => Q r env)
theorem de_clO {i : Nat} {ce : Expr} {s : SN} {f : Value} (hc : DCl X f s) (p : ∀ r, CallR X f r → PE X ce (tCB r (tCons (tVar i) tNil))) : DE X B ce (qClO s i) := by
  obtain ⟨r, hr, h⟩ := hc
  refine ⟨_, p r hr, fun F H σ env Q Q' R ht k => ?_⟩
  obtain ⟨fr, c, e, ht⟩ := ownC_of ht
  obtain ⟨a, G, s1, s2, s3, rp⟩ := own_view R e
  refine ⟨_, s1, h G H _ _ _ _ s3 (.one rp) ht fun d' v G' H' q st r' => ?_⟩
  obtain ⟨q, r''⟩ := scal_rp (F' := F) q r'
  exact k d' env v F H' q (Same.refl _) (R.junkS st) r''
/-- x op e, e op x with one's own x: an answer that is no object -/
@[simp] def qOpL (s : S2) (i : Nat) (tb : TD) : TD := fun env Q => ownC env i fun _ _ => tb env fun d env1 => ownC env1 i fun _ c => s c.frz d (scalD fun r => Q r env1)
@[simp] def qOpR (s : S2) (ta : TD) (i : Nat) : TD := fun env Q => ta env fun d env1 => ownC env1 i fun _ c => s d c.frz (scalD fun r => Q r env1)
theorem op_runL {i : Nat} {s : S2} {r : R2} (h : ∀ (F H : Hp) (x y : V) (d e : D) (Q : D → Prop) (Q' : VK), Same F H → Rp X.kw F x d → Rp X.kw F y e → s d e Q →
    (∀ d' v F' H', Q d' → Stp F H F' H' → Rp X.kw F' v d' → Q' v H') → r x y H Q') : ∀ (F H : Hp) (σ : St) (env : DEnv) (Q : DK) (Q' : VK), Rep X.kw B F H σ env → qOpL s i tb env Q →
    (∀ d env' v F' H', Q d env' → Same F F' → Rep X.kw B F' H' σ env' → Rp X.kw F' v d → Q' v H') → tOp r (tVar i) (canE X.kw B tb) σ H Q' := by
  intro F H σ env Q Q' R ht k
  obtain ⟨fr, c, e, ht⟩ := ownC_of ht
  obtain ⟨a, G, z1, z2, z3, rp⟩ := own_view R e
  refine ⟨_, z1, F, env, _, R, ht, fun d env1 v F1 H1 q s1 R1 r1 => ?_⟩
  obtain ⟨fr, c, e, q⟩ := ownC_of q
  obtain ⟨a', G, w1, w2, w3, rp⟩ := own_view R1 e
  rw [z1] at w1; cases w1
  refine h G H1 _ _ _ _ _ _ w3 rp (r1.mono w2) q fun d' v G' H' q st r' => ?_
  obtain ⟨q, r''⟩ := scal_rp (F' := F1) q r'
  exact k d' env1 v F1 H' q s1 (R1.junkS st) r''
theorem op_runR {i : Nat} {s : S2} {r : R2} (h : ∀ (F H : Hp) (x y : V) (d e : D) (Q : D → Prop) (Q' : VK), Same F H → Rp X.kw F x d → Rp X.kw F y e → s d e Q →
    (∀ d' v F' H', Q d' → Stp F H F' H' → Rp X.kw F' v d' → Q' v H') → r x y H Q') : ∀ (F H : Hp) (σ : St) (env : DEnv) (Q : DK) (Q' : VK), Rep X.kw B F H σ env → qOpR s ta i env Q →
    (∀ d env' v F' H', Q d env' → Same F F' → Rep X.kw B F' H' σ env' → Rp X.kw F' v d → Q' v H') → tOp r (canE X.kw B ta) (tVar i) σ H Q' := by
  intro F H σ env Q Q' R ht k
  refine ⟨F, env, _, R, ht, fun d env1 v F1 H1 q s1 R1 r1 => ?_⟩
  obtain ⟨fr, c, e, q⟩ := ownC_of q
  obtain ⟨a', G, w1, w2, w3, rp⟩ := own_view R1 e
  refine ⟨_, w1, h G H1 _ _ _ _ _ _ w3 (r1.mono w2) rp q fun d' v G' H' q st r' => ?_⟩
  obtain ⟨q, r''⟩ := scal_rp (F' := F1) q r'
  exact k d' env1 v F1 H' q s1 (R1.junkS st) r''
theorem de_cmpL {i : Nat} {op : CmpOp} {s : S2} {x : Str} {p : Pos} (ho : DOp X (compareOp op) s) (ha : PE X (.Name x p) (tVar i)) (hb : DE X B b tb) (hm : behindInMarks op b = false) : DE X B (.Compare (.Name x p) [op] [b] pos) (qOpL s i tb) := by
  obtain ⟨r, h, hr⟩ := ho
  exact ⟨_, pe_cmpR h ha hb.pe hm, op_runL hr⟩
theorem de_cmpRo {i : Nat} {op : CmpOp} {s : S2} {x : Str} {p : Pos} (ho : DOp X (compareOp op) s) (ha : DE X B a ta) (hb : PE X (.Name x p) (tVar i)) (hm : behindInMarks op (.Name x p) = false) : DE X B (.Compare a [op] [.Name x p] pos) (qOpR s ta i) := by
  obtain ⟨r, h, hr⟩ := ho
  exact ⟨_, pe_cmpR h ha.pe hb hm, op_runR hr⟩
theorem dt_cmpL {i : Nat} {op : CmpOp} {s : S2} {x : Str} {p : Pos} (ho : DOp X (compareOp op) s) (ha : PE X (.Name x p) (tVar i)) (hb : DE X B b tb) (hm : behindInMarks op b = false) : DT X B (.Compare (.Name x p) [op] [b] pos) (qTest (qOpL s i tb)) := by
  obtain ⟨r, h, hr⟩ := ho
  refine ⟨_, pt_cmpR h ha hb.pe hm, fun F H σ env Q Q' R ht k => ?_⟩
  refine op_runL hr F H σ env _ _ R ht fun d env' v F' H' q s' R' r' => ?_
  cases d with
  | bl b => cases r' with
    | bl _ => exact ⟨b, rfl, k b env' F' H' q s' R'⟩
  | _ => exact q.elim
theorem dt_cmpRo {i : Nat} {op : CmpOp} {s : S2} {x : Str} {p : Pos} (ho : DOp X (compareOp op) s) (ha : DE X B a ta) (hb : PE X (.Name x p) (tVar i)) (hm : behindInMarks op (.Name x p) = false) : DT X B (.Compare a [op] [.Name x p] pos) (qTest (qOpR s ta i)) := by
  obtain ⟨r, h, hr⟩ := ho
  refine ⟨_, pt_cmpR h ha.pe hb hm, fun F H σ env Q Q' R ht k => ?_⟩
  refine op_runR hr F H σ env _ _ R ht fun d env' v F' H' q s' R' r' => ?_
  cases d with
  | bl b => cases r' with
    | bl _ => exact ⟨b, rfl, k b env' F' H' q s' R'⟩
  | _ => exact q.elim
end
end L2.DL

namespace L2.DL
open PySem PySem.Spec PyProof.Rows

/-! ### list comprehensions -/
@[simp] def wipeE (env : DEnv) : List Nat → DEnv
  | [] => env
  | v :: vs => (wipeE env vs).set v .none
@[simp] def Cell.dat : Cell → Cell
  | .val d => .val d
  | _ => .none
/-- behind a block: its own names are as they were -/
@[simp] def backE (env env' : DEnv) : List Nat → DEnv
  | [] => env'
  | v :: vs => (backE env env' vs).set v ((env[v]?.getD .none).dat)
def wipeC : List Nat → DEnv → (DEnv → Prop) → Prop
  | [], env, Q => Q env
  | v :: vs, env, Q => wipeC vs env fun e => setC v .none e Q
theorem wipeC_of : ∀ {vs : List Nat} {env : DEnv} {Q : DEnv → Prop}, wipeC vs env Q → Q (wipeE env vs)
  | [], _, _, h => h
  | _ :: vs, _, _, h => setC_of (wipeC_of (vs := vs) h)
def backC : List Nat → DEnv → DEnv → (DEnv → Prop) → Prop
  | [], _, env', Q => Q env'
  | v :: vs, env, env', Q => backC vs env env' fun e => match env[v]? with
    | some c => setC v c.dat e Q
    | none => setC v .none e Q
theorem backC_of : ∀ {vs : List Nat} {env env' : DEnv} {Q : DEnv → Prop}, backC vs env env' Q → Q (backE env env' vs)
  | [], _, _, _, h => h
  | v :: vs, env, env', Q, h => by
    have h := backC_of (vs := vs) h
    show Q ((backE env env' vs).set v ((env[v]?.getD .none).dat))
    split at h
    · rename_i c e
      rw [e]; exact setC_of h
    · rename_i e
      rw [e]; exact setC_of h
section
variable {K : KW} {B : Bd} {F F' H H' : Hp} {σ σ' : St} {env env' : DEnv}
theorem wipeE_len : ∀ vs : List Nat, (wipeE env vs).length = env.length
  | [] => rfl
  | v :: vs => by unfold wipeE; rw [List.length_set, wipeE_len vs]
theorem wipeE_get {i : Nat} {c : Cell} : ∀ {vs : List Nat}, (wipeE env vs)[i]? = some c → (env[i]? = some c ∧ i ∉ vs) ∨ c = .none
  | [], h => .inl ⟨h, by simp⟩
  | v :: vs, h => by
    unfold wipeE at h
    by_cases q : v = i
    · subst q
      by_cases hl : v < (wipeE env vs).length
      · rw [List.getElem?_set_self hl] at h; cases h; exact .inr rfl
      · rw [List.getElem?_eq_none (by simpa using hl)] at h; cases h
    · rw [List.getElem?_set_ne q] at h
      rcases wipeE_get h with ⟨h1, h2⟩ | h1
      · exact .inl ⟨h1, by simp only [List.mem_cons, not_or]; exact ⟨fun e => q e.symm, h2⟩⟩
      · exact .inr h1
theorem wipe_out' {i : Nat} : ∀ {vs : List Nat}, i ∉ vs → (wipe σ vs)[i]? = σ[i]?
  | [], _ => rfl
  | v :: vs, h => by
    unfold wipe
    simp only [List.mem_cons, not_or] at h
    rw [List.getElem?_set_ne (Ne.symm h.1), wipe_out' h.2]
theorem wipe_in {i : Nat} : ∀ {vs : List Nat}, i ∈ vs → i < σ.length → (wipe σ vs)[i]? = some none
  | v :: vs, h, hl => by
    unfold wipe
    by_cases q : v = i
    · subst q
      rw [List.getElem?_set_self (by rw [wipe_length]; exact hl)]
    · rw [List.getElem?_set_ne q]
      rcases List.mem_cons.mp h with e | e
      · exact absurd e.symm q
      · exact wipe_in e hl
theorem wipe_chg {vs : List Nat} (h : Chg vs σ σ') : wipe σ' vs = wipe σ vs := by
  apply List.ext_getElem?
  intro i
  by_cases hi : i ∈ vs
  · by_cases hl : i < σ.length
    · rw [wipe_in hi hl, wipe_in hi (by rw [h.1]; exact hl)]
    · rw [List.getElem?_eq_none (by rw [wipe_length, h.1]; omega), List.getElem?_eq_none (by rw [wipe_length]; omega)]
  · rw [wipe_out' hi, wipe_out' hi, h.2 i hi]
theorem wipe_wipe {vs : List Nat} : wipe (wipe σ vs) vs = wipe σ vs := wipe_chg ⟨wipe_length σ vs, fun i n => wipe_out' n⟩
/-- into a block -/
theorem Rep.wipe (R : Rep K B F H σ env) (vs : List Nat) : Rep K B F H (wipe σ vs) (wipeE env vs) where
  len := by rw [wipeE_len, wipe_length]; exact R.len
  sub := R.sub
  fix := R.fix
  gro := R.gro
  new := R.new
  mf := R.mf
  mh := R.mh
  m0 := R.m0
  pin := R.pin
  mp := R.mp
  pf := R.pf
  cells := fun i c e => by
    rcases wipeE_get e with ⟨h1, h2⟩ | h1
    · rw [wipe_out' h2]; exact R.cells i c h1
    · subst h1; trivial
  dis := fun i j a c c' e1 e2 s1 s2 => by
    rcases wipeE_get e1 with ⟨h1, h2⟩ | h1
    · rcases wipeE_get e2 with ⟨h3, h4⟩ | h3
      · rw [wipe_out' h2] at s1
        rw [wipe_out' h4] at s2
        exact R.dis i j a c c' h1 h3 s1 s2
      · subst h3; rw [foot_none] at s2; cases s2
    · subst h1; rw [foot_none] at s1; cases s1
theorem backE_len (h : env'.length = env.length) : ∀ vs : List Nat, (backE env env' vs).length = env.length
  | [] => h
  | v :: vs => by unfold backE; rw [List.length_set, backE_len h vs]
theorem backE_get {i : Nat} {c : Cell} : ∀ {vs : List Nat}, (backE env env' vs)[i]? = some c → (env'[i]? = some c ∧ i ∉ vs) ∨ c = ((env[i]?.getD .none).dat)
  | [], h => .inl ⟨h, by simp⟩
  | v :: vs, h => by
    unfold backE at h
    by_cases q : v = i
    · subst q
      by_cases hl : v < (backE env env' vs).length
      · rw [List.getElem?_set_self hl] at h; cases h; exact .inr rfl
      · rw [List.getElem?_eq_none (by simpa using hl)] at h; cases h
    · rw [List.getElem?_set_ne q] at h
      rcases backE_get h with ⟨h1, h2⟩ | h1
      · exact .inl ⟨h1, by simp only [List.mem_cons, not_or]; exact ⟨fun e => q e.symm, h2⟩⟩
      · exact .inr h1
/-- out of a block -/
theorem Rep.back {vs : List Nat} (R : Rep K B F H σ env) (R' : Rep K B F' H' (L2.wipe σ vs) env') (s : Same F F') : Rep K B F' H' σ (backE env env' vs) where
  len := by rw [backE_len (by rw [R'.len, wipe_length, R.len])]; exact R.len
  sub := R'.sub
  fix := R'.fix
  gro := R'.gro
  new := R'.new
  mf := R'.mf
  mh := R'.mh
  m0 := R'.m0
  pin := R'.pin
  mp := R'.mp
  pf := R'.pf
  cells := fun i c e => by
    rcases backE_get e with ⟨h1, h2⟩ | h1
    · have := R'.cells i c h1
      rw [wipe_out' h2] at this; exact this
    · subst h1
      cases z : env[i]? with
      | none => trivial
      | some c =>
        cases c with
        | val d =>
          obtain ⟨v, e1, r⟩ := R.cells i _ z
          exact ⟨v, e1, r.mono s⟩
        | _ => trivial
  dis := fun i j a c c' e1 e2 s1 s2 => by
    have dat : ∀ {i : Nat} {c : Cell} {o : Option (Option V)}, c = ((env[i]?.getD .none).dat) → a ∈ foot o c → False := by
      rintro i c o rfl m
      have w := foot_isOwn m
      cases z : (env[i]?.getD Cell.none) <;> rw [z] at w <;> cases w
    rcases backE_get e1 with ⟨h1, h2⟩ | h1
    · rcases backE_get e2 with ⟨h3, h4⟩ | h3
      · exact R'.dis i j a c c' h1 h3 (by rw [wipe_out' h2]; exact s1) (by rw [wipe_out' h4]; exact s2)
      · exact (dat h3 s2).elim
    · exact (dat h1 s1).elim
end
/-- the tests of a comprehension: none, one -/
structure DTs (X : Cx) (B : Bd) (ifs : List Expr) (t : TDT) : Prop where
  pt : PTs X ifs (canT X.kw B t)
@[simp] def qYes : TDT := fun env Q => Q true env
section
variable {X : Cx} {B : Bd} {e a b c : Expr} {ta tb tc te : TD} {pos : Pos} {st : Stmt} {rest sts : List Stmt} {t u : TDS} {tf : TDF} {es : List Expr} {tr : TDA}
theorem dts_nil : DTs X B [] qYes := ⟨⟨fun pins s σ H Q I ⟨F, env, Qd, R, ht, k⟩ => pts_nil.run pins s σ H Q I (k _ _ F H ht (Same.refl _) R)⟩⟩
theorem dts_one {c : Expr} {t : TDT} (h : DT X B c t) : DTs X B [c] t := ⟨pts_one h.pt⟩
def mapL0 (vs : List Nat) (g : TDG) (tt : TDT) (te : TD) : List D → DEnv → (List D → DEnv → Prop) → Prop
  | [], env, Q => Q [] env
  | d :: r, env, Q => g d env fun env1 => tt env1 fun b env2 => match b with
    | true => te env2 fun x env3 => wipeC vs env3 fun e => mapL0 vs g tt te r e fun xs env4 => Q (x :: xs) env4
    | false => wipeC vs env2 fun e => mapL0 vs g tt te r e Q
@[irreducible] def mapL (vs : List Nat) (g : TDG) (tt : TDT) (te : TD) : List D → DEnv → (List D → DEnv → Prop) → Prop := mapL0 vs g tt te
theorem mapL_nil (vs : List Nat) (g : TDG) (tt : TDT) (te : TD) (env : DEnv) (Q : List D → DEnv → Prop) : mapL vs g tt te [] env Q = Q [] env := by unfold mapL; rfl
theorem mapL_cons (vs : List Nat) (g : TDG) (tt : TDT) (te : TD) (d : D) (r : List D) (env : DEnv) (Q : List D → DEnv → Prop) : mapL vs g tt te (d :: r) env Q = g d env fun env1 => tt env1 fun b env2 => match b with
    | true => te env2 fun x env3 => wipeC vs env3 fun e => mapL vs g tt te r e fun xs env4 => Q (x :: xs) env4
    | false => wipeC vs env2 fun e => mapL vs g tt te r e Q := by unfold mapL; rfl
@[simp] def fComp (ti : TDI) (g : TDG) (tt : TDT) (te : TD) (vs : List Nat) : TDF := fun env Q => ti env fun ds env1 => ds.length ≤ sizeLine ∧ wipeC vs env1 fun e => mapL vs g tt te ds e fun xs env2 => backC vs env1 env2 fun e => Q (.lst xs) e
abbrev Bd.withP (B : Bd) (P : Hp) : Bd := { B with P := P }
theorem Rep.pinned {K : KW} {F H : Hp} {σ : St} {env : DEnv} {p : Addr} {o : HO} (R : Rep K B F H σ env) (hH : H p = some o) (hF : F p = none) (h0 : B.H0 p = none) (ap : Apart p σ env) : Rep K (B.withP (upd B.P p o)) F H σ env := by
  have own : ∀ {q : Option (Option V)} {i : Nat} {fr : Bool} {c : OC}, (∀ a, q = some (some (.ref a)) → p ∉ a :: c.subs) → OwnOk K B F H q i fr c → OwnOk K (B.withP (upd B.P p o)) F H q i fr c := by
    rintro q i fr c n ⟨a, h1, h2, h3, h4, h5, h6, h7⟩
    have np : ∀ b, b ∈ a :: c.subs → upd B.P p o b = B.P b := fun b m => upd_ne fun z => n a h1 (by rw [← z]; exact m)
    refine ⟨a, h1, h2, h3, ?_, h5, h6, fun b m => ⟨(h7 b m).1, ?_, (h7 b m).2.2⟩⟩
    · show upd B.P p o a = none
      rw [np a List.mem_cons_self]; exact h4
    · show upd B.P p o b = none
      rw [np b (List.mem_cons_of_mem _ m)]; exact (h7 b m).2.1
  refine ⟨R.len, R.sub, R.fix, R.gro, R.new, R.mf, R.mh, R.m0, fun b x e => ?_, fun b m => ?_, fun b x e => ?_, fun i c e => ?_, R.dis⟩
  · have e : upd B.P p o b = some x := e
    by_cases q : b = p
    · subst q; rw [upd_same] at e; rw [hH]; exact e
    · rw [upd_ne q] at e; exact R.pin _ _ e
  · have q : b ≠ p := fun q => by subst q; exact R.m0 b m h0
    show upd B.P p o b = none
    rw [upd_ne q]; exact R.mp b m
  · have e : upd B.P p o b = some x := e
    by_cases q : b = p
    · subst q; exact hF
    · rw [upd_ne q] at e; exact R.pf b x e
  · have h := R.cells i c e
    cases c with
    | none => trivial
    | val d => exact h
    | own fr c => exact own (fun a q m => ap i _ e (by rw [q]; exact m)) h
    | opq fr φ =>
      obtain ⟨c, h1, h0, h2⟩ := h
      exact ⟨c, h1, h0, own (fun a q m => ap i _ e (by rw [q]; rw [h0] at m; exact m)) h2⟩
theorem Rep.unpinned {K : KW} {F H : Hp} {σ : St} {env : DEnv} {p : Addr} {o : HO} (hp : B.P p = none) (R : Rep K (B.withP (upd B.P p o)) F H σ env) : Rep K B F H σ env ∧ H p = some o ∧ F p = none ∧ Apart p σ env := by
  have sP : Same B.P (upd B.P p o) := same_upd hp
  have own : ∀ {q : Option (Option V)} {i : Nat} {fr : Bool} {c : OC}, OwnOk K (B.withP (upd B.P p o)) F H q i fr c → OwnOk K B F H q i fr c := by
    rintro q i fr c ⟨a, h1, h2, h3, h4, h5, h6, h7⟩
    have h4 : upd B.P p o a = none := h4
    exact ⟨a, h1, h2, h3, sP.free h4, h5, h6, fun b m => ⟨(h7 b m).1, sP.free (h7 b m).2.1, (h7 b m).2.2⟩⟩
  refine ⟨⟨R.len, R.sub, R.fix, R.gro, R.new, R.mf, R.mh, R.m0, fun b x e => R.pin _ _ (sP _ _ e), fun b m => sP.free (R.mp b m), fun b x e => R.pf b x (sP _ _ e), fun i c e => ?_, R.dis⟩, R.pin p o upd_same, R.pf p o upd_same, fun i c e m => ?_⟩
  · have h := R.cells i c e
    cases c with
    | none => trivial
    | val d => exact h
    | own fr c => exact own h
    | opq fr φ => obtain ⟨c, h1, h0, h2⟩ := h; exact ⟨c, h1, h0, own h2⟩
  · have := ((R.cells i c e).own_foot p m).2.2.1
    have this : upd B.P p o p = none := this
    rw [upd_same] at this; cases this
/-- an object that nobody else knows changes -/
theorem Rep.poke {K : KW} {F H : Hp} {σ : St} {env : DEnv} {p : Addr} {o o' : HO} (R : Rep K B F H σ env) (hH : H p = some o) (hF : F p = none) (h0 : B.H0 p = none) (hP : B.P p = none) (ap : Apart p σ env) : Rep K B F (upd H p o') σ env := by
  refine ⟨R.len, fun b x e => ?_, fun b x e m => ?_, R.gro, R.new, R.mf, fun b m => ?_, R.m0, fun b x e => ?_, R.mp, R.pf, fun i c e => ?_, R.dis⟩
  · have q : b ≠ p := fun q => by subst q; rw [hF] at e; cases e
    rw [upd_ne q]; exact R.sub _ _ e
  · have q : b ≠ p := fun q => by subst q; rw [h0] at e; cases e
    rw [upd_ne q]; exact R.fix b x e m
  · have q : b ≠ p := fun q => by subst q; exact R.m0 b m h0
    rw [upd_ne q]; exact R.mh b m
  · have q : b ≠ p := fun q => by subst q; rw [hP] at e; cases e
    rw [upd_ne q]; exact R.pin _ _ e
  · refine (R.cells i c e).mono (Same.refl _) fun a m n f => ⟨?_, f⟩
    have q : a ≠ p := fun q => by subst q; exact ap i c e m
    rw [upd_ne q]
def xE (K : KW) (B : Bd) (t : TD) : TE := fun σ H Q => ∃ P, canE K (B.withP P) t σ H Q
def xT (K : KW) (B : Bd) (t : TDT) : TT := fun σ H Q => ∃ P, canT K (B.withP P) t σ H Q
def xG (K : KW) (B : Bd) (vs : List Nat) (t : TDG) : TG := fun v σ H Q => ∃ P, canG K (B.withP P) vs t v σ H Q
theorem xe' {X : Cx} {K : KW} {t : TD} (h : ∀ P, PE X e (canE K (B.withP P) t)) : PE X e (xE K B t) := ⟨fun pins s σ H Q I ⟨P, q⟩ => (h P).run pins s σ H Q I q⟩
theorem xt {X : Cx} {K : KW} {ifs : List Expr} {t : TDT} (h : ∀ P, PTs X ifs (canT K (B.withP P) t)) : PTs X ifs (xT K B t) := ⟨fun pins s σ H Q I ⟨P, q⟩ => (h P).run pins s σ H Q I q⟩
theorem xg {X : Cx} {K : KW} {vs : List Nat} {t : TDG} (h : ∀ P, PG X e (canG K (B.withP P) vs t)) : PG X e (xG K B vs t) := ⟨fun pins s σ H v u Q I r ⟨P, q⟩ => (h P).run pins s σ H v u Q I r q⟩
theorem comp_read {wi : TI} {ti : TDI} {g : TDG} {tt : TDT} {vs : List Nat}
    (h : ∀ (F H : Hp) (σ : St) (env : DEnv) (Q : List D → DEnv → Prop) (R' : It → Hp → Prop), Rep X.kw B F H σ env → ti env Q →
      (∀ ds env' J F' H', Q ds env' → Same F F' → Rep X.kw B F' H' σ env' → IterOk X.kw J ds F' → R' J H') → wi σ H R') :
    ∀ (F H : Hp) (σ : St) (env : DEnv) (Q : OC → DEnv → Prop) (Q' : VK), Rep X.kw B F H σ env → fComp ti g tt te vs env Q →
    (∀ c env' p F' H', Q c env' → Same F F' → Rep X.kw B F' H' σ env' → OcOk X.kw F' H' p c → F' p = none → B.H0 p = none → B.P p = none → Apt B F' p c σ env' → Q' (.ref p) H') → tLc wi (xG X.kw B vs g) (xT X.kw B tt) (xE X.kw B te) vs σ H Q' := by
  intro F H σ env Q Q' R hq k
  refine h F H σ env _ _ R hq fun ds env1 J F1 H1 q1 s1 R1 io => ?_
  obtain ⟨hsz, q1⟩ := q1
  have q1 := wipeC_of q1
  intro D hD
  obtain ⟨n1, n2, n4, n3⟩ := R1.newp hD
  have apw : ∀ {env : DEnv} {σ' : St}, Apart D σ' env → Apart D (wipe σ' vs) (wipeE env vs) := by
    intro env σ' n i c e q
    rcases wipeE_get e with ⟨h1, h2⟩ | h1
    · rw [wipe_out' h2] at q; exact n i c h1 q
    · subst h1; rw [foot_none] at q; cases q
  refine ⟨fun i m H => ∃ F env acc vacc, Same F1 F ∧ Rep X.kw B F H (wipe σ vs) env ∧ H D = some (.lst vacc) ∧ RpA X.kw F vacc acc ∧ F D = none ∧ Apart D (wipe σ vs) env ∧ acc.length ≤ i ∧
      mapL vs g tt te (ds.drop i) env (fun xs env2 => backC vs env1 env2 fun e => Q (.lst (acc ++ xs)) e) ∧ m = ds.length - i ∧ i ≤ ds.length, ⟨ds.length, F1, wipeE env1 vs, [], [], Same.refl _, (R1.junk hD).wipe vs, upd_same, .nil, n1, apw n3, Nat.le_refl _, by simpa using q1, by simp, Nat.zero_le _⟩, ?_⟩
  rintro i m H3 ⟨F3, env3, acc, vacc, s3, R3, hD3, ra3, fD3, ap3, hle, q3, rfl, hi⟩
  obtain ⟨j1, j2⟩ := io F3 H3 i s3 R3.sub
  by_cases hlt : i < ds.length
  · have hd : ds[i]? = some ds[i] := List.getElem?_eq_getElem hlt
    obtain ⟨go, yl⟩ := j2 _ hd
    rw [List.drop_eq_getElem_cons hlt, mapL_cons] at q3
    refine .inr ⟨go, fun H => ∃ F env acc vacc, Same F1 F ∧ Rep X.kw B F H (wipe σ vs) env ∧ H D = some (.lst vacc) ∧ RpA X.kw F vacc acc ∧ F D = none ∧ Apart D (wipe σ vs) env ∧ acc.length ≤ i + 1 ∧
      mapL vs g tt te (ds.drop (i + 1)) env (fun xs env2 => backC vs env1 env2 fun e => Q (.lst (acc ++ xs)) e), ?_, ?_⟩
    · rintro H' ⟨F', env', acc', vacc', a1, a2, a3, a4, a5, a6, a7, a8⟩
      exact ⟨ds.length - (i + 1), by omega, F', env', acc', vacc', a1, a2, a3, a4, a5, a6, a7, a8, rfl, hlt⟩
    · intro x H4 y4
      obtain ⟨F4, st4, r4⟩ := yl x H4 y4
      have R3p := R3.pinned hD3 fD3 n2 ap3
      have R4 := R3p.stp st4
      have s34 := st4.same R3p.sub
      refine ⟨upd B.P D (.lst vacc), F4, env3, _, _, R4, r4, q3, fun env5 σ5 q5 c5 R5 => ⟨(wipe_chg c5).trans wipe_wipe, ?_⟩⟩
      have w5 : wipe σ5 vs = wipe σ vs := (wipe_chg c5).trans wipe_wipe
      refine ⟨upd B.P D (.lst vacc), F4, env5, _, R5, q5, fun b env6 F6 H6 q6 s6 R6 => ?_⟩
      cases b with
      | true =>
        refine iteT ⟨upd B.P D (.lst vacc), F6, env6, _, R6, q6, fun d env7 v7 F7 H7 q7 s7 R7 r7 => ?_⟩
        obtain ⟨R7', hD7, fD7, ap7⟩ := Rep.unpinned n4 R7
        refine ⟨vacc, hD7, ?_, ?_⟩
        · rw [ra3.length]; omega
        · have ss : Same F3 F7 := (s34.trans s6).trans s7
          have R8 := R7'.wipe vs
          rw [w5] at R8
          have ap8 := apw ap7
          rw [w5] at ap8
          refine ⟨F7, wipeE env7 vs, acc ++ [d], vacc ++ [v7], s3.trans ss, ?_, upd_same, (ra3.mono ss).append (.one r7), fD7, ap8, by rw [List.length_append]; show acc.length + 1 ≤ i + 1; omega, ?_⟩
          · exact R8.poke hD7 fD7 n2 n4 ap8
          · simpa [List.append_assoc] using wipeC_of q7
      | false =>
        refine iteF ?_
        obtain ⟨R7', hD7, fD7, ap7⟩ := Rep.unpinned n4 R6
        have R8 := R7'.wipe vs
        rw [w5] at R8
        have ap8 := apw ap7
        rw [w5] at ap8
        exact ⟨F6, wipeE env6 vs, acc, vacc, s3.trans (s34.trans s6), R8, hD7, ra3.mono (s34.trans s6), fD7, ap8, by omega, wipeC_of q6⟩
  · have e : i = ds.length := by omega
    refine .inl ⟨j1 e, ?_⟩
    rw [e, List.drop_length, mapL_nil] at q3
    have q3 : Q (.lst (acc ++ [])) (backE env1 env3 vs) := backC_of q3
    rw [List.append_nil] at q3
    have RB := R1.back R3 s3
    refine k _ _ D F3 H3 q3 (s1.trans s3) RB ⟨vacc, hD3, ra3⟩ fD3 n2 n4 (apt ?_)
    intro j c ec q
    rcases backE_get ec with ⟨h1, h2⟩ | h1
    · exact ap3 j c h1 (by rw [wipe_out' h2]; exact q)
    · subst h1
      have w := foot_isOwn q
      cases z : (env1[j]?.getD Cell.none) <;> rw [z] at w <;> cases w
theorem df_comp {elt tg iter : Expr} {ifs : List Expr} {scope : Scope} {own : List (Str × Nat)} {ti : TDI} {g : TDG} {tt : TDT} (hc : X.calm = true) (hN : X.N.Nodup) (hi : DI X B tg iter ti) (ok : BlkOk X.N X.env.scope scope own)
    (hg : ∀ (P : Hp) (s : Shared) (H : Hp) (C : Addr) (cl : List (Str × Addr)) (fp : List Addr), DG (X.blk s H scope (compEnvC scope cl C X.env) fp) (B.withP P) tg (own.map (·.2)) g) (ht : ∀ (P : Hp) (s : Shared) (H : Hp) (C : Addr) (cl : List (Str × Addr)) (fp : List Addr), DTs (X.blk s H scope (compEnvC scope cl C X.env) fp) (B.withP P) ifs tt)
    (he : ∀ (P : Hp) (s : Shared) (H : Hp) (C : Addr) (cl : List (Str × Addr)) (fp : List Addr), DE (X.blk s H scope (compEnvC scope cl C X.env) fp) (B.withP P) elt te) (hs : ∀ x, foldedSetIterable iter X.env x = pure x := by intro _; rfl) :
    DF X B (.ListComp elt [⟨tg, iter, ifs, 0⟩] scope pos) (fComp ti g tt te (own.map (·.2))) := by
  obtain ⟨wi, p, h⟩ := hi.ex
  exact ⟨_, pe_lc (g := xG X.kw B (own.map (·.2)) g) (tt := xT X.kw B tt) (te := xE X.kw B te) hc hN p ok (fun s H C cl fp => xg (fun P => (hg P s H C cl fp).pg)) (fun s H C cl fp => xt (fun P => (ht P s H C cl fp).pt)) (fun s H C cl fp => xe' (fun P => (he P s H C cl fp).pe)) hs, comp_read h⟩
/-- x = [..] on one line -/
theorem ds_ownLc {i : Nat} {y : Str} {py spos : Pos} {elt tg iter : Expr} {ifs : List Expr} {scope : Scope} {own : List (Str × Nat)} {ti : TDI} {g : TDG} {tt : TDT} (hc : X.calm = true) (hN : X.N.Nodup) (hi : DI X B tg iter ti) (ok : BlkOk X.N X.env.scope scope own)
    (hg : ∀ (P : Hp) (s : Shared) (H : Hp) (C : Addr) (cl : List (Str × Addr)) (fp : List Addr), DG (X.blk s H scope (compEnvC scope cl C X.env) fp) (B.withP P) tg (own.map (·.2)) g) (ht : ∀ (P : Hp) (s : Shared) (H : Hp) (C : Addr) (cl : List (Str × Addr)) (fp : List Addr), DTs (X.blk s H scope (compEnvC scope cl C X.env) fp) (B.withP P) ifs tt)
    (he : ∀ (P : Hp) (s : Shared) (H : Hp) (C : Addr) (cl : List (Str × Addr)) (fp : List Addr), DE (X.blk s H scope (compEnvC scope cl C X.env) fp) (B.withP P) elt te)
    (hsw : swapsWith (.ListComp elt [⟨tg, iter, ifs, 0⟩] scope pos) (some (.Name y py)) spos.line X.env = pure true) (hy : X.N[i]? = some y := by rfl) (hyl : X.env.scope.names.lookup y = some .local := by rfl) (hs : ∀ x, foldedSetIterable iter X.env x = pure x := by intro _; rfl) :
    DS X B (.Assign [.Name y py] (.ListComp elt [⟨tg, iter, ifs, 0⟩] scope pos) spos) (sOwn i (fComp ti g tt te (own.map (·.2)))) := by
  obtain ⟨wi, p, h⟩ := hi.ex
  refine ⟨_, ps_setLc (i := i) (g := xG X.kw B (own.map (·.2)) g) (tt := xT X.kw B tt) (te := xE X.kw B te) hc hN hy hyl hsw p ok (fun s H C cl fp => xg (fun P => (hg P s H C cl fp).pg)) (fun s H C cl fp => xt (fun P => (ht P s H C cl fp).pt)) (fun s H C cl fp => xe' (fun P => (he P s H C cl fp).pe)) hs, fun F H σ env DD DH R ht l => ?_⟩
  refine comp_read h F H σ env _ _ R ht fun c env1 p F1 H1 q s1 R1 oc hF h0 hP ap => ?_
  exact l.nx _ _ F1 H1 (setC_of q) s1 (R1.setOwn i oc hF h0 hP ap)
/-- what was made is kept as data at once -/
@[simp] def sFzAt (i : Nat) (t : TDS) : TDS := fun DD env => t { DD with nx := fun env1 => match env1[i]? with
  | some (.own true c) => setC i (.val c.frz) env1 DD.nx
  | _ => False } env
theorem ds_keep (i : Nat) (h : DS X B st t) : DS X B st (sFzAt i t) := by
  obtain ⟨ts, p, h⟩ := h.ex
  refine ⟨ts, p, fun F H σ env DD DH R ht l => ?_⟩
  refine h F H σ env _ _ R ht ⟨fun env' σ' F' H' q s R' => ?_, l.rt, l.bk, l.ct, l.ro⟩
  have q : (match env'[i]? with
    | some (.own true c) => setC i (.val c.frz) env' DD.nx
    | _ => False) := q
  split at q
  · rename_i c e
    obtain ⟨F2, s2, R2⟩ := R'.freezeAt e
    exact l.nx _ σ' F2 H' (setC_of q) (s.trans s2) R2
  · exact q.elim
end
end L2.DL

namespace L2.DL
open PySem PySem.Spec PyProof.Rows

/-! ### what a def does with the contents of its parameters: the answer, and the contents behind (none where it is data) -/
abbrev FSpec := List Cell → (D → List Cell → Prop) → Prop
def spD (K : KW) (n : Nat) (spec : FSpec) : Sp := fun vs H Q _ => ∃ (F : Hp) (M : Addr → Prop) (ms : Nat → Addr → Prop) (cs : List Cell), vs.length = n ∧ Rep K ⟨M, H, F, vs, fun _ => none, ms⟩ F H (vs.map some) cs ∧
  ∃ Qd, spec cs Qd ∧ ∀ d cs' v F' H', Qd d cs' → Same F F' → Rep K ⟨M, H, F, vs, fun _ => none, ms⟩ F' H' (vs.map some) cs' → Rp K F' v d → Q v H'
/-- weaker knowledge of a content -/
@[simp] def Cell.le : Cell → Cell → Prop
  | _, .none => True
  | .own false c, .own false c' => c = c'
  | .own false (.obj _ _), .opq false _ => False
  | .own false (.dl _), .opq false _ => False
  | .own false (.tl _ _ _), .opq false _ => False
  | .own false (.exn n a), .opq false φ => φ (.exn n a)
  | .own false (.lst xs), .opq false φ => φ (.lst xs)
  | .own false (.dct xs), .opq false φ => φ (.dct xs)
  | .own false (.dcn xs), .opq false φ => φ (.dcn xs)
  | .opq false φ, .opq false φ' => ∀ c, φ c → φ' c
  | _, _ => False
@[simp] def Outs : DEnv → List Cell → Prop
  | _, [] => True
  | e :: env, c :: cs => e.le c ∧ Outs env cs
  | [], _ :: _ => False
theorem Outs.get : ∀ {env : DEnv} {cs' : List Cell}, Outs env cs' → ∀ (i : Nat) (c : Cell), cs'[i]? = some c → ∃ e, env[i]? = some e ∧ e.le c
  | _, [], _, i, c, e => by simp at e
  | e :: env, c :: cs, h, 0, c', q => by
    rw [List.getElem?_cons_zero] at q; cases q
    exact ⟨e, rfl, h.1⟩
  | e :: env, c :: cs, h, i + 1, c', q => Outs.get (env := env) (cs' := cs) h.2 i c' (by simpa using q)
  | [], _ :: _, h, _, _, _ => h.elim
@[simp] def fnEnds (n : Nat) (Q : D → List Cell → Prop) : DEnds := { nx := fun env => ∃ cs', cs'.length = n ∧ Outs env cs' ∧ Q .non cs', rt := fun d env => ∃ cs', cs'.length = n ∧ Outs env cs' ∧ Q d cs' }
section
variable {K : KW} {B : Bd} {F F' H H' : Hp} {σ σ' : St} {env env' : DEnv}
theorem Rep.pad (R : Rep K B F H σ env) (k : Nat) : Rep K B F H (σ ++ List.replicate k none) (env ++ List.replicate k .none) where
  len := by rw [List.length_append, List.length_append, List.length_replicate, List.length_replicate, R.len]
  sub := R.sub
  fix := R.fix
  gro := R.gro
  new := R.new
  mf := R.mf
  mh := R.mh
  m0 := R.m0
  pin := R.pin
  mp := R.mp
  pf := R.pf
  cells := fun i c e => by
    by_cases hl : i < env.length
    · rw [List.getElem?_append_left hl] at e
      rw [List.getElem?_append_left (by rw [← R.len]; exact hl)]
      exact R.cells i c e
    · rw [List.getElem?_append_right (by omega), List.getElem?_replicate] at e
      split at e
      · cases e; trivial
      · cases e
  dis := fun i j a c c' e1 e2 s1 s2 => by
    have low : ∀ {i : Nat} {c : Cell} {o : Option (Option V)}, (env ++ List.replicate k Cell.none)[i]? = some c → a ∈ foot o c → i < env.length := by
      intro i c o e w
      by_cases hl : i < env.length
      · exact hl
      · rw [List.getElem?_append_right (by omega), List.getElem?_replicate] at e
        split at e
        · cases e; rw [foot_none] at w; cases w
        · cases e
    have l1 := low e1 s1
    have l2 := low e2 s2
    rw [List.getElem?_append_left l1] at e1
    rw [List.getElem?_append_left l2] at e2
    rw [List.getElem?_append_left (by rw [← R.len]; exact l1)] at s1
    rw [List.getElem?_append_left (by rw [← R.len]; exact l2)] at s2
    exact R.dis i j a c c' e1 e2 s1 s2
theorem le_own {e c : Cell} {o : Option (Option V)} {i : Nat} (h : e.le c) (w : c.isOwn = true) (ok : CellOk K B F H o i e) : CellOk K B F H o i c ∧ foot o c = foot o e ∧ ∃ a, o = some (some (.ref a)) ∧ B.par[i]? = some (.ref a) := by
  have key : ∀ {x : OC}, OwnOk K B F H o i false x → ∃ a, o = some (some (.ref a)) ∧ B.par[i]? = some (.ref a) := by
    rintro x ⟨a, h1, _, _, _, h4, _⟩
    exact ⟨a, h1, by simpa using h4.2⟩
  cases c with
  | none => cases w
  | val d => cases w
  | own fr x =>
    cases e with
    | own fr' x' =>
      cases fr' with
      | true => cases fr <;> exact False.elim h
      | false =>
        cases fr with
        | true => cases x' <;> exact False.elim h
        | false => obtain rfl : x' = x := by cases x' <;> exact h
                   exact ⟨ok, rfl, key ok⟩
    | opq fr' φ => cases fr' <;> cases fr <;> exact False.elim h
    | none => cases fr <;> exact False.elim h
    | val d => cases fr <;> exact False.elim h
  | opq fr φ =>
    cases e with
    | own fr' x' =>
      cases fr' with
      | true => cases fr <;> exact False.elim h
      | false =>
        cases fr with
        | true => cases x' <;> exact False.elim h
        | false =>
          have fo : ∀ {x : OC}, x.subs = [] → foot o (.opq false φ) = foot o (.own false x) := fun {x} q => by
            unfold foot
            cases o with
            | none => rfl
            | some o =>
              cases o with
              | none => rfl
              | some v => cases v <;> first | rfl | (show [_] = _ :: x.subs; rw [q])
          cases x' with
          | obj n fs => exact False.elim h
          | dl kvs => exact False.elim h
          | tl pre b xs => exact False.elim h
          | exn n a => exact ⟨⟨_, h, rfl, ok⟩, fo rfl, key ok⟩
          | lst xs => exact ⟨⟨_, h, rfl, ok⟩, fo rfl, key ok⟩
          | dct xs => exact ⟨⟨_, h, rfl, ok⟩, fo rfl, key ok⟩
          | dcn xs => exact ⟨⟨_, h, rfl, ok⟩, fo rfl, key ok⟩
    | opq fr' φ' =>
      cases fr' with
      | true => cases fr <;> exact False.elim h
      | false =>
        cases fr with
        | true => exact False.elim h
        | false =>
          obtain ⟨c, h1, h0, h2⟩ := ok
          exact ⟨⟨c, h c h1, h0, h2⟩, (by cases o with | none => rfl | some o => cases o with | none => rfl | some v => cases v <;> rfl), key h2⟩
    | none => cases fr <;> exact False.elim h
    | val d => cases fr <;> exact False.elim h
/-- the parameters' contents behind the body -/
theorem Rep.outs {vs : List V} {cs' : List Cell} (R : Rep K B F' H' σ' env') (hv : B.par = vs) (hl : cs'.length = vs.length) (h : Outs env' cs') : Rep K B F' H' (vs.map some) cs' where
  len := by rw [List.length_map]; exact hl
  sub := R.sub
  fix := R.fix
  gro := R.gro
  new := R.new
  mf := R.mf
  mh := R.mh
  m0 := R.m0
  pin := R.pin
  mp := R.mp
  pf := R.pf
  cells := fun i c e => by
    obtain ⟨e', h1, h2⟩ := h.get i c e
    cases w : c.isOwn with
    | true =>
      obtain ⟨k1, _, a, k3, k4⟩ := le_own h2 w (R.cells i e' h1)
      have : (vs.map some)[i]? = σ'[i]? := by
        rw [List.getElem?_map, ← hv, k4, k3]; rfl
      rw [this]; exact k1
    | false =>
      cases c with
      | none => trivial
      | val d => cases e' <;> exact False.elim h2
      | own _ _ => cases w
      | opq _ _ => cases w
  dis := fun i j a c c' e1 e2 s1 s2 => by
    obtain ⟨x1, h1, l1⟩ := h.get i c e1
    obtain ⟨x2, h2, l2⟩ := h.get j c' e2
    obtain ⟨_, o1, a1, k1, p1⟩ := le_own l1 (foot_isOwn s1) (R.cells i x1 h1)
    obtain ⟨_, o2, a2, k2, p2⟩ := le_own l2 (foot_isOwn s2) (R.cells j x2 h2)
    rw [List.getElem?_map, ← hv, p1] at s1
    rw [List.getElem?_map, ← hv, p2] at s2
    refine R.dis i j a x1 x2 h1 h2 ?_ ?_
    · rw [← o1, k1]; exact s1
    · rw [← o2, k2]; exact s2
theorem Rep.outsApart {vs : List V} {cs' : List Cell} (R : Rep K B F' H' σ' env') (hv : B.par = vs) (h : Outs env' cs') {b : Addr} (ap : Apart b σ' env') : Apart b (vs.map some) cs' := fun i c e m => by
  obtain ⟨x1, h1, l1⟩ := h.get i c e
  obtain ⟨_, o1, a1, k1, p1⟩ := le_own l1 (foot_isOwn m) (R.cells i x1 h1)
  rw [List.getElem?_map, ← hv, p1] at m
  exact ap i x1 h1 (by rw [← o1, k1]; exact m)
end
section
variable {P : Program} {w : World} {K : PySem.W.Frag} {mg : Str → Option Value} {base : Heap}
/-- THE RULE for a def -/
theorem okD {x qual : Str} {st : Stmt} {f : Addr} {fd : FuncData} {N ps : List Str} {k : Nat} {spec : FSpec} (F : Fun K x qual st f fd) (S : FnScope N ps (defScope st))
    (hbody : ∀ (cdv : Value) (A : Around) (outer : List Env) (s : Shared) (H : Hp) (E : XK) (B : Bd) (cs : List Cell) (Q : D → List Cell → Prop), Rm k (A.deeper (envOfC qual (defScope st) s.heap.objs.size f cdv)) → cs.length = ps.length → spec cs Q →
      ∃ t, DSs (cxOf (L2.CX P w) P w K mg base N qual (defScope st) f cdv A outer s H E).nox B (defBody st) t ∧ t (fnEnds ps.length Q) (cs ++ List.replicate (N.length - ps.length) .none)) :
    Fk P w K mg base (k + 1) f fd ps (spD ⟨K, P, w, mg⟩ ps.length spec) := by
  refine F.fk S (fun vs H Q E h => ?_) (fun cdv A outer s H vs Q E hr h => ?_)
  · obtain ⟨_, _, _, _, h, _⟩ := h; exact h
  · obtain ⟨F0, M, ms, cs, hl, R, Qd, hs, hq⟩ := h
    have hcs : cs.length = ps.length := by rw [R.len, List.length_map, hl]
    obtain ⟨t, d, ht⟩ := hbody cdv A outer s H E ⟨M, H, F0, vs, fun _ => none, ms⟩ cs _ hr hcs hs
    obtain ⟨ts, p, h⟩ := d.ex
    refine ⟨ts, PSs.nox p, ?_⟩
    have R0 := R.pad (N.length - ps.length)
    have e0 : start N vs = vs.map some ++ List.replicate (N.length - ps.length) none := by unfold start; rw [hl]
    rw [e0]
    refine h F0 H _ _ _ _ R0 ht ⟨?_, ?_, fun _ _ _ _ q => q.elim, fun _ _ _ _ q => q.elim, fun _ _ _ _ _ _ q => q.elim⟩
    · rintro env' σ' F' H' ⟨cs', l', o', q'⟩ s' R'
      exact hq _ _ .non F' H' q' s' (R'.outs rfl (l'.trans hl.symm) o') .non
    · rintro d env' v σ' F' H' ⟨cs', l', o', q'⟩ s' R' r'
      exact hq _ _ v F' H' q' s' (R'.outs rfl (l'.trans hl.symm) o') r'
end

/-! ### a call: arguments by their data, or a name's own object handed in -/
inductive Arg where
  | d (x : D) | s (i : Nat)
abbrev TDR := DEnv → (List Arg → DEnv → Prop) → Prop
def ArgR (K : KW) (F : Hp) (σ : St) (v : V) : Arg → Prop
  | .d x => Rp K F v x
  | .s i => σ[i]? = some (some v)
abbrev ArgsR (K : KW) (F : Hp) (σ : St) : List V → List Arg → Prop := Paired (ArgR K F σ)
structure DR (X : Cx) (B : Bd) (es : List Expr) (t : TDR) : Prop where
  ex : ∃ te, PA X es te ∧ ∀ (F H : Hp) (σ : St) (env : DEnv) (Q : List Arg → DEnv → Prop) (Q' : List V → Hp → Prop), Rep X.kw B F H σ env → t env Q →
    (∀ as env' vs F' H', Q as env' → Same F F' → Rep X.kw B F' H' σ env' → ArgsR X.kw F' σ vs as → Q' vs H') → te σ H Q'
@[simp] def isS (i : Nat) : Arg → Bool
  | .s j => i == j
  | .d _ => false
@[simp] def Cell.hand : Cell → Cell
  | .own _ c => .own false c
  | .opq _ φ => .opq false φ
  | c => c
@[simp] def Cell.fr : Cell → Bool
  | .own b _ => b
  | .opq b _ => b
  | _ => false
@[simp] def Cell.take (old new : Cell) : Cell := match old.isOwn, new with
  | true, .own _ c => .own old.fr c
  | true, .opq _ φ => .opq old.fr φ
  | true, _ => .none
  | false, _ => old
@[simp] def handIn (env : DEnv) (as : List Arg) : List Cell := as.map fun
  | .d x => .val x
  | .s i => (env[i]?.getD .none).hand
@[simp] def takeBack (env : DEnv) (as : List Arg) (cs : List Cell) : DEnv := env.mapIdx fun i c => match as.findIdx? (isS i) with
  | some k => c.take (cs.getD k .none)
  | none => c
@[simp] def slotsOf (as : List Arg) : List Nat := as.filterMap fun
  | .s i => some i
  | .d _ => none
section
variable {X : Cx} {B : Bd} {e a b c : Expr} {ta tb tc te : TD} {pos : Pos} {es : List Expr} {tr : TDR}
@[simp] def rNil : TDR := fun env Q => Q [] env
@[simp] def rCons (ta : TD) (tr : TDR) : TDR := fun env Q => ta env fun d env1 => tr env1 fun as env2 => Q (.d d :: as) env2
@[simp] def rSlot (i : Nat) (tr : TDR) : TDR := fun env Q => match env[i]? with
  | some c => (match c.isOwn with
    | true => tr env fun as env2 => Q (.s i :: as) env2
    | false => False)
  | none => False
theorem dr_nil : DR X B [] rNil := ⟨_, pa_nil, fun F H σ env Q Q' R ht k => k [] env [] F H ht (Same.refl _) R .nil⟩
theorem ArgR.mono {K : KW} {F F' : Hp} {σ : St} {v : V} {a : Arg} (s : Same F F') (h : ArgR K F σ v a) : ArgR K F' σ v a := by
  cases a with
  | d x => exact Rp.mono s h
  | s i => exact h
theorem dr_cons (ha : DE X B e ta) (hr : DR X B es tr) (hs : starEach (e :: es) X.env = (false, eval e X.env) :: starEach es X.env := by rfl) : DR X B (e :: es) (rCons ta tr) := by
  obtain ⟨te, p, h⟩ := ha.ex
  obtain ⟨te2, p2, h2⟩ := hr.ex
  refine ⟨_, pa_cons p p2 hs, fun F H σ env Q Q' R ht k => ?_⟩
  refine h F H σ env _ _ R ht fun d env1 v F1 H1 q1 s1 R1 r1 => ?_
  refine h2 F1 H1 σ env1 _ _ R1 q1 fun ds env2 vs F2 H2 q2 s2 R2 r2 => ?_
  exact k _ env2 _ F2 H2 q2 (s1.trans s2) R2 (.cons (Rp.mono s2 r1) r2)
theorem dr_slot {i : Nat} {x : Str} {p : Pos} (ha : PE X (.Name x p) (tVar i)) (hr : DR X B es tr) (hs : starEach (.Name x p :: es) X.env = (false, eval (.Name x p) X.env) :: starEach es X.env := by rfl) : DR X B (.Name x p :: es) (rSlot i tr) := by
  obtain ⟨te2, p2, h2⟩ := hr.ex
  refine ⟨_, pa_cons ha p2 hs, fun F H σ env Q Q' R ht k => ?_⟩
  have ht : (∃ c, env[i]? = some c ∧ c.isOwn = true) ∧ tr env fun as env2 => Q (.s i :: as) env2 := by
    unfold rSlot at ht
    split at ht
    · rename_i c hc
      split at ht
      · rename_i hw; exact ⟨⟨c, hc, hw⟩, ht⟩
      · exact ht.elim
    · exact ht.elim
  obtain ⟨⟨c, e, w⟩, ht⟩ := ht
  obtain ⟨a, s, _⟩ := (R.cells i c e).own_addr w
  refine ⟨_, s, h2 F H σ env _ _ R ht fun ds env2 vs F2 H2 q2 s2 R2 r2 => ?_⟩
  exact k _ env2 _ F2 H2 q2 s2 R2 (.cons s r2)
theorem mem_slots {i : Nat} {as : List Arg} : i ∈ slotsOf as ↔ .s i ∈ as := by
  unfold slotsOf
  rw [List.mem_filterMap]
  constructor
  · rintro ⟨a, h, e⟩
    cases a with
    | s j => cases e; exact h
    | d x => cases e
  · exact fun h => ⟨_, h, rfl⟩
theorem slots_inj {as : List Arg} {i k l : Nat} (nd : (slotsOf as).Nodup) (h1 : as[k]? = some (.s i)) (h2 : as[l]? = some (.s i)) : k = l := by
  induction as generalizing k l with
  | nil => simp at h1
  | cons a r ih =>
    have nd' : (slotsOf r).Nodup := by
      cases a with
      | d x => exact nd
      | s j => exact (List.nodup_cons.mp nd).2
    cases k with
    | zero =>
      cases l with
      | zero => rfl
      | succ l =>
        simp at h1 h2
        subst h1
        have : i ∈ slotsOf r := mem_slots.mpr (List.mem_of_getElem? h2)
        exact absurd this (List.nodup_cons.mp nd).1
    | succ k =>
      cases l with
      | zero =>
        simp at h1 h2
        subst h2
        have : i ∈ slotsOf r := mem_slots.mpr (List.mem_of_getElem? h1)
        exact absurd this (List.nodup_cons.mp nd).1
      | succ l => exact congrArg (· + 1) (ih (k := k) (l := l) nd' (by simpa using h1) (by simpa using h2))
theorem args_get {K : KW} {F : Hp} {σ : St} : ∀ {vs : List V} {as : List Arg} {k : Nat} {a : Arg}, ArgsR K F σ vs as → as[k]? = some a → ∃ v, vs[k]? = some v ∧ ArgR K F σ v a
  | _, _, _, _, .nil, e => by simp at e
  | _, _, 0, _, .cons r _, e => by simp at e; subst e; exact ⟨_, rfl, r⟩
  | _, _, k + 1, a, .cons _ t, e => by
    obtain ⟨u, h1, h2⟩ := args_get (k := k) (a := a) t (by simpa using e)
    exact ⟨u, by simpa using h1, h2⟩
end
end L2.DL

namespace L2.DL
open PySem PySem.Spec PyProof.Rows

section
variable {K : KW} {B : Bd} {F H : Hp} {σ : St} {env : DEnv} {vs : List V} {as : List Arg}
theorem hand_own {c : Cell} (w : c.hand.isOwn = true) : c.isOwn = true := by
  cases c with
  | none => cases w
  | val d => cases w
  | own _ _ => rfl
  | opq _ _ => rfl
/-- the addresses handed in -/
def HandM (σ : St) (env : DEnv) (as : List Arg) : Addr → Prop := fun b => ∃ i c, Arg.s i ∈ as ∧ env[i]? = some c ∧ b ∈ foot σ[i]? c
def HandS (σ : St) (env : DEnv) (as : List Arg) : Nat → Addr → Prop := fun k b => ∃ i c, as[k]? = some (.s i) ∧ env[i]? = some c ∧ b ∈ foot σ[i]? c
theorem HandM.addr (R : Rep K B F H σ env) {b : Addr} (h : HandM σ env as b) : F b = none ∧ H b ≠ none ∧ B.P b = none ∧ (B.H0 b = none ∨ B.M b) := by
  obtain ⟨i, c, _, e, m⟩ := h
  exact (R.cells i c e).own_foot b m
abbrev handB (σ : St) (env : DEnv) (as : List Arg) (H F : Hp) (vs : List V) : Bd := ⟨HandM σ env as, H, F, vs, fun _ => none, HandS σ env as⟩
theorem foot_hand {o : Option (Option V)} : ∀ c : Cell, foot o c.hand = foot o c
  | .none => rfl
  | .val _ => rfl
  | .own _ c => by cases o with | none => rfl | some o => cases o with | none => rfl | some v => cases v <;> rfl
  | .opq _ c => by cases o with | none => rfl | some o => cases o with | none => rfl | some v => cases v <;> rfl
theorem handIn_get {k : Nat} {c : Cell} (e : (handIn env as)[k]? = some c) : ∃ a, as[k]? = some a ∧ c = (match a with | .d x => .val x | .s i => (env[i]?.getD .none).hand) := by
  unfold handIn at e
  rw [List.getElem?_map] at e
  cases z : as[k]? with
  | none => rw [z] at e; cases e
  | some a => rw [z] at e; cases e; exact ⟨a, rfl, by cases a <;> rfl⟩
theorem Rep.handed (R : Rep K B F H σ env) (ra : ArgsR K F σ vs as) (nd : (slotsOf as).Nodup) : Rep K (handB σ env as H F vs) F H (vs.map some) (handIn env as) where
  len := by unfold handIn; rw [List.length_map, List.length_map, Paired.length ra]
  sub := R.sub
  fix := fun b o e _ => e
  gro := Same.refl _
  new := fun b e n => absurd e n
  mf := fun b m => (m.addr R).1
  mh := fun b m => (m.addr R).2.1
  m0 := fun b m => (m.addr R).2.1
  pin := fun b o e => by cases e
  mp := fun _ _ => rfl
  pf := fun b o e => by cases e
  cells := fun k c e => by
    obtain ⟨a, ea, rfl⟩ := handIn_get e
    obtain ⟨v, ev, rv⟩ := args_get ra ea
    have ev' : (vs.map some)[k]? = some (some v) := by rw [List.getElem?_map, ev]; rfl
    cases a with
    | d x => exact ⟨v, ev', rv⟩
    | s i =>
      have sv : σ[i]? = some (some v) := rv
      show CellOk _ _ _ _ _ _ ((env[i]?.getD .none).hand)
      cases z : env[i]? with
      | none => trivial
      | some c0 =>
        have h := R.cells i c0 z
        have own : ∀ {fr : Bool} {c : OC}, (∀ a, v = .ref a → ∀ b, b ∈ a :: c.subs → b ∈ foot σ[i]? c0) → OwnOk K B F H σ[i]? i fr c → OwnOk K (handB σ env as H F vs) F H (vs.map some)[k]? k false c := by
          rintro fr c w ⟨a, h1, h2, h3, h4, h5, h6, h7⟩
          rw [sv] at h1; cases h1
          have hm : ∀ b, b ∈ a :: c.subs → HandM σ env as b := fun b m => ⟨i, c0, List.mem_of_getElem? ea, z, w a rfl b m⟩
          exact ⟨a, ev', h2, h3, rfl, by simpa using ⟨hm a List.mem_cons_self, ev⟩, h6, fun b m => ⟨(h7 b m).1, rfl, .inr ⟨rfl, hm b (List.mem_cons_of_mem _ m), i, c0, ea, z, w a rfl b (List.mem_cons_of_mem _ m)⟩⟩⟩
        cases c0 with
        | none => trivial
        | val d =>
          obtain ⟨v', h1, h2⟩ := h
          rw [sv] at h1; cases h1
          exact ⟨v, ev', h2⟩
        | own fr c => exact own (fun a q b m => by rw [sv, q]; exact m) h
        | opq fr φ => obtain ⟨c, h1, h0, h2⟩ := h; exact ⟨c, h1, h0, own (fun a q b m => by rw [sv, q]; rw [h0] at m; exact m) h2⟩
  dis := fun k l b c c' e1 e2 s1 s2 => by
    have key : ∀ {k : Nat} {c : Cell}, (handIn env as)[k]? = some c → b ∈ foot (vs.map some)[k]? c → ∃ i c0, as[k]? = some (.s i) ∧ env[i]? = some c0 ∧ b ∈ foot σ[i]? c0 := by
      intro k c e w
      obtain ⟨a, ea, rfl⟩ := handIn_get e
      obtain ⟨v, ev, rv⟩ := args_get ra ea
      rw [List.getElem?_map, ev] at w
      cases a with
      | d x => rw [foot_val] at w; cases w
      | s i =>
        have sv : σ[i]? = some (some v) := rv
        have w : b ∈ foot (some (some v)) ((env[i]?.getD .none).hand) := w
        cases z : env[i]? with
        | none => rw [z] at w; have w : b ∈ foot (some (some v)) Cell.none := w; rw [foot_none] at w; cases w
        | some c0 =>
          rw [z] at w
          have w : b ∈ foot (some (some v)) c0.hand := w
          rw [foot_hand] at w
          exact ⟨i, c0, ea, z, by rw [sv]; exact w⟩
    obtain ⟨i, c0, a1, z1, t1⟩ := key e1 s1
    obtain ⟨j, c1, a2, z2, t2⟩ := key e2 s2
    have := R.dis i j b c0 c1 z1 z2 t1 t2
    subst this
    exact slots_inj nd a1 a2
theorem find_slot {i k : Nat} (h : as.findIdx? (isS i) = some k) : as[k]? = some (.s i) := by
  obtain ⟨hk, h1, _⟩ := List.findIdx?_eq_some_iff_getElem.mp h
  rw [List.getElem?_eq_getElem hk]
  cases z : as[k] with
  | d x => rw [z] at h1; cases h1
  | s j => rw [z] at h1; rw [eq_of_beq (show (i == j) = true from h1)]
theorem find_none {i : Nat} (h : as.findIdx? (isS i) = none) : Arg.s i ∉ as := fun m => by
  have := List.findIdx?_eq_none_iff.mp h _ m
  simp [isS] at this
theorem Rep.taken {F' H' : Hp} {cs : List Cell} (R : Rep K B F H σ env) (ra : ArgsR K F σ vs as) (s : Same F F') (R' : Rep K (handB σ env as H F vs) F' H' (vs.map some) cs) : Rep K B F' H' σ (takeBack env as cs) := by
  have newF : ∀ b, F b = none → H b ≠ none → F' b = none := fun b f h => by
    cases z : F' b with
    | none => rfl
    | some o => exact absurd (R'.new b f (by rw [z]; simp)) h
  have keep : ∀ b o, H b = some o → ¬ HandM σ env as b → H' b = some o := R'.fix
  have nget : ∀ {i : Nat} {c : Cell}, (takeBack env as cs)[i]? = some c → ∃ c0, env[i]? = some c0 ∧ c = (match as.findIdx? (isS i) with | some k => c0.take (cs.getD k .none) | none => c0) := by
    intro i c e
    unfold takeBack at e
    rw [List.getElem?_mapIdx] at e
    cases z : env[i]? with
    | none => rw [z] at e; cases e
    | some c0 => rw [z] at e; cases e; exact ⟨c0, rfl, rfl⟩
  refine ⟨?_, R'.sub, fun b o e m => ?_, R.gro.trans s, fun b e n => ?_, fun b m => newF b (R.mf b m) (R.mh b m), fun b m => ?_, R.m0, fun b o e => ?_, R.mp, fun b o e => newF b (R.pf b o e) (by rw [R.pin b o e]; simp), fun i c e => ?_, ?_⟩
  · unfold takeBack; rw [List.length_mapIdx]; exact R.len
  · refine keep b o (R.fix b o e m) fun h => ?_
    rcases (h.addr R).2.2.2 with q | q
    · rw [q] at e; cases e
    · exact m q
  · by_cases q : F b = none
    · exact (R.newp (R'.new b q n)).2.1
    · exact R.new b e q
  · by_cases q : HandM σ env as b
    · exact R'.mh b q
    · cases z : H b with
      | none => exact absurd z (R.mh b m)
      | some o => rw [keep b o z q]; simp
  · refine keep b o (R.pin b o e) fun h => ?_
    have := (h.addr R).2.2.1
    rw [this] at e; cases e
  · obtain ⟨c0, e0, rfl⟩ := nget e
    have h0 := R.cells i c0 e0
    cases z : as.findIdx? (isS i) with
    | none =>
      refine h0.mono s fun a sa n f => ⟨?_, newF a f n⟩
      cases y : H a with
      | none => exact absurd y n
      | some o =>
        refine keep a o y ?_
        rintro ⟨j, c1, m1, e1, s1⟩
        have := R.dis i j a c0 c1 e0 e1 sa s1
        subst this
        exact find_none z m1
    | some k =>
      have ea := find_slot z
      obtain ⟨v, ev, rv⟩ := args_get ra ea
      have sv : σ[i]? = some (some v) := rv
      show CellOk K B F' H' σ[i]? i (c0.take (cs.getD k .none))
      unfold Cell.take
      cases y : c0.isOwn with
      | false =>
        have mn : CellOk K B F' H' σ[i]? i c0 := h0.mono s fun b m => by have := foot_isOwn m; rw [y] at this; cases this
        cases (cs.getD k Cell.none) <;> exact mn
      | true =>
        obtain ⟨a, sa, fa, na, pa, _⟩ := h0.own_addr y
        rw [sv] at sa; cases sa
        have flag : if c0.fr = true then B.H0 a = none else B.M a ∧ B.par[i]? = some (.ref a) := by
          cases c0 with
          | none => cases y
          | val d => cases y
          | own fr c =>
            obtain ⟨a', h1, _, _, _, h5, _⟩ := h0
            rw [sv] at h1; cases h1; exact h5
          | opq fr φ =>
            obtain ⟨c, _, _, a', h1, _, _, _, h5, _⟩ := h0
            rw [sv] at h1; cases h1; exact h5
        have oldsub : ∀ b, b ∈ foot σ[i]? c0 → b ≠ a → B.P b = none ∧ (B.H0 b = none ∨ (c0.fr = false ∧ B.M b ∧ B.ms i b)) := by
          intro b m nb
          cases c0 with
          | none => cases y
          | val d => cases y
          | own fr c =>
            obtain ⟨a', h1, _, _, _, _, _, h7⟩ := h0
            rw [sv] at h1; cases h1
            rw [sv] at m
            rcases List.mem_cons.mp (show b ∈ a :: c.subs from m) with z | z
            · exact absurd z nb
            · exact ⟨(h7 b z).2.1, (h7 b z).2.2⟩
          | opq fr φ =>
            rw [sv] at m
            exact absurd (List.mem_singleton.mp (show b ∈ [a] from m)) nb
        have ok : ∀ {fr : Bool} {x : OC}, OwnOk K (handB σ env as H F vs) F' H' (vs.map some)[k]? k fr x → OwnOk K B F' H' σ[i]? i c0.fr x := by
          rintro fr x ⟨b, h1, h2, h3, _, _, h6, h7⟩
          rw [List.getElem?_map, ev] at h1
          cases h1
          refine ⟨a, sv, h2, h3, pa, flag, h6, fun b m => ⟨(h7 b m).1, ?_⟩⟩
          have nb : b ≠ a := fun z => (List.nodup_cons.mp h6).1 (by rw [← z]; exact m)
          rcases (h7 b m).2.2 with q | ⟨_, _, j, c1, k1, k2, k3⟩
          · obtain ⟨_, p2, p3, _⟩ := R.newp q
            exact ⟨p3, .inl p2⟩
          · rw [ea] at k1; cases k1
            rw [e0] at k2; cases k2
            exact oldsub b k3 nb
        rw [List.getD_eq_getElem?_getD]
        cases y2 : cs[k]? with
        | none => trivial
        | some c' =>
          have h' := R'.cells k c' y2
          cases c' with
          | none => trivial
          | val d => trivial
          | own fr x => exact ok h'
          | opq fr φ => obtain ⟨x, h1, h0, h2⟩ := h'; exact ⟨x, h1, h0, ok h2⟩
  · intro i j b c c' e1 e2 s1 s2
    -- a cell's address behind the call: the cell's own of before, or new
    have tk : ∀ {i k : Nat} {c0 : Cell}, env[i]? = some c0 → as.findIdx? (isS i) = some k → b ∈ foot σ[i]? (c0.take (cs.getD k .none)) → ∃ c', cs[k]? = some c' ∧ b ∈ foot (vs.map some)[k]? c' ∧ (b ∈ foot σ[i]? c0 ∨ H b = none) := by
      intro i k c0 e0 z m
      have ea := find_slot z
      obtain ⟨v, ev, rv⟩ := args_get ra ea
      have sv : σ[i]? = some (some v) := rv
      have ev' : (vs.map some)[k]? = some (some v) := by rw [List.getElem?_map, ev]; rfl
      rw [List.getD_eq_getElem?_getD] at m
      have w := foot_isOwn m
      have y : c0.isOwn = true := by
        cases y : c0.isOwn with
        | true => rfl
        | false =>
          unfold Cell.take at w
          rw [y] at w
          generalize (cs[k]?.getD Cell.none) = cc at w
          cases cc <;> (have w' : c0.isOwn = true := w; rw [y] at w'; cases w')
      cases y2 : cs[k]? with
      | none =>
        rw [y2] at m
        unfold Cell.take at m
        rw [y] at m
        have m : b ∈ foot σ[i]? Cell.none := m
        rw [foot_none] at m; cases m
      | some c' =>
        rw [y2] at m
        have m : b ∈ foot σ[i]? (c0.take c') := m
        have fe : foot σ[i]? (c0.take c') = foot (vs.map some)[k]? c' := by
          rw [sv, ev']
          unfold Cell.take
          rw [y]
          cases c' with
          | none => rw [foot_none]
          | val d => rw [foot_val]; exact foot_none
          | own fr x => cases v <;> rfl
          | opq fr φ => cases v <;> rfl
        rw [fe] at m
        refine ⟨c', rfl, m, ?_⟩
        have hs := R'.cells k c' y2
        obtain ⟨a, sa, _⟩ := (R.cells i c0 e0).own_addr y
        rw [sv] at sa; cases sa
        rw [ev'] at m hs
        have main : b = a → b ∈ foot σ[i]? c0 := fun q => by rw [q]; exact foot_main y sv
        cases c' with
        | none => rw [foot_none] at m; cases m
        | val d => rw [foot_val] at m; cases m
        | own fr x =>
          obtain ⟨a', h1, _, _, _, _, h6, h7⟩ := hs
          cases h1
          rcases List.mem_cons.mp (show b ∈ a :: x.subs from m) with q | q
          · exact .inl (main q)
          · rcases (h7 b q).2.2 with q | ⟨_, _, j, c1, k1, k2, k3⟩
            · exact .inr q
            · rw [ea] at k1; cases k1
              rw [e0] at k2; cases k2
              exact .inl k3
        | opq fr φ => exact .inl (main (List.mem_singleton.mp (show b ∈ [a] from m)))
    obtain ⟨c0, z1, rfl⟩ := nget e1
    obtain ⟨c1, z2, rfl⟩ := nget e2
    cases y1 : as.findIdx? (isS i) with
    | none =>
      rw [y1] at s1
      cases y2 : as.findIdx? (isS j) with
      | none => rw [y2] at s2; exact R.dis i j b c0 c1 z1 z2 s1 s2
      | some l =>
        rw [y2] at s2
        obtain ⟨_, _, _, q | q⟩ := tk z2 y2 s2
        · exact R.dis i j b c0 c1 z1 z2 s1 q
        · exact absurd q ((R.cells i c0 z1).own_foot b s1).2.1
    | some k =>
      rw [y1] at s1
      obtain ⟨c2, q1, q2, q3⟩ := tk z1 y1 s1
      cases y2 : as.findIdx? (isS j) with
      | none =>
        rw [y2] at s2
        rcases q3 with q | q
        · exact R.dis i j b c0 c1 z1 z2 q s2
        · exact absurd q ((R.cells j c1 z2).own_foot b s2).2.1
      | some l =>
        rw [y2] at s2
        obtain ⟨c3, p1, p2, _⟩ := tk z2 y2 s2
        have kl := R'.dis k l b c2 c3 q1 p1 q2 p2
        subst kl
        have a1 := find_slot y1
        have a2 := find_slot y2
        rw [a1] at a2; cases a2; rfl
theorem Rep.takenApart {cs : List Cell} {b : Addr} (R : Rep K B F H σ env) (ra : ArgsR K F σ vs as) (hb : H b = none) (ap : Apart b (vs.map some) cs) : Apart b σ (takeBack env as cs) := fun i c e m => by
  unfold takeBack at e
  rw [List.getElem?_mapIdx] at e
  cases z : env[i]? with
  | none => rw [z] at e; cases e
  | some c0 =>
    rw [z] at e; cases e
    have old : b ∈ foot σ[i]? c0 → False := fun m => ((R.cells i c0 z).own_foot b m).2.1 hb
    cases y1 : as.findIdx? (isS i) with
    | none => rw [y1] at m; exact old m
    | some k =>
      rw [y1] at m
      have m : b ∈ foot σ[i]? (c0.take (cs.getD k .none)) := m
      have ea := find_slot y1
      obtain ⟨v, ev, rv⟩ := args_get ra ea
      have sv : σ[i]? = some (some v) := rv
      have ev' : (vs.map some)[k]? = some (some v) := by rw [List.getElem?_map, ev]; rfl
      rw [List.getD_eq_getElem?_getD] at m
      have w := foot_isOwn m
      have y : c0.isOwn = true := by
        cases y : c0.isOwn with
        | true => rfl
        | false =>
          unfold Cell.take at w
          rw [y] at w
          generalize (cs[k]?.getD Cell.none) = cc at w
          cases cc <;> (have w' : c0.isOwn = true := w; rw [y] at w'; cases w')
      cases y2 : cs[k]? with
      | none =>
        rw [y2] at m
        unfold Cell.take at m
        rw [y] at m
        have m : b ∈ foot σ[i]? Cell.none := m
        rw [foot_none] at m; cases m
      | some c' =>
        rw [y2] at m
        have m : b ∈ foot σ[i]? (c0.take c') := m
        have fe : foot σ[i]? (c0.take c') = foot (vs.map some)[k]? c' := by
          rw [sv, ev']
          unfold Cell.take
          rw [y]
          cases c' with
          | none => rw [foot_none]
          | val d => rw [foot_val]; exact foot_none
          | own fr x => cases v <;> rfl
          | opq fr φ => cases v <;> rfl
        rw [fe] at m
        exact ap k c' y2 m
end
section
variable {X : Cx} {B : Bd} {e : Expr} {es : List Expr} {pos : Pos} {tr : TDR}
/-- what a call leaves behind in the caller's names, slot by slot -/
def putBack : DEnv → List Arg → List Cell → DEnv
  | env, [], _ => env
  | env, .d _ :: as, cs => putBack env as cs.tail
  | env, .s i :: as, cs => putBack (env.set i ((env[i]?.getD .none).take (cs.headD .none))) as cs.tail
theorem take_get (i : Nat) : ∀ (as : List Arg) (cs : List Cell) (env : DEnv), (slotsOf as).Nodup →
    (putBack env as cs)[i]? = env[i]?.map fun c => match as.findIdx? (isS i) with | some k => c.take (cs.getD k .none) | none => c
  | [], cs, env, _ => by
    show env[i]? = _
    cases env[i]? <;> rfl
  | .d x :: as, cs, env, nd => by
    show (putBack env as cs.tail)[i]? = _
    rw [take_get i as cs.tail env nd, List.findIdx?_cons]
    show _ = env[i]?.map fun c => match (as.findIdx? (isS i)).map (· + 1) with | some k => c.take (cs.getD k .none) | none => c
    cases as.findIdx? (isS i) with
    | none => rfl
    | some k => cases cs <;> rfl
  | .s j :: as, cs, env, nd => by
    have nd : (j :: slotsOf as).Nodup := nd
    obtain ⟨nj, nd⟩ := List.nodup_cons.mp nd
    show (putBack (env.set j ((env[j]?.getD .none).take (cs.headD .none))) as cs.tail)[i]? = _
    rw [take_get i as cs.tail _ nd, List.findIdx?_cons]
    by_cases q : i = j
    · subst q
      have fn : as.findIdx? (isS i) = none := List.findIdx?_eq_none_iff.mpr fun a m => by
        cases a with
        | d x => rfl
        | s k =>
          cases z : (isS i (.s k)) with
          | false => rfl
          | true =>
            have : i = k := eq_of_beq z
            subst this
            exact absurd (mem_slots.mpr m) nj
      have t : isS i (.s i) = true := beq_self_eq_true i
      rw [fn, if_pos t, List.getElem?_set_self']
      cases e : env[i]? with
      | none => rfl
      | some c => cases cs <;> rfl
    · have t : ¬ isS i (.s j) = true := fun h => q (eq_of_beq h)
      rw [if_neg t, List.getElem?_set_ne (fun h => q h.symm)]
      cases as.findIdx? (isS i) with
      | none => rfl
      | some k => cases cs <;> rfl
theorem take_put {env : DEnv} {as : List Arg} {cs : List Cell} (nd : (slotsOf as).Nodup) : takeBack env as cs = putBack env as cs := by
  refine List.ext_getElem? fun i => ?_
  rw [take_get i as cs env nd]
  unfold takeBack
  first | (rw [List.getElem?_mapIdx]; done) | (rw [List.getElem?_mapIdx]; rfl)
/-- the same, read at once -/
def putC : DEnv → List Arg → List Cell → (DEnv → Prop) → Prop
  | env, [], _, Q => Q env
  | env, .d _ :: as, cs, Q => putC env as cs.tail Q
  | env, .s i :: as, cs, Q => match env[i]? with
    | some (.own fr _) => (match cs.headD .none with
      | .own _ c => setC i (.own fr c) env fun e => putC e as cs.tail Q
      | .opq _ φ => setC i (.opq fr φ) env fun e => putC e as cs.tail Q
      | _ => setC i .none env fun e => putC e as cs.tail Q)
    | some (.opq fr _) => (match cs.headD .none with
      | .own _ c => setC i (.own fr c) env fun e => putC e as cs.tail Q
      | .opq _ φ => setC i (.opq fr φ) env fun e => putC e as cs.tail Q
      | _ => setC i .none env fun e => putC e as cs.tail Q)
    | _ => False
theorem putC_of : ∀ {as : List Arg} {cs : List Cell} {env : DEnv} {Q : DEnv → Prop}, putC env as cs Q → Q (putBack env as cs)
  | [], _, _, _, h => h
  | .d _ :: as, cs, env, Q, h => putC_of (as := as) (cs := cs.tail) h
  | .s i :: as, cs, env, Q, h => by
    have key : ∀ old : Cell, env[i]? = some old → ∀ new, cs.headD .none = new → (setC i (old.take new) env fun e => putC e as cs.tail Q) → Q (putBack env (.s i :: as) cs) := fun old e new e2 h => by
      show Q (putBack (env.set i ((env[i]?.getD .none).take (cs.headD .none))) as cs.tail)
      rw [e, e2]
      exact putC_of (setC_of h)
    unfold putC at h
    split at h
    · rename_i fr c0 e
      split at h
      · rename_i e2; exact key _ e _ e2 h
      · rename_i e2; exact key _ e _ e2 h
      · rename_i e1 e2
        refine key _ e _ rfl ?_
        cases z : cs.headD Cell.none with
        | none => exact h
        | val d => exact h
        | own fr' c => exact absurd z (e1 _ _)
        | opq fr' φ => exact absurd z (e2 _ _)
    · rename_i fr c0 e
      split at h
      · rename_i e2; exact key _ e _ e2 h
      · rename_i e2; exact key _ e _ e2 h
      · rename_i e1 e2
        refine key _ e _ rfl ?_
        cases z : cs.headD Cell.none with
        | none => exact h
        | val d => exact h
        | own fr' c => exact absurd z (e1 _ _)
        | opq fr' φ => exact absurd z (e2 _ _)
    · exact h.elim
def nodB : List Nat → Bool
  | [] => true
  | x :: r => !(r.any fun y => Nat.beq x y) && nodB r
theorem nodB_ok : ∀ {l : List Nat}, nodB l = true → l.Nodup
  | [], _ => .nil
  | x :: r, h => by
    have h : (!(r.any fun y => Nat.beq x y) && nodB r) = true := h
    rw [Bool.and_eq_true] at h
    refine List.nodup_cons.mpr ⟨fun m => ?_, nodB_ok h.2⟩
    have : (r.any fun y => Nat.beq x y) = true := List.any_eq_true.mpr ⟨x, m, Nat.beq_refl x⟩
    rw [this] at h; cases h.1
def callOk (n : Nat) (as : List Arg) : Bool := Nat.beq as.length n && nodB (slotsOf as)
theorem callOk_ok {n : Nat} {as : List Arg} (h : callOk n as = true) : as.length = n ∧ (slotsOf as).Nodup := by
  unfold callOk at h
  rw [Bool.and_eq_true] at h
  exact ⟨Nat.eq_of_beq_eq_true h.1, nodB_ok h.2⟩
@[simp] def qCall (spec : FSpec) (n : Nat) (tr : TDR) : TD := fun env Q => tr env fun as env1 => match callOk n as with
  | true => spec (handIn env1 as) fun d cs => putC env1 as cs fun env2 => Q d env2
  | false => False
theorem de_call {k n : Nat} {f : Addr} {fd : FuncData} {ps : List Str} {spec : FSpec} {x : Str} {p : Pos} (G : Fk X.prog X.w X.kw X.mg X.base k f fd ps (spD X.kw n spec)) (hr : Rm k X.A) (hg : Gl X x) (hm : X.mg x = some (.ref f)) (hk : PySem.W.keepIn X.kw (.ref f) = true) (hb : Binds X.kw fd ps [])
    (ha : DR X B (e :: es) tr) (hdb : (x == ("__debug__" : Str)) = false := by decide) (he : starEach (e :: es) X.env = (false, eval e X.env) :: starEach es X.env := by rfl) (hpl : (backTo pos (starEach es X.env)).any (·.1) = false := by rfl) :
    DE X B (.Call (.Name x p) (e :: es) [] pos) (qCall spec n tr) := by
  obtain ⟨te, q, h⟩ := ha.ex
  refine ⟨_, pk_call G hr hg hm hk hb lets0 q hdb he hpl, fun F H σ env Q Q' R ht k => ?_⟩
  refine h F H σ env _ _ R ht fun as env1 vs F1 H1 q1 s1 R1 ra => ?_
  have q1 : callOk n as = true ∧ spec (handIn env1 as) fun d cs => putC env1 as cs fun env2 => Q d env2 := by
    split at q1
    · rename_i hc; exact ⟨hc, q1⟩
    · exact q1.elim
  obtain ⟨hc, hs⟩ := q1
  obtain ⟨hn, nd⟩ := callOk_ok hc

  refine ⟨F1, HandM σ env1 as, HandS σ env1 as, handIn env1 as, by rw [Paired.length ra, hn], R1.handed ra nd, _, hs, fun d cs v F' H' q s' R' r' => ?_⟩
  exact k d _ v F' H' (putC_of q) (s1.trans s') (take_put (cs := cs) nd ▸ R1.taken ra s' R') r'
end
end L2.DL

namespace L2.DL
open PySem PySem.Spec PyProof.Rows

/-! ### data as PyData, for == at any depth -/
mutual
def D.py : D → PyData
  | .non => .none
  | .bl b => .bool b
  | .int i => .int i
  | .str x => .str x
  | .tup xs => .tuple (D.pys xs)
  | .lst xs => .list (D.pys xs)
  | .scr xs => .list (D.pys xs)
  | .atm _ => .none
  | .dct _ => .none
  | .dcn _ => .none
  | .ins _ _ => .none
def D.pys : List D → List PyData
  | [] => []
  | d :: r => d.py :: D.pys r
end
mutual
/-- no dict, no class, no def within -/
def D.pl : D → Bool
  | .non => true
  | .bl _ => true
  | .int _ => true
  | .str _ => true
  | .tup xs => D.pls xs
  | .lst xs => D.pls xs
  | .scr xs => D.pls xs
  | .atm _ => false
  | .dct _ => false
  | .dcn _ => false
  | .ins _ _ => false
def D.pls : List D → Bool
  | [] => true
  | d :: r => d.pl && D.pls r
end
section
variable {K : KW} {F H : Hp}
mutual
theorem dp_of (s : Same F H) : ∀ (d : D) (v : V), Rp K F v d → d.pl = true → Dp K H v d.py
  | .non, _, h, _ => by cases h; rw [D.py]; exact .non
  | .bl b, _, h, _ => by cases h; rw [D.py]; exact .bl b
  | .int b, _, h, _ => by cases h; rw [D.py]; exact .int b
  | .str b, _, h, _ => by cases h; rw [D.py]; exact .str b
  | .tup xs, _, h, p => by
    cases h with
    | tup hs ha => rw [D.py]; exact .tup (same_sqT s hs) (dps_of s xs _ ha (by rw [D.pl] at p; exact p))
  | .lst xs, _, h, p => by
    cases h with
    | lst hs ha => rw [D.py]; exact .lst (.of (s _ _ hs)) (dps_of s xs _ ha (by rw [D.pl] at p; exact p))
  | .scr xs, _, h, p => by
    cases h with
    | scr hs ha => rw [D.py]; exact .lst (s.seq hs) (dps_of s xs _ ha (by rw [D.pl] at p; exact p))
  | .atm _, _, _, p => by rw [D.pl] at p; cases p
  | .dct _, _, _, p => by rw [D.pl] at p; cases p
  | .dcn _, _, _, p => by rw [D.pl] at p; cases p
  | .ins _ _, _, _, p => by rw [D.pl] at p; cases p
theorem dps_of (s : Same F H) : ∀ (ds : List D) (vs : List V), RpA K F vs ds → D.pls ds = true → DpAll K H vs (D.pys ds)
  | [], _, h, _ => by cases h; rw [D.pys]; exact .nil
  | d :: r, _, h, p => by
    cases h with
    | cons h1 h2 =>
      rw [D.pls, Bool.and_eq_true] at p
      rw [D.pys]
      exact .cons (dp_of s d _ h1 p.1) (dps_of s r _ h2 p.2)
end
end
/-- == of data that are no objects -/
@[simp] def eqS : D → D → Option Bool
  | .non, .non => some true
  | .int i, .int j => some (decide (i = j))
  | .bl i, .bl j => some (decide (i = j))
  | .str i, .str j => some (decide (i = j))
  | .non, .int _ => some false
  | .non, .bl _ => some false
  | .non, .str _ => some false
  | .int _, .non => some false
  | .bl _, .non => some false
  | .str _, .non => some false
  | .int _, .str _ => some false
  | .str _, .int _ => some false
  | .bl _, .str _ => some false
  | .str _, .bl _ => some false
  | _, _ => none
def deepOk (d e : D) : Prop := d.pl = true ∧ e.pl = true ∧ SeqAt.shaped d.py = true ∧ SeqAt.shaped e.py = true
@[simp] def eqD : S2 := fun d e Q => match eqS d e with
  | some b => Q (.bl b)
  | none => deepOk d e ∧ Q (.bl (PyData.eqv d.py e.py))
@[simp] def neD : S2 := fun d e Q => match eqS d e with
  | some b => Q (.bl (!b))
  | none => deepOk d e ∧ Q (.bl (!PyData.eqv d.py e.py))
theorem eqS_rp {K : KW} {F : Hp} {x y : V} {d e : D} {b : Bool} (h : eqS d e = some b) (rx : Rp K F x d) (ry : Rp K F y e) : scal x y = true ∧ decide (x = y) = b := by
  cases rx <;> cases ry <;> first
    | (cases h; done)
    | (injection h with h; subst h; refine ⟨rfl, ?_⟩; first | rfl | (rw [decide_eq_decide]; simp) | simp)
section
variable {X : Cx}
theorem o_eq (hu : X.A.units + 64 < cLine) : DOp X (compareOp .Eq) eqD := by
  refine ⟨_, op_eq.or (op_eqD hu), fun F H x y d e Q Q' s rx ry h k => ?_⟩
  unfold eqD at h
  split at h
  · rename_i b hb
    obtain ⟨h1, h2⟩ := eqS_rp hb rx ry
    exact .inl ⟨h1, by rw [h2]; exact k _ _ F H h .nil (.bl _)⟩
  · obtain ⟨⟨p1, p2, p3, p4⟩, h⟩ := h
    exact .inr ⟨_, _, dp_of s d x rx p1, dp_of s e y ry p2, p3, p4, k _ _ F H h .nil (.bl _)⟩
theorem o_ne (hu : X.A.units + 64 < cLine) : DOp X (compareOp .NotEq) neD := by
  refine ⟨_, op_ne.or (op_neD hu), fun F H x y d e Q Q' s rx ry h k => ?_⟩
  unfold neD at h
  split at h
  · rename_i b hb
    obtain ⟨h1, h2⟩ := eqS_rp hb rx ry
    exact .inl ⟨h1, by rw [h2]; exact k _ _ F H h .nil (.bl _)⟩
  · obtain ⟨⟨p1, p2, p3, p4⟩, h⟩ := h
    exact .inr ⟨_, _, dp_of s d x rx p1, dp_of s e y ry p2, p3, p4, k _ _ F H h .nil (.bl _)⟩

/-! ### whole numbers -/
@[simp] def i2 (f : Int → Int → (D → Prop) → Prop) : S2 := fun d e Q => match d, e with
  | .int i, .int j => f i j Q
  | _, _ => False
theorem o_int {f : Value → Value → Sem Value} {C : Int → Int → Prop} {g : Int → Int → V} {g' : Int → Int → D} (h : OpR X f (rI C g)) (hg : ∀ F i j, Rp X.kw F (g i j) (g' i j)) : DOp X f (i2 fun i j Q => C i j ∧ Q (g' i j)) := by
  refine ⟨_, h, fun F H x y d e Q Q' s rx ry h k => ?_⟩
  cases rx <;> cases ry <;> first | exact h.elim | exact ⟨_, _, rfl, rfl, h.1, k _ _ F H h.2 .nil (hg F _ _)⟩
theorem o_int0 {f : Value → Value → Sem Value} {g : Int → Int → V} {g' : Int → Int → D} (h : OpR X f (rI0 g)) (hg : ∀ F i j, Rp X.kw F (g i j) (g' i j)) : DOp X f (i2 fun i j Q => Q (g' i j)) := by
  refine ⟨_, h, fun F H x y d e Q Q' s rx ry h k => ?_⟩
  cases rx <;> cases ry <;> first | exact h.elim | exact ⟨_, _, rfl, rfl, k _ _ F H h .nil (hg F _ _)⟩
theorem o_sub : DOp X (binaryOp .Sub) (i2 fun i j Q => Q (.int (i - j))) := o_int0 op_sub fun _ _ _ => .int _
theorem o_mod : DOp X (binaryOp .Mod) (i2 fun i j Q => 0 < j ∧ Q (.int (i % j))) := o_int op_mod fun _ _ _ => .int _
theorem o_pow : DOp X (binaryOp .Pow) (i2 fun i j Q => CPow i j ∧ Q (.int (i ^ j.toNat))) := o_int op_pow fun _ _ _ => .int _
theorem o_shl : DOp X (binaryOp .LShift) (i2 fun i j Q => CPow i j ∧ Q (.int (i * 2 ^ j.toNat))) := o_int op_shl fun _ _ _ => .int _
theorem o_shr : DOp X (binaryOp .RShift) (i2 fun i j Q => 0 ≤ j ∧ Q (.int (i / 2 ^ j.toNat))) := o_int op_shr fun _ _ _ => .int _
theorem o_band : DOp X (binaryOp .BitAnd) (i2 fun i j Q => Q (.int (Builtin.bitAnd i j))) := o_int0 op_and fun _ _ _ => .int _
theorem o_bor : DOp X (binaryOp .BitOr) (i2 fun i j Q => Q (.int (Builtin.bitOr i j))) := o_int0 op_or fun _ _ _ => .int _
def CDv (i j : Int) : Prop := CDiv i j ∨ CDivW i j
theorem o_fdiv : DOp X (binaryOp .FloorDiv) (i2 fun i j Q => CDv i j ∧ Q (.int (i / j))) := by
  refine ⟨_, op_fdiv.or op_fdivW, fun F H x y d e Q Q' s rx ry h k => ?_⟩
  cases rx <;> cases ry <;> first | exact h.elim | skip
  rcases h.1 with c | c
  · exact .inl ⟨_, _, rfl, rfl, c, k _ _ F H h.2 .nil (.int _)⟩
  · exact .inr ⟨_, _, rfl, rfl, c, k _ _ F H h.2 .nil (.int _)⟩
theorem o_lt : DOp X (compareOp .Lt) (i2 fun i j Q => Q (.bl (decide (i < j)))) := o_int0 op_lt fun _ _ _ => .bl _
theorem o_le : DOp X (compareOp .LtE) (i2 fun i j Q => Q (.bl (decide (i ≤ j)))) := o_int0 op_le fun _ _ _ => .bl _
theorem o_gt : DOp X (compareOp .Gt) (i2 fun i j Q => Q (.bl (decide (j < i)))) := o_int0 op_gt fun _ _ _ => .bl _
theorem o_ge : DOp X (compareOp .GtE) (i2 fun i j Q => Q (.bl (decide (j ≤ i)))) := o_int0 op_ge fun _ _ _ => .bl _
/-! ### +, * -/
@[simp] def addD : S2 := fun d e Q => match d, e with
  | .int i, .int j => Q (.int (i + j))
  | .str a, .str b => a.length + b.length ≤ sizeLine ∧ Q (.str (a ++ b))
  | .lst a, .lst b => a.length + b.length ≤ sizeLine ∧ Q (.lst (a ++ b))
  | .tup a, .tup b => a.length + b.length ≤ sizeLine ∧ Q (.tup (a ++ b))
  | _, _ => False
theorem o_add : DOp X (binaryOp .Add) addD := by
  refine ⟨_, op_add.or (op_add_str.or (op_cat.or op_catA)), fun F H x y d e Q Q' s rx ry h k => ?_⟩
  cases rx with
  | int i => cases ry <;> first | exact h.elim | exact .inl ⟨_, _, rfl, rfl, k _ _ F H h .nil (.int _)⟩
  | str i => cases ry <;> first | exact h.elim | exact .inr (.inl ⟨_, _, rfl, rfl, h.1, k _ _ F H h.2 .nil (.str _)⟩)
  | lst h1 r1 =>
    cases ry with
    | lst h2 r2 =>
      refine .inr (.inr (.inl ⟨_, _, _, _, rfl, rfl, s _ _ h1, s _ _ h2, by rw [r1.length, r2.length]; exact h.1, fun p hp => ?_⟩))
      exact k _ _ _ _ h.2 (.new hp) (.lst upd_same ((r1.append r2).mono (same_upd (s.free hp))))
    | _ => exact h.elim
  | @tup a vs ds h1 r1 =>
    cases ry with
    | @tup b ws es h2 r2 =>
      refine .inr (.inr (.inr ⟨_, _, vs, ws, rfl, rfl, same_sqT s h1, same_sqT s h2, by rw [r1.length, r2.length]; exact h.1, fun e1 => ?_, fun _ e2 => ?_, fun _ _ p hp => ?_⟩))
      · subst e1; cases r1; exact k _ _ F H h.2 .nil (.tup h2 r2)
      · subst e2; cases r2
        have h2' := h.2
        rw [List.append_nil] at h2'
        exact k _ _ F H h2' .nil (.tup h1 r1)
      · exact k _ _ _ _ h.2 (.new hp) (.tup (.of upd_same) ((r1.append r2).mono (same_upd (s.free hp))))
    | _ => exact h.elim
  | _ => exact h.elim
def CMl (i j : Int) : Prop := CMul i j ∨ CMulW i j
theorem rep_size (a : Array Nat) : ∀ (n : Nat) (b : Array Nat), (List.foldl (· ++ ·) b (List.replicate n a)).size = b.size + n * a.size
  | 0, b => by simp
  | n + 1, b => by
    rw [List.replicate_succ, List.foldl_cons, rep_size a n, Array.size_append, Nat.add_mul]
    omega
def repS (z : Str) (n : Nat) : Str := ⟨(List.replicate n z.cps).foldl (· ++ ·) #[]⟩
def CRs (z : Str) (n : Int) : Prop := 0 ≤ n ∧ n ≤ 100000 ∧ 0 < z.length ∧ z.length ≤ 100
theorem repS1e (z : Str) : repS z 1 = z := by
  show (⟨#[] ++ z.cps⟩ : Str) = z
  rw [Array.empty_append]
theorem op_mulS : OpR X (binaryOp .Mult) (fun x y H Q => ∃ z n, x = .str z ∧ y = .int n ∧ CRs z n ∧ Q (.str (repS z n.toNat)) H) := by
  intro pins s σ H x y v u Q I rx ry h
  obtain ⟨z, n, rfl, rfl, ⟨h1, h2, h3, h4⟩, q⟩ := h
  obtain ⟨t, rfl⟩ := rx
  obtain ⟨t', rfl⟩ := ry
  have hm : z.length * n.toNat ≤ 100 * 100000 := Nat.mul_le_mul h4 (by omega)
  refine PySem.P.mul_str ?_ (fun e1 e2 => ?_) (fun _ _ => ?_) ?_
  · rw [decide_eq_false (by omega), decide_eq_false (by omega)]; rfl
  · have n0 : 0 < n := by omega
    have : (2 ^ 63 - 1 : Int) / n ≥ (2 ^ 63 - 1) / 100000 := by
      apply Int.le_ediv_of_mul_le n0
      have : ((2 ^ 63 - 1) / 100000 : Int) * n ≤ ((2 ^ 63 - 1) / 100000 : Int) * 100000 := Int.mul_le_mul_of_nonneg_left h2 (by decide)
      omega
    omega
  · show decide (z.length * n.toNat > sizeLine) = false
    rw [decide_eq_false_iff_not]
    have : (10000000 : Nat) ≤ sizeLine := by decide
    omega
  · obtain rfl | rfl | h1 : n = 0 ∨ n = 1 ∨ 1 < n := by omega
    · exact ⟨by decide, .str _, H, I.tok _, ⟨_, rfl⟩, q⟩
    · rw [if_neg (by decide), if_pos (show ((1 : Int) == 1 || z.length == 0) = true from rfl)]
      rw [show (1 : Int).toNat = 1 from rfl, repS1e] at q
      exact ⟨.str z, H, I.tok _, ⟨_, rfl⟩, q⟩
    · rw [if_neg (by omega), if_neg (by simp; omega)]
      refine ⟨?_, ?_⟩
      · show (List.foldl (· ++ ·) #[] (List.replicate n.toNat z.cps)).size ≤ sizeLine
        rw [rep_size]
        have : (10000000 : Nat) ≤ sizeLine := by decide
        have hm' : n.toNat * z.cps.size ≤ 100 * 100000 := by rw [Nat.mul_comm]; exact hm
        show 0 + n.toNat * z.cps.size ≤ sizeLine
        omega
      · exact ⟨.str _, H, I.tok _, ⟨_, rfl⟩, q⟩
@[simp] def mulD : S2 := fun d e Q => match d, e with
  | .int i, .int j => CMl i j ∧ Q (.int (i * j))
  | .lst a, .int k => -(2 ^ 63) ≤ k ∧ k < 2 ^ 63 ∧ a.length * k.toNat ≤ sizeLine ∧ Q (.lst (List.replicate k.toNat a).flatten)
  | .str z, .int n => CRs z n ∧ Q (.str (repS z n.toNat))
  | _, _ => False
theorem RpA.rep {K : KW} {F : Hp} {vs : List V} {ds : List D} (r : RpA K F vs ds) : ∀ n : Nat, RpA K F (List.replicate n vs).flatten (List.replicate n ds).flatten
  | 0 => .nil
  | n + 1 => by rw [List.replicate_succ, List.flatten_cons, List.replicate_succ, List.flatten_cons]; exact r.append (RpA.rep r n)
theorem o_mul : DOp X (binaryOp .Mult) mulD := by
  refine ⟨_, op_mul.or (op_mulW.or (op_rep.or op_mulS)), fun F H x y d e Q Q' s rx ry h k => ?_⟩
  cases rx with
  | int i =>
    cases ry <;> first | exact h.elim | skip
    rcases h.1 with c | c
    · exact .inl ⟨_, _, rfl, rfl, c, k _ _ F H h.2 .nil (.int _)⟩
    · exact .inr (.inl ⟨_, _, rfl, rfl, c, k _ _ F H h.2 .nil (.int _)⟩)
  | lst h1 r1 =>
    cases ry <;> first | exact h.elim | skip
    obtain ⟨c1, c2, c3, h⟩ := h
    refine .inr (.inr (.inl ⟨_, _, _, rfl, rfl, s _ _ h1, c1, c2, by rw [r1.length]; exact c3, fun p hp => ?_⟩))
    exact k _ _ _ _ h (.new hp) (.lst upd_same ((r1.rep _).mono (same_upd (s.free hp))))
  | str z =>
    cases ry <;> first | exact h.elim | skip
    exact .inr (.inr (.inr ⟨_, _, rfl, rfl, h.1, k _ _ F H h.2 .nil (.str _)⟩))
  | _ => cases ry <;> exact h.elim
/-! ### items -/
@[simp] def ixD : S2 := fun d e Q => match d, e with
  | .tup xs, .int i => ∃ x, atI xs i = some x ∧ Q x
  | .lst xs, .int i => ∃ x, atI xs i = some x ∧ Q x
  | .scr xs, .int i => ∃ x, atI xs i = some x ∧ Q x
  | .str z, .int i => z.length ≤ sizeLine ∧ ∃ c, atI z.cps.toList i = some c ∧ Q (.str ⟨#[c]⟩)
  | .dct kvs, .str k => ∃ x, (kvs.find? fun kv => decide (kv.1 = Sum.inr k)).map (·.2) = some x ∧ Q x
  | .dct kvs, .int k => ∃ x, (kvs.find? fun kv => decide (kv.1 = Sum.inl k)).map (·.2) = some x ∧ Q x
  | _, _ => False
def rIxD : R2 := fun x y H Q => ∃ a v, x = .ref a ∧ DGet H a y (some v) ∧ Q v H
theorem ix_dict (hu : X.A.units + 1 < cLine) : IxR X rIxD := by
  intro value slice pins s σ H x y v u Q I rx ry h hs
  obtain ⟨a, z, rfl, g, q⟩ := h
  cases rx
  rcases g with ⟨kvs, k, e, ey, l⟩ | ⟨kvs, k, b, e, ey, eb, l⟩
  · subst ey
    obtain ⟨zz, hd, vs, rel, dd⟩ := dk_rd I.hok e
    obtain ⟨w', hw, rw'⟩ := RelO.some_of (v := z) (o := valueAt vs k) (by rw [l]; exact rel.val k)
    exact subscriptTail_builtinR (x := w') dd.typeIs PySem.F.slot_dict_getitem.lookup (wpAny_getItem_of (kV_is ry) dd.mapOf hw ⟨rfl, ⟨z, H, I.tok _, rw', q⟩⟩) hs
  · subst ey
    cases (show u = Value.ref b from ry)
    obtain ⟨zz, hd, xs, rel, dd⟩ := dt_rd I.hok e
    obtain ⟨w', hw, rw'⟩ := RelO.some_of (v := z) (o := (atKey xs k).map (·.2)) (by rw [l]; exact rel.val k)
    obtain ⟨p, hp, hp2⟩ := Option.map_eq_some_iff.mp hw
    refine subscriptTail_builtinR (x := w') dd.typeIs PySem.F.slot_dict_getitem.lookup (wpAny_getItem_heap (tupleKind_room_in1 hu) (key_of I.hok eb) dd hp ?_) hs
    exact ⟨hp2, ⟨z, H, I.tok _, by rw [hp2]; exact rw', q⟩⟩
theorem RpK.find {K : KW} {F : Hp} {k : Key} {x : D} : ∀ {kvs : List (Key × V)} {ds : List (Key × D)}, RpK K F kvs ds → (ds.find? fun kv => decide (kv.1 = k)).map (·.2) = some x → ∃ v, valV kvs k = some v ∧ Rp K F v x
  | _, _, .nil, e => by simp at e
  | (_ :: _), (_ :: _), .cons (k := k') h t, e => by
    by_cases q : k' = k
    · subst q
      rw [List.find?_cons_of_pos (by simp)] at e
      cases e
      exact ⟨_, valV_pos rfl, h⟩
    · rw [List.find?_cons_of_neg (by simpa using q)] at e
      obtain ⟨v, h1, h2⟩ := RpK.find t e
      exact ⟨v, by rw [valV_neg q]; exact h1, h2⟩
theorem o_ix (hu : X.A.units + 1 < cLine) : DIx X ixD := by
  refine ⟨_, ix_list.or (ix_tup.or (ix_str.or (ix_dict hu))), fun F H x y d e Q Q' s rx ry h k => ?_⟩
  cases rx with
  | lst h1 r1 =>
    cases ry <;> first | exact h.elim | skip
    obtain ⟨x, hx, h⟩ := h
    obtain ⟨v, hv, rv⟩ := r1.at hx
    exact .inl ⟨_, _, _, _, rfl, rfl, .of (s _ _ h1), hv, k _ _ F H h .nil rv⟩
  | scr h1 r1 =>
    cases ry <;> first | exact h.elim | skip
    obtain ⟨x, hx, h⟩ := h
    obtain ⟨v, hv, rv⟩ := r1.at hx
    exact .inl ⟨_, _, _, _, rfl, rfl, s.seq h1, hv, k _ _ F H h .nil rv⟩
  | tup h1 r1 =>
    cases ry <;> first | exact h.elim | skip
    obtain ⟨x, hx, h⟩ := h
    obtain ⟨v, hv, rv⟩ := r1.at hx
    exact .inr (.inl ⟨_, _, _, _, rfl, rfl, same_sqT s h1, hv, k _ _ F H h .nil rv⟩)
  | str z =>
    cases ry <;> first | exact h.elim | skip
    obtain ⟨h1, c, hc, h⟩ := h
    exact .inr (.inr (.inl ⟨_, _, _, rfl, rfl, h1, hc, k _ _ F H h .nil (.str _)⟩))
  | dct h1 r1 =>
    cases ry <;> first | exact h.elim | skip
    · obtain ⟨x, hx, h⟩ := h
      obtain ⟨v, hv, rv⟩ := r1.find hx
      exact .inr (.inr (.inr ⟨_, v, rfl, .inl ⟨_, _, .inl (s _ _ h1), rfl, hv.symm⟩, k _ _ F H h .nil rv⟩))
    · obtain ⟨x, hx, h⟩ := h
      obtain ⟨v, hv, rv⟩ := r1.find hx
      exact .inr (.inr (.inr ⟨_, v, rfl, .inl ⟨_, _, .inl (s _ _ h1), rfl, hv.symm⟩, k _ _ F H h .nil rv⟩))
  | _ => cases ry <;> exact h.elim
/-! ### in -/
@[simp] def eqF : D → D → Bool
  | .non, .non => true
  | .bl a, .bl b => a == b
  | .bl a, .int b => (if a then 1 else 0) == b
  | .int a, .bl b => a == (if b then 1 else 0)
  | .int a, .int b => a == b
  | .str a, .str b => a == b
  | _, _ => false
@[simp] def flatD : D → Bool
  | .non => true
  | .bl _ => true
  | .int _ => true
  | .str _ => true
  | _ => false
@[simp] def inL (x : D) (ys : List D) (Q : Bool → Prop) : Prop := flatD x = true ∧ ys.all flatD = true ∧ Q (ys.any fun y => eqF y x)
@[simp] def inB (x d : D) (Q : Bool → Prop) : Prop := match d with
  | .tup ys => inL x ys Q
  | .lst ys => inL x ys Q
  | .scr ys => inL x ys Q
  | .str z => ∃ c : Nat, x = .str ⟨#[c]⟩ ∧ Q (decide (c ∈ z.cps.toList))
  | .dct kvs => match x with
    | .str k => Q (kvs.any fun kv => decide (kv.1 = Sum.inr k))
    | .int k => Q (kvs.any fun kv => decide (kv.1 = Sum.inl k))
    | _ => False
  | _ => False
theorem flat_rp {K : KW} {F : Hp} {v : V} {d : D} (r : Rp K F v d) (f : flatD d = true) : flatV v = true := by
  cases r <;> first | rfl | cases f
theorem flats_rp {K : KW} {F : Hp} : ∀ {vs : List V} {ds : List D}, RpA K F vs ds → ds.all flatD = true → vs.all flatV = true
  | _, _, .nil, _ => rfl
  | _, _, .cons h t, f => by
    rw [List.all_cons, Bool.and_eq_true] at f ⊢
    exact ⟨flat_rp h f.1, flats_rp t f.2⟩
theorem eqF_rp {K : KW} {F : Hp} {u v : V} {d e : D} (r : Rp K F u d) (q : Rp K F v e) (f : flatD d = true) (g : flatD e = true) : eqV u v = eqF d e := by
  cases r <;> cases q <;> first | exact absurd (show false = true from f) (by decide) | exact absurd (show false = true from g) (by decide) | rfl
theorem any_rp {K : KW} {F : Hp} {v : V} {e : D} (q : Rp K F v e) (g : flatD e = true) : ∀ {vs : List V} {ds : List D}, RpA K F vs ds → ds.all flatD = true → inV v vs = ds.any fun y => eqF y e
  | _, _, .nil, _ => rfl
  | _, _, .cons h t, f => by
    rw [List.all_cons, Bool.and_eq_true] at f
    unfold inV
    rw [List.any_cons, List.any_cons, eqF_rp h q f.1 g]
    exact congrArg _ (any_rp q g t f.2)
theorem RpK.any {K : KW} {F : Hp} {k : Key} : ∀ {kvs : List (Key × V)} {ds : List (Key × D)}, RpK K F kvs ds → (valV kvs k).isSome = ds.any fun kv => decide (kv.1 = k)
  | _, _, .nil => rfl
  | _, _, .cons (k := k') h t => by
    rw [List.any_cons]
    by_cases q : k' = k
    · subst q
      rw [valV_pos rfl]; simp
    · rw [valV_neg q, RpK.any t]; simp [q]
def rInAll (K : KW) (neg : Bool) : R2 := fun x y H Q =>
  rIn K neg x y H Q ∨ (∃ (c : Nat) (z : Str), x = .str ⟨#[c]⟩ ∧ y = .str z ∧ Q (.bl (if neg then !decide (c ∈ z.cps.toList) else decide (c ∈ z.cps.toList))) H) ∨ ∃ a o, y = .ref a ∧ DGet H a x o ∧ Q (.bl (if neg then !o.isSome else o.isSome)) H
theorem op_inAll (hu : X.A.units + 1 < cLine) : OpR X (compareOp .In) (rInAll X.kw false) := by
  refine op_in_seq.or (op_in_sign.or ?_)
  intro pins s σ H x y v u Q I rx ry h
  obtain ⟨a, o, rfl, g, q⟩ := h
  cases ry
  exact d_in hu I g rx fun s' I' => ⟨.bl _, H, I', rfl, q⟩
theorem op_ninAll (hu : X.A.units + 1 < cLine) : OpR X (compareOp .NotIn) (rInAll X.kw true) := by
  refine op_notIn_seq.or (op_notIn_sign.or ?_)
  intro pins s σ H x y v u Q I rx ry h
  obtain ⟨a, o, rfl, g, q⟩ := h
  cases ry
  exact d_notIn hu I g rx fun s' I' => ⟨.bl _, H, I', rfl, q⟩
theorem in_run {neg : Bool} {F H : Hp} {x y : V} {d e : D} {Q : D → Prop} {Q' : VK} (s : Same F H) (rx : Rp X.kw F x d) (ry : Rp X.kw F y e) (h : inB d e fun b => Q (.bl (if neg then !b else b)))
    (k : ∀ d' v F' H', Q d' → Stp F H F' H' → Rp X.kw F' v d' → Q' v H') : rInAll X.kw neg x y H Q' := by
  have seqc : ∀ {a : Addr} {vs : List V} {ds : List D}, (SqL X.kw H a vs ∨ SqT X.kw H a vs) → RpA X.kw F vs ds → inL d ds (fun b => Q (.bl (if neg then !b else b))) → rIn X.kw neg x (.ref a) H Q' := by
    intro a vs ds hs ra hq
    obtain ⟨h1, h2, h3⟩ := hq
    refine ⟨a, vs, rfl, hs, flat_rp rx h1, flats_rp ra h2, ?_⟩
    rw [any_rp rx h1 ra h2]
    exact k _ _ F H h3 .nil (.bl _)
  cases ry with
  | tup h1 r1 => exact .inl (seqc (.inr (same_sqT s h1)) r1 h)
  | lst h1 r1 => exact .inl (seqc (.inl (.of (s _ _ h1))) r1 h)
  | scr h1 r1 => exact .inl (seqc (.inl (s.seq h1)) r1 h)
  | str z =>
    obtain ⟨c, rfl, h⟩ := h
    cases rx
    exact .inr (.inl ⟨c, z, rfl, rfl, k _ _ F H h .nil (.bl _)⟩)
  | @dct a kvs ds h1 r1 =>
    have dk : ∀ (kk : Key), x = kV kk → Q (.bl (if neg then !(ds.any fun kv => decide (kv.1 = kk)) else ds.any fun kv => decide (kv.1 = kk))) → rInAll X.kw neg x (.ref a) H Q' := by
      intro kk ex hq
      refine .inr (.inr ⟨a, valV kvs kk, rfl, .inl ⟨kvs, kk, .inl (s _ _ h1), ex, rfl⟩, ?_⟩)
      rw [r1.any]
      exact k _ _ F H hq .nil (.bl _)
    cases rx with
    | str z => exact dk (Sum.inr z) rfl h
    | int z => exact dk (Sum.inl z) rfl h
    | _ => exact h.elim
  | _ => exact h.elim
@[simp] def inD : S2 := fun d e Q => inB d e fun b => Q (.bl b)
@[simp] def ninD : S2 := fun d e Q => inB d e fun b => Q (.bl (!b))
theorem o_in (hu : X.A.units + 1 < cLine) : DOp X (compareOp .In) inD := ⟨_, op_inAll hu, fun F H x y d e Q Q' s rx ry h k => in_run (neg := false) s rx ry h k⟩
theorem o_nin (hu : X.A.units + 1 < cLine) : DOp X (compareOp .NotIn) ninD := ⟨_, op_ninAll hu, fun F H x y d e Q Q' s rx ry h k => in_run (neg := true) s rx ry h k⟩
/-! ### is None -/
@[simp] def isN : D → (Bool → Prop) → Prop
  | .non, Q => Q true
  | .atm (.ref _), Q => Q false
  | .atm _, _ => False
  | _, Q => Q false
@[simp] def isD : S2 := fun d e Q => match e with
  | .non => isN d fun b => Q (.bl b)
  | _ => False
@[simp] def isnD : S2 := fun d e Q => match e with
  | .non => isN d fun b => Q (.bl (!b))
  | _ => False
theorem isN_rp {K : KW} {F : Hp} {x : V} {d : D} {Q : Bool → Prop} (r : Rp K F x d) (h : isN d Q) : Q (decide (x = .non)) := by
  cases r with
  | atm _ => cases x <;> first | exact h.elim | (rw [decide_eq_false (by intro e; cases e)]; exact h)
  | _ => first | exact h | exact h.elim | (rw [decide_eq_false (by intro e; cases e)]; exact h)
theorem o_is : DOp X (compareOp .Is) isD := by
  refine ⟨_, op_isN, fun F H x y d e Q Q' s rx ry h k => ?_⟩
  cases ry <;> first | exact h.elim | exact ⟨rfl, k _ _ F H (isN_rp (Q := fun b => Q (.bl b)) rx h) .nil (.bl _)⟩
theorem o_isn : DOp X (compareOp .IsNot) isnD := by
  refine ⟨_, op_notN, fun F H x y d e Q Q' s rx ry h k => ?_⟩
  cases ry <;> first | exact h.elim | exact ⟨rfl, k _ _ F H (isN_rp (Q := fun b => Q (.bl (!b))) rx h) .nil (.bl _)⟩
end
end L2.DL

namespace L2.DL
open PySem PySem.Spec PyProof.Rows

section
variable {K : KW} {F H : Hp} {x y : V} {d e : D} {vs : List V}
theorem rpa1 (r : RpA K F vs [d]) : ∃ v, vs = [v] ∧ Rp K F v d := by
  cases r with
  | cons r rr => cases rr; exact ⟨_, rfl, r⟩
theorem rpa2 (r : RpA K F vs [d, e]) : ∃ v w, vs = [v, w] ∧ Rp K F v d ∧ Rp K F w e := by
  cases r with
  | cons r rr => obtain ⟨w, rfl, r2⟩ := rpa1 rr; exact ⟨_, _, rfl, r, r2⟩
end
section
variable {X : Cx}
/-- one argument -/
@[simp] def n1 (f : D → (D → Prop) → Prop) : SN := fun ds Q => match ds with
  | [d] => f d Q
  | _ => False
@[simp] def n2 (f : D → D → (D → Prop) → Prop) : SN := fun ds Q => match ds with
  | [d, e] => f d e Q
  | _ => False
theorem n1_of {f : D → (D → Prop) → Prop} {ds : List D} {Q : D → Prop} (h : n1 f ds Q) : ∃ d, ds = [d] ∧ f d Q := by
  unfold n1 at h
  split at h
  · exact ⟨_, rfl, h⟩
  · exact h.elim
theorem n2_of {f : D → D → (D → Prop) → Prop} {ds : List D} {Q : D → Prop} (h : n2 f ds Q) : ∃ d e, ds = [d, e] ∧ f d e Q := by
  unfold n2 at h
  split at h
  · exact ⟨_, _, rfl, h⟩
  · exact h.elim
@[simp] def lenD : D → (D → Prop) → Prop := fun d Q => match d with
  | .str z => z.length ≤ sizeLine ∧ Q (.int z.length)
  | .tup xs => Q (.int xs.length)
  | .lst xs => Q (.int xs.length)
  | .scr xs => Q (.int xs.length)
  | .dct kvs => Q (.int kvs.length)
  | _ => False
theorem call_lenK : CallR X (.builtin "len") (fun xs H Q => ∃ a kvs, xs = [.ref a] ∧ H a = some (.dK kvs) ∧ Q (.int kvs.length) H) := by
  intro pins s σ H xs us Q I r h
  obtain ⟨a, kvs, rfl, e, q⟩ := h
  exact call_lenD pins s σ H _ us Q I r ⟨a, kvs, rfl, e, q⟩
theorem c_len : DCl X (.builtin "len") (n1 lenD) := by
  refine ⟨_, call_len.or call_lenK, fun F H xs ds Q Q' s r h k => ?_⟩
  obtain ⟨d, rfl, h⟩ := n1_of h
  obtain ⟨v, rfl, r1⟩ := rpa1 r
  cases r1 with
  | str z => exact .inl ⟨_, _, rfl, ⟨h.1, rfl⟩, k _ _ F H h.2 .nil (.int _)⟩
  | tup h1 ra => exact .inl ⟨_, _, rfl, .inr ⟨_, same_sqT s h1, rfl⟩, by rw [ra.length]; exact k _ _ F H h .nil (.int _)⟩
  | lst h1 ra => exact .inl ⟨_, _, rfl, .inl ⟨_, .of (s _ _ h1), rfl⟩, by rw [ra.length]; exact k _ _ F H h .nil (.int _)⟩
  | scr h1 ra => exact .inl ⟨_, _, rfl, .inl ⟨_, s.seq h1, rfl⟩, by rw [ra.length]; exact k _ _ F H h .nil (.int _)⟩
  | dct h1 ra => exact .inr ⟨_, _, rfl, s _ _ h1, by rw [ra.length]; exact k _ _ F H h .nil (.int _)⟩
  | _ => exact h.elim
/-! ### isinstance -/
inductive TyN where
  | int | bool | str | tup | lst | dct
def TyN.nm : TyN → String
  | .int => "int"
  | .bool => "bool"
  | .str => "str"
  | .tup => "tuple"
  | .lst => "list"
  | .dct => "dict"
@[simp] def isI : TyN → D → Bool
  | .int, .int _ => true
  | .int, .bl _ => true
  | .bool, .bl _ => true
  | .str, .str _ => true
  | .tup, .tup _ => true
  | .lst, .lst _ => true
  | .lst, .scr _ => true
  | .dct, .dct _ => true
  | _, _ => false
@[simp] def noAtm : D → Bool
  | .atm _ => false
  | .dcn _ => false
  | .ins _ _ => false
  | _ => true
def D.tn : D → String
  | .non => "NoneType"
  | .bl _ => "bool"
  | .int _ => "int"
  | .str _ => "str"
  | .tup _ => "tuple"
  | .lst _ => "list"
  | .scr _ => "list"
  | .dct _ => "dict"
  | .atm _ => ""
  | .dcn _ => ""
  | .ins _ _ => ""
theorem kit_tbl : ∀ t : TyN, kitB "NoneType" t.nm = some (isI t .non) ∧ kitB "bool" t.nm = some (isI t (.bl true)) ∧ kitB "int" t.nm = some (isI t (.int 0)) ∧ kitB "str" t.nm = some (isI t (.str ⟨#[]⟩)) ∧
    kitB "tuple" t.nm = some (isI t (.tup [])) ∧ kitB "list" t.nm = some (isI t (.lst [])) ∧ kitB "dict" t.nm = some (isI t (.dct [])) := by
  intro t
  cases t <;> decide +kernel
theorem kit_D (t : TyN) (d : D) (h : noAtm d = true) : kitB d.tn t.nm = some (isI t d) := by
  obtain ⟨h1, h2, h3, h4, h5, h6, h7⟩ := kit_tbl t
  cases d with
  | non => exact h1
  | bl b => rw [show isI t (.bl b) = isI t (.bl true) by cases t <;> rfl]; exact h2
  | int i => rw [show isI t (.int i) = isI t (.int 0) by cases t <;> rfl]; exact h3
  | str i => rw [show isI t (.str i) = isI t (.str ⟨#[]⟩) by cases t <;> rfl]; exact h4
  | tup i => rw [show isI t (.tup i) = isI t (.tup []) by cases t <;> rfl]; exact h5
  | lst i => rw [show isI t (.lst i) = isI t (.lst []) by cases t <;> rfl]; exact h6
  | scr i => rw [show isI t (.scr i) = isI t (.lst []) by cases t <;> rfl]; exact h6
  | dct i => rw [show isI t (.dct i) = isI t (.dct []) by cases t <;> rfl]; exact h7
  | atm v => cases h
  | dcn v => cases h
  | ins _ _ => cases h
theorem tyx_of {K : KW} {F H : Hp} {x : V} {d : D} (s : Same F H) (r : Rp K F x d) (h : noAtm d = true) : TyX K H x (.type d.tn) := by
  cases r with
  | non => exact .base .non
  | bl b => exact .base (.bl b)
  | int b => exact .base (.int b)
  | str b => exact .base (.str b)
  | tup h1 _ =>
    rcases same_sqT s h1 with (h | ⟨o, h⟩) | ⟨o, its, n, h1, h2, _⟩
    · exact .base (.tup h)
    · exact .fTuple h
    · exact .kTuple h1 h2
  | lst h1 _ => exact .base (.lst (s _ _ h1))
  | scr h1 _ =>
    rcases s.seq h1 with (h | ⟨o, h⟩) | ⟨o, its, n, h1, h2, _⟩
    · exact .base (.lst h)
    · exact .base (.frz h)
    · exact .kList h1 h2
  | dct h1 _ => exact .base (.dK (s _ _ h1))
  | atm v => cases h
  | dcn _ _ => cases h
  | ins _ _ _ => cases h
@[simp] def isiD (t : TyN) : SN := n2 fun d e Q => e = .atm (.ty t.nm) ∧ noAtm d = true ∧ Q (.bl (isI t d))
theorem c_isi (t : TyN) : DCl X (.builtin "isinstance") (isiD t) := by
  refine ⟨_, call_isi, fun F H xs ds Q Q' s r h k => ?_⟩
  obtain ⟨d, e, rfl, rfl, h1, h⟩ := n2_of h
  obtain ⟨v, w, rfl, r1, r2⟩ := rpa2 r
  cases r2
  exact ⟨_, _, _, _, _, rfl, .ty _, tyx_of s r1 h1, kit_ty (kit_D t d h1), k _ _ F H h .nil (.bl _)⟩
/-- isinstance(x, (T, U)) -/
@[simp] def qIsi2 (t u : TyN) (te : TD) : TD := fun env Q => te env fun d env1 => noAtm d = true ∧ Q (.bl (isI t d || isI u d)) env1
theorem de_isi2 {B : Bd} {te : TD} {ce : Expr} (t u : TyN) (p : PE X ce (tCB (rIsiT X.kw) (tCons (canE X.kw B te) (tCons (tTup (tCons (tC (.ty t.nm)) (tCons (tC (.ty u.nm)) tNil))) tNil)))) : DE X B ce (qIsi2 t u te) := by
  refine ⟨_, p, fun F H σ env Q Q' R ht k => ?_⟩
  refine ⟨F, env, _, R, ht, fun d env1 v F1 H1 q s1 R1 r1 => ?_⟩
  refine ⟨by show 2 ≤ sizeLine; decide, fun p hp => ?_⟩
  refine ⟨v, p, _, _, [.type t.nm, .type u.nm], (isI t d || isI u d), rfl, upd_same, .cons (.ty _) (.cons (.ty _) .nil), tyx_of (R1.sub.trans (same_upd hp)) r1 q.1, ?_, k _ env1 _ F1 _ q.2 s1 (R1.junk hp) (.bl _)⟩
  refine kitAny_cons (kit_ty (kit_D t d q.1)) (fun e => ?_) (fun e => by rw [e]; rfl)
  rw [e, Bool.false_or]
  refine kitAny_cons (kit_ty (kit_D u d q.1)) (fun e => ?_) (fun e => e)
  rw [e]; exact kitAny_nil
/-! ### int, abs, max, min, sum, all, any, list, tuple -/
@[simp] def intD : D → (D → Prop) → Prop := fun d Q => match d with
  | .int i => Q (.int i)
  | .bl k => Q (.int (if k then 1 else 0))
  | .str z => ∃ n, PySem.intText? z = some n ∧ z.length ≤ 640 ∧ Q (.int n)
  | _ => False
theorem c_int : DCl X (.type "int") (n1 intD) := by
  refine ⟨_, call_int1.or call_int_str, fun F H xs ds Q Q' s r h k => ?_⟩
  obtain ⟨d, rfl, h⟩ := n1_of h
  obtain ⟨v, rfl, r1⟩ := rpa1 r
  cases r1 with
  | int i => exact .inl (.inl ⟨_, rfl, k _ _ F H h .nil (.int _)⟩)
  | bl i => exact .inl (.inr ⟨_, rfl, k _ _ F H h .nil (.int _)⟩)
  | str z => obtain ⟨n, h1, h2, h⟩ := h; exact .inr ⟨_, n, rfl, h1, h2, k _ _ F H h .nil (.int _)⟩
  | _ => exact h.elim
@[simp] def absD : D → (D → Prop) → Prop := fun d Q => match d with
  | .int i => Q (.int (if i < 0 then -i else i))
  | _ => False
theorem c_abs : DCl X (.builtin "abs") (n1 absD) := by
  refine ⟨_, call_abs, fun F H xs ds Q Q' s r h k => ?_⟩
  obtain ⟨d, rfl, h⟩ := n1_of h
  obtain ⟨v, rfl, r1⟩ := rpa1 r
  cases r1 <;> first | exact h.elim | exact ⟨_, rfl, k _ _ F H h .nil (.int _)⟩
@[simp] def max2D : D → D → (D → Prop) → Prop := fun d e Q => match d, e with
  | .int i, .int j => Q (.int (if j > i then j else i))
  | _, _ => False
@[simp] def min2D : D → D → (D → Prop) → Prop := fun d e Q => match d, e with
  | .int i, .int j => Q (.int (if j < i then j else i))
  | _, _ => False
theorem c_max2 (hc : X.calm = true) : DCl X (.builtin "max") (n2 max2D) := by
  refine ⟨_, call_max2 hc, fun F H xs ds Q Q' s r h k => ?_⟩
  obtain ⟨d, e, rfl, h⟩ := n2_of h
  obtain ⟨v, w, rfl, r1, r2⟩ := rpa2 r
  cases r1 <;> cases r2 <;> first | exact h.elim | exact ⟨_, _, rfl, k _ _ F H h .nil (.int _)⟩
theorem c_min2 (hc : X.calm = true) : DCl X (.builtin "min") (n2 min2D) := by
  refine ⟨_, call_min2 hc, fun F H xs ds Q Q' s r h k => ?_⟩
  obtain ⟨d, e, rfl, h⟩ := n2_of h
  obtain ⟨v, w, rfl, r1, r2⟩ := rpa2 r
  cases r1 <;> cases r2 <;> first | exact h.elim | exact ⟨_, _, rfl, k _ _ F H h .nil (.int _)⟩
/-- one list -/
@[simp] def onLst (f : List D → (D → Prop) → Prop) : SN := n1 fun d Q => match d with
  | .lst xs => f xs Q
  | .scr xs => f xs Q
  | _ => False
theorem lst_run {f : Value} {r : List V → Hp → VK → Prop} {g : List D → (D → Prop) → Prop} (hr : CallR X f r)
    (h : ∀ (F H : Hp) (a : Addr) (vs : List V) (ds : List D) (Q : D → Prop) (Q' : VK), Same F H → SqL X.kw H a vs → RpA X.kw F vs ds → g ds Q → (∀ d' v F' H', Q d' → Stp F H F' H' → Rp X.kw F' v d' → Q' v H') → r [.ref a] H Q') : DCl X f (onLst g) := by
  refine ⟨r, hr, fun F H xs ds Q Q' s ra hq k => ?_⟩
  obtain ⟨d, rfl, hq⟩ := n1_of hq
  obtain ⟨v, rfl, r1⟩ := rpa1 ra
  cases r1 with
  | lst h1 ra' => exact h F H _ _ _ Q Q' s (.of (s _ _ h1)) ra' hq k
  | scr h1 ra' => exact h F H _ _ _ Q Q' s (s.seq h1) ra' hq k
  | _ => exact hq.elim
theorem c_sum (hc : X.calm = true) : DCl X (.builtin "sum") (onLst fun ds Q => ∃ ns : List Int, ds = ns.map D.int ∧ Q (.int ns.sum)) :=
  lst_run (cr_sum hc) fun F H a vs ds Q Q' s hs ra ⟨ns, e, h⟩ k => by
    subst e
    rw [ra.of_ints] at hs
    exact ⟨a, ns, rfl, hs, k _ _ F H h .nil (.int _)⟩
theorem c_max (hc : X.calm = true) : DCl X (.builtin "max") (onLst fun ds Q => ∃ ns : List Int, ds = ns.map D.int ∧ 0 < ns.length ∧ ∀ m, m ∈ ns → (∀ y, y ∈ ns → y ≤ m) → Q (.int m)) :=
  lst_run (cr_max hc) fun F H a vs ds Q Q' s hs ra ⟨ns, e, h1, h⟩ k => by
    subst e
    rw [ra.of_ints] at hs
    exact ⟨a, ns, rfl, hs, h1, fun m a b => k _ _ F H (h m a b) .nil (.int _)⟩
theorem c_min (hc : X.calm = true) : DCl X (.builtin "min") (onLst fun ds Q => ∃ ns : List Int, ds = ns.map D.int ∧ 0 < ns.length ∧ ∀ m, m ∈ ns → (∀ y, y ∈ ns → m ≤ y) → Q (.int m)) :=
  lst_run (cr_min hc) fun F H a vs ds Q Q' s hs ra ⟨ns, e, h1, h⟩ k => by
    subst e
    rw [ra.of_ints] at hs
    exact ⟨a, ns, rfl, hs, h1, fun m a b => k _ _ F H (h m a b) .nil (.int _)⟩
theorem c_all (hc : X.calm = true) : DCl X (.builtin "all") (onLst fun ds Q => ∃ bs : List Bool, ds = bs.map D.bl ∧ Q (.bl (bs.all id))) :=
  lst_run (cr_all hc) fun F H a vs ds Q Q' s hs ra ⟨ns, e, h⟩ k => by
    subst e
    rw [ra.of_bls] at hs
    exact ⟨a, ns, rfl, hs, k _ _ F H h .nil (.bl _)⟩
theorem c_any (hc : X.calm = true) : DCl X (.builtin "any") (onLst fun ds Q => ∃ bs : List Bool, ds = bs.map D.bl ∧ Q (.bl (bs.any id))) :=
  lst_run (cr_any hc) fun F H a vs ds Q Q' s hs ra ⟨ns, e, h⟩ k => by
    subst e
    rw [ra.of_bls] at hs
    exact ⟨a, ns, rfl, hs, k _ _ F H h .nil (.bl _)⟩
theorem c_sorted : DCl X (.builtin "sorted") (onLst fun ds Q => ∃ ns : List Int, ds = ns.map D.int ∧ ns.length < 64 ∧ ∀ ns' : List Int, ns'.Perm ns → ns'.Pairwise (· ≤ ·) → Q (.lst (ns'.map D.int))) :=
  lst_run cr_sorted fun F H a vs ds Q Q' s hs ra ⟨ns, e, h1, h⟩ k => by
    subst e
    rw [ra.of_ints] at hs
    exact ⟨a, ns, rfl, hs, h1, fun ns' p e1 e2 hp => k _ _ _ _ (h ns' e1 e2) (.new hp) (.lst upd_same (RpA.ints ns'))⟩
@[simp] def listD : D → (D → Prop) → Prop := fun d Q => match d with
  | .lst xs => Q (.lst xs)
  | .scr xs => Q (.lst xs)
  | .tup xs => Q (.lst xs)
  | _ => False
theorem c_list : DCl X (.type "list") (n1 listD) := by
  refine ⟨_, call_list_of, fun F H xs ds Q Q' s r h k => ?_⟩
  obtain ⟨d, rfl, h⟩ := n1_of h
  obtain ⟨v, rfl, r1⟩ := rpa1 r
  cases r1 with
  | lst h1 ra => exact ⟨_, _, rfl, .inl (.of (s _ _ h1)), fun p hp => k _ _ _ _ h (.new hp) (.lst upd_same (ra.mono (same_upd (s.free hp))))⟩
  | scr h1 ra => exact ⟨_, _, rfl, .inl (s.seq h1), fun p hp => k _ _ _ _ h (.new hp) (.lst upd_same (ra.mono (same_upd (s.free hp))))⟩
  | tup h1 ra => exact ⟨_, _, rfl, .inr (same_sqT s h1), fun p hp => k _ _ _ _ h (.new hp) (.lst upd_same (ra.mono (same_upd (s.free hp))))⟩
  | _ => exact h.elim
@[simp] def tupleD : D → (D → Prop) → Prop := fun d Q => match d with
  | .lst xs => Q (.tup xs)
  | .scr xs => Q (.tup xs)
  | .tup xs => Q (.tup xs)
  | _ => False
theorem c_tuple : DCl X (.type "tuple") (n1 tupleD) := by
  refine ⟨_, call_tuple_of, fun F H xs ds Q Q' s r h k => ?_⟩
  obtain ⟨d, rfl, h⟩ := n1_of h
  obtain ⟨v, rfl, r1⟩ := rpa1 r
  cases r1 with
  | lst h1 ra => exact ⟨_, _, rfl, .inl ⟨.of (s _ _ h1), fun p hp => k _ _ _ _ h (.new hp) (.tup (.of upd_same) (ra.mono (same_upd (s.free hp))))⟩⟩
  | scr h1 ra => exact ⟨_, _, rfl, .inl ⟨s.seq h1, fun p hp => k _ _ _ _ h (.new hp) (.tup (.of upd_same) (ra.mono (same_upd (s.free hp))))⟩⟩
  | tup h1 ra => exact ⟨_, _, rfl, .inr ⟨same_sqT s h1, k _ _ F H h .nil (.tup h1 ra)⟩⟩
  | _ => exact h.elim
/-! ### slices -/
def cutD {α : Type} (xs : List α) (lo hi : Option Int) : List α := (xs.drop (HT.sIx xs.length 0 lo)).take (HT.sIx xs.length xs.length hi - HT.sIx xs.length 0 lo)
@[simp] def slD : S3 := fun d lo hi Q => match d with
  | .lst xs => Q (.lst (cutD xs lo hi))
  | .scr xs => Q (.lst (cutD xs lo hi))
  | .tup xs => Q (.tup (cutD xs lo hi))
  | .str z => z.length ≤ sizeLine ∧ Q (.str (cutS z lo hi))
  | _ => False
theorem RpA.cut {K : KW} {F : Hp} {vs : List V} {ds : List D} (r : RpA K F vs ds) (lo hi : Option Int) : RpA K F (cutV vs lo hi) (cutD ds lo hi) := by
  unfold cutV cutD
  rw [r.length]
  exact (r.drop _).take _
theorem cut_whole {α : Type} {xs : List α} {lo hi : Option Int} (h : HT.sIx xs.length 0 lo = 0 ∧ HT.sIx xs.length xs.length hi = xs.length) : cutD xs lo hi = xs := by
  unfold cutD
  rw [h.1, h.2]
  simp
theorem o_sl : DSl X slD := by
  refine ⟨_, sl_list.or (sl_tupA.or sl_str), fun F H x d lo hi Q Q' s r h k => ?_⟩
  cases r with
  | lst h1 ra => exact .inl ⟨_, _, rfl, .of (s _ _ h1), fun p hp => k _ _ _ _ h (.new hp) (.lst upd_same ((ra.cut lo hi).mono (same_upd (s.free hp))))⟩
  | scr h1 ra => exact .inl ⟨_, _, rfl, s.seq h1, fun p hp => k _ _ _ _ h (.new hp) (.lst upd_same ((ra.cut lo hi).mono (same_upd (s.free hp))))⟩
  | tup h1 ra =>
    refine .inr (.inl ⟨_, _, rfl, same_sqT s h1, fun w => ?_, fun _ p hp => k _ _ _ _ h (.new hp) (.tup (.of upd_same) ((ra.cut lo hi).mono (same_upd (s.free hp))))⟩)
    rw [ra.length] at w
    have h : Q (.tup (cutD _ lo hi)) := h
    rw [cut_whole w] at h
    exact k _ _ F H h .nil (.tup h1 ra)
  | str z => exact .inr (.inr ⟨_, rfl, h.1, k _ _ F H h.2 .nil (.str _)⟩)
  | _ => exact h.elim
end
end L2.DL

namespace L2.DL
open PySem PySem.Spec PyProof.Rows

section
variable {X : Cx} {B : Bd} {tg e a b c : Expr} {te ta tb : TD} {pos : Pos} {st : Stmt} {t u : TDS} {es : List Expr} {tr : TDA}
/-! ### a list, tuple or text that is gone through -/
def iSeq (K : KW) (te : TE) : TI := fun σ H R => te σ H fun x H1 => (∃ a, x = .ref a ∧ (∃ xs, SqL K H1 a xs) ∧ R (Itl K a) H1) ∨ (∃ a, x = .ref a ∧ (∃ xs, SqT K H1 a xs) ∧ R (Itt K a) H1) ∨ ∃ z, x = .str z ∧ R (Its z) H1
theorem pi_seq {te : TE} (he : PE X e te) : PI X tg e (iSeq X.kw te) := by
  refine ⟨fun pins s σ H R I h => ?_⟩
  refine thn (he.run pins s σ H _ I h) fun v s1 ⟨x, H1, I1, r1, q1⟩ => ?_
  rcases q1 with ⟨a, e, ⟨xs, hq⟩, q⟩ | ⟨a, e, ⟨xs, hq⟩, q⟩ | ⟨z, e, q⟩
  · subst e
    cases r1
    obtain ⟨its, rv, p, hz⟩ := I1.list hq
    refine wpAny_pyIter_list p.isList ?_
    refine ⟨s1.heap.objs.size, [s1.heap.objs.size], _, _, H1, rfl, I1.kept (t' := s1.toks) fun b o e => Heap.get?_push_of_some _ e, turn_list a _, ⟨_, Heap.get?_push_size _ rfl, rfl, rfl⟩, fun b hb => ?_, q⟩
    have e : b = s1.heap.objs.size := by simpa using hb
    subst e
    exact I1.fpOk (Nat.le_refl _) (I1.hok.fresh (Nat.le_refl _))
  · subst e
    cases r1
    obtain ⟨its, rv, p, hz⟩ := I1.tuple hq
    refine wpAny_pyIter_tuple (show s1.heap.IsTuple a its.toArray from p) ?_
    refine ⟨s1.heap.objs.size, [s1.heap.objs.size], _, _, H1, rfl, I1.kept (t' := s1.toks) fun b o e => Heap.get?_push_of_some _ e, turn_tuple a _, ⟨_, Heap.get?_push_size _ rfl, rfl, rfl⟩, fun b hb => ?_, q⟩
    have e : b = s1.heap.objs.size := by simpa using hb
    subst e
    exact I1.fpOk (Nat.le_refl _) (I1.hok.fresh (Nat.le_refl _))
  · subst e
    obtain ⟨t, rfl⟩ := r1
    cases ha : z.cps.all (· < 128)
    · exact wpAny_pyIter_wide ha (pi_one (tk := s1.toks) I1 _ (turn_str _ z t "str_iterator" (.inr rfl)) ⟨_, Heap.get?_push_size _ rfl, rfl, rfl⟩ q)
    · exact wpAny_pyIter_ascii ha (pi_one (tk := s1.toks) I1 _ (turn_str _ z t "str_ascii_iterator" (.inl rfl)) ⟨_, Heap.get?_push_size _ rfl, rfl, rfl⟩ q)
/-- the items of what is gone through -/
def itemsD : D → Option (List D)
  | .lst ds => some ds
  | .scr ds => some ds
  | .tup ds => some ds
  | .str z => some (z.cps.toList.map fun c => D.str ⟨#[c]⟩)
  | _ => none
@[simp] def qIter (t : TD) : TDI := fun env Q => t env fun d env1 => match d with
  | .lst ds => Q ds env1
  | .scr ds => Q ds env1
  | .tup ds => Q ds env1
  | .str z => Q (z.cps.toList.map fun c => D.str ⟨#[c]⟩) env1
  | _ => False
theorem iter_list {K : KW} {a : Addr} {vs : List V} {ds : List D} {F0 : Hp} (hs : SqL K F0 a vs) (ra : RpA K F0 vs ds) : IterOk K (Itl K a) ds F0 := fun F H i s0 sH => by
  have hq := sH.seq (s0.seq hs)
  refine ⟨fun e => ⟨vs, hq, by rw [ra.length, e]; exact Nat.le_refl _⟩, fun d e => ?_⟩
  obtain ⟨v, hv, rv⟩ := ra.get e
  refine ⟨⟨vs, v, hq, hv⟩, ?_⟩
  rintro x H' ⟨rfl, y⟩
  have := y vs hq
  rw [hv] at this; cases this
  exact ⟨F, .nil, rv.mono s0⟩
theorem iter_tup {K : KW} {a : Addr} {vs : List V} {ds : List D} {F0 : Hp} (hs : SqT K F0 a vs) (ra : RpA K F0 vs ds) : IterOk K (Itt K a) ds F0 := fun F H i s0 sH => by
  have hq := same_sqT sH (same_sqT s0 hs)
  refine ⟨fun e => ⟨vs, hq, by rw [ra.length, e]; exact Nat.le_refl _⟩, fun d e => ?_⟩
  obtain ⟨v, hv, rv⟩ := ra.get e
  refine ⟨⟨vs, v, hq, hv⟩, ?_⟩
  rintro x H' ⟨rfl, y⟩
  have := y vs hq
  rw [hv] at this; cases this
  exact ⟨F, .nil, rv.mono s0⟩
theorem iter_str {K : KW} {z : Str} {F0 : Hp} : IterOk K (Its z) (z.cps.toList.map fun c => D.str ⟨#[c]⟩) F0 := fun F H i s0 sH => by
  refine ⟨fun e => by rw [List.length_map, Array.length_toList] at e; exact Nat.le_of_eq e.symm, fun d e => ?_⟩
  rw [List.getElem?_map] at e
  cases w : z.cps.toList[i]? with
  | none => rw [w] at e; cases e
  | some c =>
    rw [w] at e; cases e
    have hi : i < z.cps.size := by
      have := (List.getElem?_eq_some_iff.mp w).1
      rw [Array.length_toList] at this; exact this
    refine ⟨hi, ?_⟩
    rintro x H' ⟨rfl, c', hc, rfl⟩
    rw [Array.getElem?_toList] at w
    rw [hc] at w; cases w
    exact ⟨F, .nil, .str _⟩
theorem di_any (hl : DE X B e te) : DI X B tg e (qIter te) := by
  obtain ⟨ts, p, h⟩ := hl.ex
  refine ⟨_, pi_seq p, fun F H σ env Q R' R ht k => ?_⟩
  refine h F H σ env _ _ R ht fun d env1 v F1 H1 q1 s1 R1 r1 => ?_
  cases r1 with
  | lst hs ra => exact .inl ⟨_, rfl, ⟨_, .of (R1.sub _ _ hs)⟩, k _ env1 _ F1 H1 q1 s1 R1 (iter_list (.of hs) ra)⟩
  | scr hs ra => exact .inl ⟨_, rfl, ⟨_, R1.sub.seq hs⟩, k _ env1 _ F1 H1 q1 s1 R1 (iter_list hs ra)⟩
  | tup hs ra => exact .inr (.inl ⟨_, rfl, ⟨_, same_sqT R1.sub hs⟩, k _ env1 _ F1 H1 q1 s1 R1 (iter_tup hs ra)⟩)
  | str z => exact .inr (.inr ⟨_, rfl, k _ env1 _ F1 H1 q1 s1 R1 iter_str⟩)
  | _ => exact q1.elim
/-! ### a module's constants, built-in classes as values -/
structure GlobD (K : PySem.W.Frag) (mg : Str → Option Value) (x : Str) (d : D) : Prop where
  ex : ∃ u v, mg x = some u ∧ RelV v u ∧ ∀ (P : Program) (w : World) (m : Str → Option Value) F, Rp ⟨K, P, w, m⟩ F v d
theorem de_const {x : Str} {d : D} (hg : Gl X x) (h : GlobD X.K X.mg x d) (hd : (x == ("__debug__" : Str)) = false := by decide) : DE X B (.Name x pos) (qC d) := by
  obtain ⟨u, v, h1, h2, h3⟩ := h.ex
  exact de_glob hg h1 h2 (h3 _ _ _) hd
theorem de_bty {x : Str} {T : String} (hg : Gl X x) (hm : X.mg x = none) (hv : bootBuiltins x = some (.type T)) (hn : x ≠ "__name__" := by decide) (hd : (x == ("__debug__" : Str)) = false := by decide) : DE X B (.Name x pos) (qC (.atm (.ty T))) :=
  de_tC (pe_bltn (v := .ty T) hg hm hv rfl hn hd) fun _ => .atm _
@[simp] def negD : S1 := fun d Q => match d with
  | .int i => Q (.int (-i))
  | _ => False
theorem u_neg : DUn X (unaryOp .USub) negD := by
  refine ⟨_, un_neg, fun F H x d Q Q' s r h k => ?_⟩
  cases r <;> first | exact h.elim | exact ⟨_, rfl, k _ _ F H h .nil (.int _)⟩
/-! ### x += e -/
@[simp] def sAug (i : Nat) (s : S2) (te : TD) : TDS := fun DD env => match env[i]? with
  | some (.val x) => te env fun d env1 => s x d fun r => setC i (.val r) env1 DD.nx
  | _ => False
def DIp (X : Cx) (op : Operator) (s : S2) : Prop :=
  ∃ r, PIp X op r ∧ ∀ (F H : Hp) (x y : V) (d e : D) (Q : D → Prop) (Q' : VK), Same F H → Rp X.kw F x d → Rp X.kw F y e → s d e Q →
    (∀ d' v F' H', Q d' → Stp F H F' H' → Rp X.kw F' v d' → Q' v H') → r x y H Q'
theorem ip_iadd : DIp X .Add (i2 fun i j Q => Q (.int (i + j))) := by
  refine ⟨_, ip_add, fun F H x y d e Q Q' s rx ry h k => ?_⟩
  cases rx <;> cases ry <;> first | exact h.elim | exact ⟨_, _, rfl, rfl, k _ _ F H h .nil (.int _)⟩
theorem ip_isub : DIp X .Sub (i2 fun i j Q => Q (.int (i - j))) := by
  refine ⟨_, ip_sub, fun F H x y d e Q Q' s rx ry h k => ?_⟩
  cases rx <;> cases ry <;> first | exact h.elim | exact ⟨_, _, rfl, rfl, k _ _ F H h .nil (.int _)⟩
theorem ds_aug {i : Nat} {x : Str} {op : Operator} {s : S2} {pos' : Pos} (hN : X.N.Nodup) (he : DE X B e te) (ho : DIp X op s) (hi : X.N[i]? = some x := by rfl) (hx : Loc X.env.scope x := by first | exact Or.inl rfl | exact Or.inr rfl) (hf : X.fn x = true ∨ X.env.scope.names.lookup x = some .local := by first | exact .inl rfl | exact .inr rfl | assumption) :
    DS X B (.AugAssign (.Name x pos') op e pos) (sAug i s te) := by
  obtain ⟨r, hr, h⟩ := ho
  obtain ⟨ts, p, h1⟩ := he.ex
  refine ⟨_, ps_aug (i := i) hN hi hx p hr hf, fun F H σ env DD DH R ht l => ?_⟩
  unfold sAug at ht
  split at ht
  · rename_i d ed
    obtain ⟨v, ev, rv⟩ := R.cells i _ ed
    refine ⟨v, ev, h1 F H σ env _ _ R ht fun d2 env1 w F1 H1 q s1 R1 r1 => ?_⟩
    refine h F1 H1 v w d d2 _ _ R1.sub (rv.mono s1) r1 q fun d' z F2 H2 q2 st2 r2 => ?_
    exact l.nx _ _ F2 H2 (setC_of q2) (s1.trans (st2.same R1.sub)) ((R1.stp st2).set r2 i)
  · exact ht.elim
/-! ### a, b, c = one's own list -/
@[simp] def sUnpO (i n : Nat) (g : TDGs) : TDS := fun DD env => ownL env i fun _ xs => xs.length = n ∧ g xs env DD.nx
theorem ds_unpO {i k : Nat} {x : Str} {p : Pos} {n : Nat} {vs : List Nat} {g : TDGs} (hc : X.calm = true) (ha : PE X (.Name x p) (tVar i)) (hg : DGs X B es vs g) (hn : (assignEach es X.env).length = n := by rfl) (hst : (assignEach es X.env).findIdx? (·.1) = none := by rfl) {tpos : Pos}
    (hs : swapsWithSole [.Tuple es k tpos] (.Name x p) pos.line X.env = pure false := by rfl) (hw : swappedStores [.Tuple es k tpos] (.Name x p) X.env = pure none := by rfl)
    (h1 : (assignEach [.Tuple es k tpos] X.env).map (·.2) = [assign (.Tuple es k tpos) X.env] := by rfl) : DS X B (.Assign [.Tuple es k tpos] (.Name x p) pos) (sUnpO i n g) := by
  obtain ⟨gs, p2, h2⟩ := hg.ex
  refine ⟨_, ps_asg ha (pg_lst hc p2 hn hst) hs hw h1, fun F H σ env DD DH R ht l => ?_⟩
  obtain ⟨fr, xs, e0, hn, ht⟩ := ownL_of ht
  obtain ⟨a, vs, s, h1, ra⟩ := own_read R e0
  refine ⟨_, s, a, vs, rfl, .of h1, ra.length.trans hn, ?_⟩
  exact h2 F H σ env xs vs _ _ R ra ht fun env2 σ2 q2 _ R2 => l.nx env2 σ2 F H q2 (Same.refl _) R2
end
/-- the law's call: the script -/
theorem law_start {K : KW} {H : Hp} {a : Addr} {ns : List Int} {spec : FSpec} {E : XK} (hS : SqL K H a (ns.map V.int)) (h : spec [.val (.scr (ns.map D.int))] fun d _ => d = .bl true) : spD K 1 spec [.ref a] H (fun v _ => v = .bl true) E := by
  refine ⟨H, fun _ => False, fun _ _ => False, [.val (.scr (ns.map D.int))], rfl, ⟨rfl, Same.refl _, fun b o e _ => e, Same.refl _, fun b e n => absurd e n, fun _ h => h.elim, fun _ h => h.elim, fun _ h => h.elim, fun b o e => (by cases e), fun _ _ => rfl, fun b o e => (by cases e), fun i c e => ?_, ?_⟩, _, h, fun d cs' v F' H' q _ _ r => ?_⟩
  · cases i with
    | zero => cases e; exact ⟨_, rfl, .scr hS (RpA.ints ns)⟩
    | succ i => cases e
  · intro i j b c c' e1 _ w1 _
    cases i with
    | zero => cases e1; rw [foot_val] at w1; cases w1
    | succ i => cases e1
  · subst q; cases r; rfl
theorem outs_nil {env : DEnv} : Outs env [] := by cases env <;> trivial
theorem cdv_small {i j : Int} (h0 : 0 < j) (h1 : j < 1073741824) : CDv i j := .inl ⟨h0, h1⟩
theorem cml_l {i j : Int} (h0 : -18446744073709551616 < i) (h1 : i < 18446744073709551616) : CMl i j := .inl (.inl ⟨h0, h1⟩)
theorem cml_r {i j : Int} (h0 : -18446744073709551616 < j) (h1 : j < 18446744073709551616) : CMl i j := .inl (.inr ⟨h0, h1⟩)
theorem atI_mod {α : Type} {xs : List α} {i : Int} (h : 0 < (xs.length : Int)) : ∃ x, atI xs (i % (xs.length : Int)) = some x ∧ x ∈ xs := by
  have h1 : 0 ≤ i % (xs.length : Int) := Int.emod_nonneg _ (by omega)
  have h2 : i % (xs.length : Int) < xs.length := Int.emod_lt_of_pos _ h
  have h3 : (i % (xs.length : Int)).toNat < xs.length := by omega
  refine ⟨xs[(i % (xs.length : Int)).toNat], ?_, List.getElem_mem _⟩
  have := atI_nat (xs := xs) (List.getElem?_eq_getElem h3)
  rwa [Int.toNat_of_nonneg h1] at this
abbrev onL_sum : SN := onLst fun ds Q => ∃ ns : List Int, ds = ns.map D.int ∧ Q (.int ns.sum)
abbrev onL_max : SN := onLst fun ds Q => ∃ ns : List Int, ds = ns.map D.int ∧ 0 < ns.length ∧ ∀ m, m ∈ ns → (∀ y, y ∈ ns → y ≤ m) → Q (.int m)
abbrev onL_min : SN := onLst fun ds Q => ∃ ns : List Int, ds = ns.map D.int ∧ 0 < ns.length ∧ ∀ m, m ∈ ns → (∀ y, y ∈ ns → m ≤ y) → Q (.int m)
abbrev onL_all : SN := onLst fun ds Q => ∃ bs : List Bool, ds = bs.map D.bl ∧ Q (.bl (bs.all id))
abbrev onL_any : SN := onLst fun ds Q => ∃ bs : List Bool, ds = bs.map D.bl ∧ Q (.bl (bs.any id))
abbrev onL_sorted : SN := onLst fun ds Q => ∃ ns : List Int, ds = ns.map D.int ∧ ns.length < 64 ∧ ∀ ns' : List Int, ns'.Perm ns → ns'.Pairwise (· ≤ ·) → Q (.lst (ns'.map D.int))
/-- what a law's feed holds: its numbers, a place, what is left -/
def PenOk : OC → Prop := fun c => ∃ (xs : List Int) (i j : Int), c = .lst [.lst (xs.map D.int), .int i, .int j]
end L2.DL

namespace L2.DL
open PySem PySem.Spec PyProof.Rows

/-! ### int('1' + '0' * n) -/
theorem fold_app {α : Type} (l : List (Array α)) : ∀ (a : Array α), (l.foldl (· ++ ·) a).toList = a.toList ++ (l.map Array.toList).flatten := by
  induction l with
  | nil => intro a; simp
  | cons x r ih => intro a; rw [List.foldl_cons, ih]; simp
theorem repS_one (c n : Nat) : repS (SX.S [c]) n = SX.S (List.replicate n c) := by
  have h : ((List.replicate n (SX.S [c]).cps).foldl (· ++ ·) #[]).toList = List.replicate n c := by
    rw [fold_app, List.map_replicate]
    show [] ++ (List.replicate n [c]).flatten = _
    rw [List.nil_append]
    induction n with
    | zero => rfl
    | succ n ih => rw [List.replicate_succ, List.flatten_cons, ih]; rfl
  show (⟨(List.replicate n (SX.S [c]).cps).foldl (· ++ ·) #[]⟩ : Str) = ⟨(List.replicate n c).toArray⟩
  congr 1
  exact Array.ext' (by rw [h])
theorem digits_zero (n : Nat) : ∀ a : Nat, (List.replicate n 48).foldl (fun acc c => acc * 10 + (c - 48)) a = a * 10 ^ n := by
  induction n with
  | zero => intro a; simp
  | succ n ih => intro a; rw [List.replicate_succ, List.foldl_cons, ih, Nat.pow_succ]; simp [Nat.mul_assoc, Nat.mul_comm]
theorem ten_S (n : Nat) : (SX.S [49] ++ repS (SX.S [48]) n : Str) = SX.S (49 :: List.replicate n 48) := by rw [repS_one, SX.S_cat]; rfl
theorem ten_text (n : Nat) (h : n ≤ 639) : PySem.intText? (SX.S [49] ++ repS (SX.S [48]) n) = some ((10 : Int) ^ n) ∧ (SX.S [49] ++ repS (SX.S [48]) n : Str).length ≤ 640 := by
  rw [ten_S]
  constructor
  · rw [SX.int_S]
    · show some (((List.replicate n 48).foldl (fun acc c => acc * 10 + (c - 48)) (0 * 10 + (49 - 48)) : Nat) : Int) = _
      rw [digits_zero]
      simp
    · simp [List.all_replicate]
    · simp
    · simp; omega
  · rw [SX.S_len]; simp; omega
/-- the walk of the text of a power of ten, as the transformers spell it -/
theorem ten_run (m : Int) (h0 : 1 < m) (h1 : m ≤ 639) (Q : D → Prop) (hq : Q (.int (10 ^ m.toNat))) :
    mulD (.str (Str.ofString "0")) (.int m) fun d => addD (.str (Str.ofString "1")) d fun d2 => intD d2 Q := by
  refine ⟨⟨by omega, by omega, by decide, by decide⟩, ?_⟩
  obtain ⟨a, b⟩ := ten_text m.toNat (by omega)
  refine ⟨?_, _, a, b, hq⟩
  have e : (Str.ofString "0") = SX.S [48] := rfl
  rw [e, repS_one]
  show (Str.ofString "1").length + (SX.S (List.replicate m.toNat 48)).length ≤ sizeLine
  rw [SX.S_len (List.replicate m.toNat 48), List.length_replicate]
  have h2 : (Str.ofString "1").length = 1 := rfl
  rw [h2]
  have h3 : sizeLine ≥ 1000 := by decide
  omega
theorem atI_all {α : Type} {l : List α} (p : α → Bool) {r : Int} (h : l.all p = true) (h0 : 0 ≤ r) (h1 : r < (l.length : Int)) : ∃ x, atI l r = some x ∧ p x = true := by
  have h3 : r.toNat < l.length := by omega
  refine ⟨l[r.toNat], ?_, List.all_eq_true.mp h _ (List.getElem_mem _)⟩
  have := atI_nat (xs := l) (List.getElem?_eq_getElem h3)
  rwa [Int.toNat_of_nonneg h0] at this
def intB (p : Int → Bool) : D → Bool
  | .int i => p i
  | _ => false
theorem intB_of {p : Int → Bool} {d : D} (h : intB p d = true) : ∃ i, d = .int i ∧ p i = true := by
  cases d <;> first | exact ⟨_, rfl, h⟩ | cases h
theorem cut_ints (ns : List Int) (lo hi : Option Int) : ∃ xs : List Int, cutD (ns.map D.int) lo hi = xs.map D.int :=
  ⟨cutD ns lo hi, by unfold cutD; rw [List.length_map, ← List.map_drop, ← List.map_take]⟩
theorem pen_start (ns : List Int) (lo hi : Option Int) (i j : Int) : PenOk (OC.lst [D.lst (cutD (ns.map D.int) lo hi), D.int i, D.int j]) := by
  obtain ⟨xs, e⟩ := cut_ints ns lo hi
  exact ⟨xs, i, j, by rw [e]⟩
/-! ### == of data without truths is to be the same -/
mutual
def D.cl : D → Bool
  | .non => true
  | .int _ => true
  | .str _ => true
  | .tup xs => D.cls xs
  | .lst xs => D.cls xs
  | .bl _ => false
  | .scr _ => false
  | .atm _ => false
  | .dct _ => false
  | .dcn _ => false
  | .ins _ _ => false
def D.cls : List D → Bool
  | [] => true
  | d :: r => d.cl && D.cls r
end
mutual
theorem eqv_iff : ∀ (d e : D), d.cl = true → e.cl = true → (PyData.eqv d.py e.py = true ↔ d = e)
  | .non, e, _, h => by cases e <;> first | (simp [D.py, PyData.eqv]; done) | cases h
  | .int i, e, _, h => by cases e <;> first | (simp [D.py, PyData.eqv]; done) | cases h
  | .str i, e, _, h => by cases e <;> first | (simp [D.py, PyData.eqv]; done) | cases h
  | .tup xs, e, k, h => by
    cases e with
    | tup ys => rw [D.cl] at k h; simp only [D.py, PyData.eqv, D.tup.injEq]; exact eqvs_iff xs ys k h
    | _ => first | (simp [D.py, PyData.eqv]; done) | cases h
  | .lst xs, e, k, h => by
    cases e with
    | lst ys => rw [D.cl] at k h; simp only [D.py, PyData.eqv, D.lst.injEq]; exact eqvs_iff xs ys k h
    | _ => first | (simp [D.py, PyData.eqv]; done) | cases h
  | .bl _, _, h, _ => by cases h
  | .scr _, _, h, _ => by cases h
  | .atm _, _, h, _ => by cases h
  | .dct _, _, h, _ => by cases h
theorem eqvs_iff : ∀ (d e : List D), D.cls d = true → D.cls e = true → (PyData.eqvAll (D.pys d) (D.pys e) = true ↔ d = e)
  | [], [], _, _ => by simp [D.pys, PyData.eqvAll]
  | [], _ :: _, _, _ => by simp [D.pys, PyData.eqvAll]
  | _ :: _, [], _, _ => by simp [D.pys, PyData.eqvAll]
  | d :: r, e :: q, h, k => by
    rw [D.cls, Bool.and_eq_true] at h k
    rw [D.pys, D.pys, PyData.eqvAll, Bool.and_eq_true, eqv_iff d e h.1 k.1, eqvs_iff r q h.2 k.2, List.cons.injEq]
end
end L2.DL

namespace L2.DL
open PySem PySem.Spec PyProof.Rows

/-! ### how many bits a number may have -/
def Sz (n : Nat) (v : Int) : Prop := v.natAbs < 2 ^ n
theorem Sz.mono {n m : Nat} {v : Int} (h : Sz n v) (l : n ≤ m) : Sz m v := Nat.lt_of_lt_of_le h (Nat.pow_le_pow_right (by decide) l)
theorem Sz.add {n m : Nat} {v w : Int} (h : Sz n v) (k : Sz m w) : Sz (max n m + 1) (v + w) := by
  have h := h.mono (Nat.le_max_left n m)
  have k := k.mono (Nat.le_max_right n m)
  unfold Sz at *
  rw [Nat.pow_succ]
  omega
theorem Sz.neg {n : Nat} {v : Int} (h : Sz n v) : Sz n (-v) := by unfold Sz at *; rw [Int.natAbs_neg]; exact h
theorem Sz.sub {n m : Nat} {v w : Int} (h : Sz n v) (k : Sz m w) : Sz (max n m + 1) (v - w) := by rw [Int.sub_eq_add_neg]; exact h.add k.neg
theorem Sz.mul {n m : Nat} {v w : Int} (h : Sz n v) (k : Sz m w) : Sz (n + m) (v * w) := by
  unfold Sz at *
  rw [Int.natAbs_mul, Nat.pow_add]
  exact Nat.mul_lt_mul_of_lt_of_le h (Nat.le_of_lt k) (Nat.two_pow_pos m)
theorem Sz.abs {n : Nat} {v : Int} (h : Sz n v) : Sz n (if v < 0 then -v else v) := by
  split
  · exact h.neg
  · exact h
theorem Sz.small {v : Int} (h0 : -18446744073709551616 < v) (h1 : v < 18446744073709551616) : Sz 64 v := by
  unfold Sz
  have : (2 : Nat) ^ 64 = 18446744073709551616 := by decide
  omega
theorem Sz.ten (n : Nat) : Sz (4 * n + 1) ((10 : Int) ^ n) := by
  unfold Sz
  rw [Int.natAbs_pow]
  show 10 ^ n < 2 ^ (4 * n + 1)
  have h : 10 ^ n ≤ 16 ^ n := Nat.pow_le_pow_left (by decide) n
  have e : 2 ^ (4 * n) = 16 ^ n := by rw [Nat.pow_mul]
  rw [Nat.pow_succ, e]
  have : 0 < 16 ^ n := Nat.pos_of_ne_zero (by simp)
  omega
theorem Sz.max {n : Nat} {v w : Int} (h : Sz n v) (k : Sz n w) : Sz n (Max.max v w) := by
  rcases Int.le_total v w with q | q
  · rw [Int.max_eq_right q]; exact k
  · rw [Int.max_eq_left q]; exact h
theorem cml_sz {a b : Nat} {i j : Int} (ha : Sz a i) (hb : Sz b j) (h : a + b ≤ 1000000 := by decide) (h0 : 0 < a := by decide) (h1 : 0 < b := by decide) : CMl i j := .inr (wide_mul ha hb h0 h1 h)
theorem bit {r : Int} (h0 : 0 ≤ r) (h1 : r < 2) : r = 0 ∨ r = 1 := by omega
/-! ### == of data that we know only by name: kept whole -/
@[irreducible] def eqX : S2 := eqD
@[irreducible] def neX : S2 := neD
section
variable {X : Cx}
theorem o_eqX (hu : X.A.units + 64 < cLine) : DOp X (compareOp .Eq) eqX := by unfold eqX; exact o_eq hu
theorem o_neX (hu : X.A.units + 64 < cLine) : DOp X (compareOp .NotEq) neX := by unfold neX; exact o_ne hu
end
theorem eqX_of {d e : D} {Q : D → Prop} (h : eqD d e Q) : eqX d e Q := by unfold eqX; exact h
theorem neX_of {d e : D} {Q : D → Prop} (h : neD d e Q) : neX d e Q := by unfold neX; exact h
end L2.DL

namespace L2.DL
open PySem PySem.Spec PyProof.Rows

/-! ### sorted(..) of pairs of ints, by both numbers -/
inductive PrP (G : V → Int × Int → Prop) : List V → List (Int × Int) → Prop
  | nil : PrP G [] []
  | cons {x : V} {p : Int × Int} {xs : List V} {ps : List (Int × Int)} : G x p → PrP G xs ps → PrP G (x :: xs) (p :: ps)
def pairD (p : Int × Int) : D := .tup [.int p.1, .int p.2]
def rSortPairs (K : KW) : List V → Hp → VK → Prop := fun vs H Q => ∃ (a : Addr) (xs : List V) (ps : List (Int × Int)) (G : V → Int × Int → Prop), vs = [V.ref a] ∧ SqL K H a xs ∧ PrP G xs ps ∧ (∀ x p, G x p → ∃ t, x = V.ref t ∧ SqT K H t [.int p.1, .int p.2]) ∧
  ∀ zs qs p, PrP G zs qs → qs.Perm ps → qs.Pairwise (fun x y => SrtO.lexB y x = false) → H p = none → Q (.ref p) (upd H p (.lst zs))
theorem ispair_uniq {h : Heap} {v : Value} {x y x' y' : Int} (p : Srt.IsPair h v x y) (q : Srt.IsPair h v x' y') : x = x' ∧ y = y' := by
  obtain ⟨a, o, t, u, n, e, ho, hc, hd⟩ := p
  obtain ⟨a', o', t', u', n', e', ho', hc', hd'⟩ := q
  subst e; cases e'
  rw [ho] at ho'; cases ho'
  rw [hd] at hd'
  simp at hd'
  exact ⟨hd'.1.1.1, hd'.1.2.1⟩
open Classical in
noncomputable def prK (h : Heap) (v : Value) : Int × Int := if e : ∃ p : Int × Int, Srt.IsPair h v p.1 p.2 then e.choose else (0, 0)
theorem prK_eq {h : Heap} {v : Value} {x : Int × Int} (p : Srt.IsPair h v x.1 x.2) : prK h v = x := by
  have e : ∃ p : Int × Int, Srt.IsPair h v p.1 p.2 := ⟨x, p⟩
  have e2 : prK h v = e.choose := by unfold prK; rw [dif_pos e]
  rw [e2]
  obtain ⟨a, b⟩ := ispair_uniq e.choose_spec p
  exact Prod.ext a b
section
variable {X : Cx}
theorem pr_its {pins : List (Addr × Obj)} {s : Shared} {σ : St} {H : Hp} {G : V → Int × Int → Prop} (I : Inv X pins σ H s) (hG : ∀ x p, G x p → ∃ t, x = V.ref t ∧ SqT X.kw H t [.int p.1, .int p.2]) : ∀ {xs : List V} {ps : List (Int × Int)} {its : List Value}, PrP G xs ps → Vals xs its →
    (∀ v ∈ its, Srt.IsPair s.heap v (prK s.heap v).1 (prK s.heap v).2) ∧ its.map (prK s.heap) = ps ∧ ∀ v ∈ its, ∃ t, v = Value.ref t ∧ G (.ref t) (prK s.heap v)
  | _, _, _, .nil, .nil => ⟨fun _ m => absurd m (by simp), rfl, fun _ m => absurd m (by simp)⟩
  | _, _, _, .cons (x := x) (p := p) g r, .cons rv rr => by
    obtain ⟨h1, h2, h3⟩ := pr_its I hG r rr
    obtain ⟨t, rfl, h⟩ := hG _ _ g
    cases rv
    obtain ⟨its2, r2, ⟨o, ho, hc, n, hd⟩, _⟩ := I.tuple h
    obtain ⟨u1, u2, rfl, ri, rj⟩ := vals2 r2
    obtain ⟨t1, rfl⟩ := ri
    obtain ⟨t2, rfl⟩ := rj
    have ip : Srt.IsPair s.heap (.ref t) p.1 p.2 := ⟨t, o, t1, t2, n, rfl, ho, hc, hd⟩
    have ek := prK_eq ip
    refine ⟨fun v m => ?_, by rw [List.map_cons, ek, h2], fun v m => ?_⟩
    · rcases List.mem_cons.mp m with e | m
      · rw [e, ek]; exact ip
      · exact h1 v m
    · rcases List.mem_cons.mp m with e | m
      · rw [e, ek]; exact ⟨t, rfl, g⟩
      · exact h3 v m
theorem pr_of {G : V → Int × Int → Prop} {f : Value → Int × Int} : ∀ {out : List Value}, (∀ v ∈ out, ∃ t, v = Value.ref t ∧ G (.ref t) (f v)) → PrP G (out.map backV) (out.map f)
  | [], _ => .nil
  | v :: r, h => by
    obtain ⟨t, e, q⟩ := h v List.mem_cons_self
    have ih := pr_of fun u m => h u (List.mem_cons_of_mem _ m)
    subst e
    exact .cons q ih
theorem cr_sortPairs : CallR X (.builtin "sorted") (rSortPairs X.kw) := by
  intro pins s σ H vs us Q I r h
  obtain ⟨a, xs, ps, G, rfl, hs, hx, hG, q⟩ := h
  obtain ⟨its, rv, hl, hz⟩ := I.list hs
  obtain ⟨u, rfl, ru⟩ := vals1 r
  obtain rfl : u = Value.ref a := ru
  obtain ⟨h1, h2, h3⟩ := pr_its I hG hx rv
  refine SrtO.sorted_pairsO (k := prK s.heap) hl.isList (by rw [← rv.length]; exact hz) h1 fun h' d out hp hst kk hd hn => ?_
  have h4 : ∀ v ∈ out, ∃ t, v = Value.ref t ∧ G (.ref t) (prK s.heap v) := fun v m => h3 v (hst.perm.mem_iff.mp m)
  have h5 : ∀ u ∈ out, ∃ a, u = Value.ref a := fun u m => by
    obtain ⟨t, e, _⟩ := h4 u m
    exact ⟨t, e⟩
  obtain ⟨n, hn⟩ := hn
  refine ⟨.ref d, upd H d (.lst (out.map backV)), I.laid (t' := s.toks) kk hd ⟨?_, out, n, vals_back h5, hn⟩, rfl, q _ (out.map (prK s.heap)) d (pr_of h4) ?_ ?_ (I.hok.fresh hd)⟩
  · rw [List.length_map, hst.perm.length_eq, ← rv.length]; exact hz
  · rw [← h2]; exact hst.perm.map _
  · exact List.pairwise_map.mpr hp
end
theorem RpA.pairs {K : KW} {F : Hp} : ∀ {ps : List (Int × Int)} {vs : List V}, RpA K F vs (ps.map pairD) → PrP (fun x p => Rp K F x (pairD p)) vs ps
  | [], _, .nil => .nil
  | p :: r, _, .cons h t => .cons h (RpA.pairs t)
theorem PrP.rpa {K : KW} {F F' : Hp} (s : Same F F') : ∀ {vs : List V} {ps : List (Int × Int)}, PrP (fun x p => Rp K F x (pairD p)) vs ps → RpA K F' vs (ps.map pairD)
  | _, _, .nil => .nil
  | _, _, .cons h t => .cons (Rp.mono s h) (t.rpa s)
abbrev onL_sortedP : SN := onLst fun ds Q => (∃ ns : List Int, ds = ns.map D.int ∧ ns.length < 64 ∧ ∀ ns' : List Int, ns'.Perm ns → ns'.Pairwise (· ≤ ·) → Q (.lst (ns'.map D.int))) ∨
  ∃ ps : List (Int × Int), ds = ps.map pairD ∧ ∀ qs : List (Int × Int), qs.Perm ps → qs.Pairwise (fun x y => SrtO.lexB y x = false) → Q (.lst (qs.map pairD))
theorem c_sortedP {X : Cx} : DCl X (.builtin "sorted") onL_sortedP :=
  lst_run (cr_sorted.or cr_sortPairs) fun F H a vs ds Q Q' s hs ra h k => by
    rcases h with ⟨ns, e, h1, h⟩ | ⟨ps, e, h⟩
    · subst e
      rw [ra.of_ints] at hs
      exact .inl ⟨a, ns, rfl, hs, h1, fun ns' p e1 e2 hp => k _ _ _ _ (h ns' e1 e2) (.new hp) (.lst upd_same (RpA.ints ns'))⟩
    · subst e
      refine .inr ⟨a, vs, ps, fun x p => Rp X.kw F x (pairD p), rfl, hs, ra.pairs, fun x p r => ?_, fun zs qs p hz e1 e2 hp => k _ _ _ _ (h qs e1 e2) (.new hp) (.lst upd_same (hz.rpa (same_upd (s.free hp))))⟩
      cases r with
      | tup h1 ra => rw [ra.int2] at h1; exact ⟨_, rfl, same_sqT s h1⟩
end L2.DL

namespace L2.DL
open PySem PySem.Spec PyProof.Rows

/-! ### == and != of two things of the same data, dicts within too -/
section
variable {prog : Program} {w : World}
open PySem.SeqAt in
theorem tupEqIn (p q : Addr) (us ws : Array Value) (k m : Nat) (dp dq : Option Addr) (zp zq : Array (Option Value)) (hz : us.size = ws.size) :
    MeetsIn prog w (Builtin.«tuple.__eq__» ⟨[.ref p, .ref q], []⟩)
      (fun A R s => s.heap.get? p = some { cls := .type "tuple", dict := dp, data := .seq us k, slots := zp } ∧ s.heap.get? q = some { cls := .type "tuple", dict := dq, data := .seq ws m, slots := zq } ∧
        (∀ j (h1 : j < us.size) (h2 : j < ws.size), EqP prog w A.in1 s us[j] ws[j] true) ∧ R (.ok (.ret (.bool true))) s) := by
  intro A R s h
  obtain ⟨hp, g, d, tk, os⟩ := s
  obtain ⟨kl, kr, ke, kR⟩ := h
  have f2 := AutoSeq1.sub_tuple_tuple
  wp_walk using wpAny_loadPart' kl, wpAny_loadPart' kr, wpAny_forIn_list _ (fun rest b s' => b.1 = none ∧ s' = ⟨hp, g, d, tk, os⟩ ∧ ∃ i, rest = (us.toList.zip ws.toList).drop i) _
  case turn =>
    rintro ⟨y, x⟩ rest b s' ⟨e1, rfl, i, e2⟩
    have li : i < (us.toList.zip ws.toList).length := Nat.lt_of_not_le fun le => by
      rw [List.drop_of_length_le le] at e2; cases e2
    rw [List.drop_eq_getElem_cons li] at e2
    injection e2 with e3 e4
    have l1 : i < us.size := by simp at li; omega
    have l2 : i < ws.size := by omega
    obtain rfl : y = us[i] := by simpa using congrArg Prod.fst e3
    obtain rfl : x = ws[i] := by simpa using congrArg Prod.snd e3
    refine wpAny_bind (ke i l1 l2 _ _ ?_)
    wp_walk
    exact ⟨rfl, rfl, i + 1, e4⟩
  case fin =>
    rintro ⟨b1, b2⟩ s' ⟨e1, rfl, i, e2⟩
    obtain rfl : b1 = none := e1
    wp_walk
    simpa [Builtin.Tuple.tupleCompareSizes, hz] using kR
  case h => exact ⟨rfl, rfl, 0, rfl⟩
open PySem.SeqAt in
theorem tupNeIn (p q : Addr) (us ws : Array Value) (k m : Nat) (dp dq : Option Addr) (zp zq : Array (Option Value)) (hz : us.size = ws.size) :
    MeetsIn prog w (Builtin.«tuple.__ne__» ⟨[.ref p, .ref q], []⟩)
      (fun A R s => s.heap.get? p = some { cls := .type "tuple", dict := dp, data := .seq us k, slots := zp } ∧ s.heap.get? q = some { cls := .type "tuple", dict := dq, data := .seq ws m, slots := zq } ∧
        (∀ j (h1 : j < us.size) (h2 : j < ws.size), EqP prog w A.in1 s us[j] ws[j] true) ∧ R (.ok (.ret (.bool false))) s) := by
  intro A R s h
  obtain ⟨hp, g, d, tk, os⟩ := s
  obtain ⟨kl, kr, ke, kR⟩ := h
  have f2 := AutoSeq1.sub_tuple_tuple
  wp_walk using wpAny_loadPart' kl, wpAny_loadPart' kr, wpAny_forIn_list _ (fun rest b s' => b.1 = none ∧ s' = ⟨hp, g, d, tk, os⟩ ∧ ∃ i, rest = (us.toList.zip ws.toList).drop i) _
  case turn =>
    rintro ⟨y, x⟩ rest b s' ⟨e1, rfl, i, e2⟩
    have li : i < (us.toList.zip ws.toList).length := Nat.lt_of_not_le fun le => by
      rw [List.drop_of_length_le le] at e2; cases e2
    rw [List.drop_eq_getElem_cons li] at e2
    injection e2 with e3 e4
    have l1 : i < us.size := by simp at li; omega
    have l2 : i < ws.size := by omega
    obtain rfl : y = us[i] := by simpa using congrArg Prod.fst e3
    obtain rfl : x = ws[i] := by simpa using congrArg Prod.snd e3
    refine wpAny_bind (ke i l1 l2 _ _ ?_)
    wp_walk
    exact ⟨rfl, rfl, i + 1, e4⟩
  case fin =>
    rintro ⟨b1, b2⟩ s' ⟨e1, rfl, i, e2⟩
    obtain rfl : b1 = none := e1
    wp_walk
    simpa [Builtin.Tuple.tupleCompareSizes, hz, bne] using kR
  case h => exact ⟨rfl, rfl, 0, rfl⟩
theorem tupEqP {A : Around} {s : Shared} {p q : Addr} {us ws : Array Value} (kl : s.heap.IsTuple p us) (kr : s.heap.IsTuple q ws) (hz : us.size = ws.size) (hu : A.units < cLine)
    (ke : ∀ j (h1 : j < us.size) (h2 : j < ws.size), SeqAt.EqP prog w A.in1 s us[j] ws[j] true) (E Q : Value → Shared → Prop) (h : Q (.bool true) s) : wpAny (model prog w) A (richCompare .Eq (.ref p) (.ref q)) Q E s := by
  obtain ⟨⟨c1, d1, t1, z1⟩, o1, e1, n1, b1⟩ := id kl
  obtain ⟨⟨c2, d2, t2, z2⟩, o2, e2, n2, b2⟩ := id kr
  simp only at e1 b1 e2 b2
  subst e1 b1 e2 b2
  have ta : s.TypeIs (.ref p) "tuple" := ⟨_, o1, rfl⟩
  have tb : s.TypeIs (.ref q) "tuple" := ⟨_, o2, rfl⟩
  exact wpAny_richCompare_same_room (op := .Eq) ta tb PySem.F.slot_tuple_eq (call_meetsIn PySem.F.slot_tuple_eq ta PySem.F.entry_tuple_eq (PySem.F.args_tuple_eq_2 _ _) (tupEqIn p q us ws n1 n2 d1 d2 z1 z2 hz)
    ⟨o1, o2, ke, show Value.bool true ≠ Value.notImplemented ∧ Q (.bool true) s from ⟨(fun x => nomatch x), h⟩⟩) hu
theorem tupNeP {A : Around} {s : Shared} {p q : Addr} {us ws : Array Value} (kl : s.heap.IsTuple p us) (kr : s.heap.IsTuple q ws) (hz : us.size = ws.size) (hu : A.units < cLine)
    (ke : ∀ j (h1 : j < us.size) (h2 : j < ws.size), SeqAt.EqP prog w A.in1 s us[j] ws[j] true) (E Q : Value → Shared → Prop) (h : Q (.bool false) s) : wpAny (model prog w) A (richCompare .NotEq (.ref p) (.ref q)) Q E s := by
  obtain ⟨⟨c1, d1, t1, z1⟩, o1, e1, n1, b1⟩ := id kl
  obtain ⟨⟨c2, d2, t2, z2⟩, o2, e2, n2, b2⟩ := id kr
  simp only at e1 b1 e2 b2
  subst e1 b1 e2 b2
  have ta : s.TypeIs (.ref p) "tuple" := ⟨_, o1, rfl⟩
  have tb : s.TypeIs (.ref q) "tuple" := ⟨_, o2, rfl⟩
  exact wpAny_richCompare_same_room (op := .NotEq) ta tb PySem.F.slot_tuple_ne (call_meetsIn PySem.F.slot_tuple_ne ta PySem.F.entry_tuple_ne (PySem.F.args_tuple_ne_2 _ _) (tupNeIn p q us ws n1 n2 d1 d2 z1 z2 hz)
    ⟨o1, o2, ke, show Value.bool false ≠ Value.notImplemented ∧ Q (.bool false) s from ⟨(fun x => nomatch x), h⟩⟩) hu
end
/-! data of which two copies are ==: no classes, the keys of a dict all different; how deep -/
mutual
inductive Sm : Nat → D → Prop
  | non {n : Nat} : Sm n .non
  | bl {n : Nat} (b : Bool) : Sm n (.bl b)
  | int {n : Nat} (i : Int) : Sm n (.int i)
  | str {n : Nat} (x : Str) : Sm n (.str x)
  | tup {n : Nat} {ds : List D} : SmA n ds → Sm (n + 1) (.tup ds)
  | lst {n : Nat} {ds : List D} : SmA n ds → Sm (n + 1) (.lst ds)
  | scr {n : Nat} {ds : List D} : SmA n ds → Sm (n + 1) (.scr ds)
  | dct {n : Nat} {ds : List (Key × D)} : (ds.map (·.1)).Nodup → SmK n ds → Sm (n + 1) (.dct ds)
inductive SmA : Nat → List D → Prop
  | nil {n : Nat} : SmA n []
  | cons {n : Nat} {d : D} {ds : List D} : Sm n d → SmA n ds → SmA n (d :: ds)
inductive SmK : Nat → List (Key × D) → Prop
  | nil {n : Nat} : SmK n []
  | cons {n : Nat} {k : Key} {d : D} {ds : List (Key × D)} : Sm n d → SmK n ds → SmK n ((k, d) :: ds)
end
section
variable {X : Cx} {pins : List (Addr × Obj)} {σ : St} {F H : Hp} {s : Shared}
def TwoOf (K : KW) (F : Hp) (n : Nat) : V → V → Prop := fun x y => ∃ d, Sm n d ∧ Rp K F x d ∧ Rp K F y d
theorem two_list {K : KW} {n : Nat} : ∀ {ds : List D} {xs ys : List V}, SmA n ds → RpA K F xs ds → RpA K F ys ds → Paired (TwoOf K F n) xs ys
  | _, _, _, .nil, .nil, .nil => .nil
  | _, _, _, .cons h t, .cons a b, .cons c d => .cons ⟨_, h, a, c⟩ (two_list t b d)
theorem two_val {K : KW} {n : Nat} : ∀ {ds : List (Key × D)} {ks ls : List (Key × V)}, (ds.map (·.1)).Nodup → SmK n ds → RpK K F ks ds → RpK K F ls ds →
    ks.length = ls.length ∧ (∀ p ∈ ks, p.1 ∈ ds.map (·.1)) ∧ ∀ p ∈ ks, ∃ u, valV ls p.1 = some u ∧ TwoOf K F n p.2 u
  | [], _, _, _, .nil, .nil, .nil => ⟨rfl, fun _ m => absurd m (by simp), fun _ m => absurd m (by simp)⟩
  | (k, _) :: _, _, _, nd, .cons h t, .cons a b, .cons c d => by
    obtain ⟨nk, nd⟩ := List.nodup_cons.mp nd
    obtain ⟨i1, i2, i3⟩ := two_val nd t b d
    refine ⟨by rw [List.length_cons, List.length_cons, i1], fun p m => ?_, fun p m => ?_⟩
    · rcases List.mem_cons.mp m with e | m
      · rw [e]; exact List.mem_cons_self
      · exact List.mem_cons_of_mem _ (i2 p m)
    · rcases List.mem_cons.mp m with e | m
      · rw [e]
        exact ⟨_, by simp [valV], _, h, a, c⟩
      · obtain ⟨u, e, r⟩ := i3 p m
        have ne : ¬ k = p.1 := fun e => nk (e ▸ i2 p m)
        refine ⟨u, ?_, r⟩
        unfold valV at e ⊢
        rw [List.find?_cons_of_neg (by simpa using ne)]
        exact e
theorem two_seq (I : Inv X pins σ H s) (sF : Same F H) {n : Nat} {A : Around} (hu : A.units < cLine) (ih : ∀ x y v u, TwoOf X.kw F n x y → RelV x v → RelV y u → SeqAt.EqP X.prog X.w A.in1 s v u true) {x y : V} {v u : Value} (h : TwoOf X.kw F (n + 1) x y) (rx : RelV x v) (ry : RelV y u)
    (hx : ∃ a, x = .ref a) (E Q : Value → Shared → Prop) (q : Q (.bool true) s) : wpAny (model X.prog X.w) A (richCompare .Eq v u) Q E s := by
  obtain ⟨a, rfl⟩ := hx
  obtain ⟨d, hd, r1, r2⟩ := h
  have lists : ∀ {a b : Addr} {ds : List D} {xs ys : List V}, SmA n ds → SqL X.kw F a xs → RpA X.kw F xs ds → SqL X.kw F b ys → RpA X.kw F ys ds → RelV (.ref a) v → RelV (.ref b) u → wpAny (model X.prog X.w) A (richCompare .Eq v u) Q E s := fun hs h1 ra h2 rb rx ry =>
    eqR_run I hu ih (.inl ⟨_, _, _, _, rfl, rfl, sF.seq h1, sF.seq h2, two_list hs ra rb⟩) rx ry E Q q
  cases r1 with
  | atm => cases hd
  | dcn => cases hd
  | ins => cases hd
  | lst h1 ra =>
    cases r2 with
    | lst h2 rb => cases hd with | lst hs => exact lists hs (.of h1) ra (.of h2) rb rx ry
  | scr h1 ra =>
    cases r2 with
    | scr h2 rb => cases hd with | scr hs => exact lists hs h1 ra h2 rb rx ry
  | dct h1 ra =>
    cases r2 with
    | dct h2 rb =>
      cases hd with
      | dct nd hs =>
        obtain ⟨l, _, hp⟩ := two_val nd hs ra rb
        exact eqR_run I hu ih (.inr ⟨_, _, _, _, rfl, rfl, sF _ _ h1, sF _ _ h2, l, hp⟩) rx ry E Q q
  | tup h1 ra =>
    cases r2 with
    | tup h2 rb =>
      cases hd with
      | tup hs =>
        cases rx
        cases ry
        obtain ⟨us, v1, p1, _⟩ := I.tuple (same_sqT sF h1)
        obtain ⟨ws, v2, p2, _⟩ := I.tuple (same_sqT sF h2)
        have pr := two_list hs ra rb
        have hz : us.toArray.size = ws.toArray.size := by
          rw [List.size_toArray, List.size_toArray, ← v1.length, ← v2.length]
          exact Paired.length pr
        exact tupEqP p1 p2 hz hu (fun j a b => by simpa using items_run ih pr v1 v2 j (by simpa using a) (by simpa using b)) E Q q
theorem two_run (I : Inv X pins σ H s) (sF : Same F H) : ∀ (n : Nat) (A : Around), A.units + n < cLine → ∀ (x y : V) (v u : Value), TwoOf X.kw F n x y → RelV x v → RelV y u → SeqAt.EqP X.prog X.w A s v u true
  | n, A, hu, x, y, v, u, h, rx, ry => by
    have flat : x = y → flatB x = true → SeqAt.EqP X.prog X.w A s v u true := fun e f => by
      subst e; exact (eqAt_same rx ry f).eqP
    by_cases hr : ∃ a b, x = .ref a ∧ y = .ref b
    · obtain ⟨a, b, rfl, rfl⟩ := hr
      cases n with
      | zero =>
        obtain ⟨d, hd, r1, r2⟩ := h
        cases r1 <;> cases hd
      | succ n =>
        have step := two_seq I sF (A := A) (by omega) (two_run I sF n A.in1 (by show A.units + 1 + n < cLine; omega)) h rx ry ⟨a, rfl⟩
        cases (show v = Value.ref a from rx)
        cases (show u = Value.ref b from ry)
        by_cases e : a = b
        · subst e
          exact (SeqAt.EqAt.same _).eqP
        · exact SeqAt.eqP_refs e step
    · obtain ⟨d, hd, r1, r2⟩ := h
      cases r1 <;> cases r2 <;> first | exact flat rfl rfl | (cases hd; done) | exact absurd ⟨_, _, rfl, rfl⟩ hr
end
end L2.DL

namespace L2.DL
open PySem PySem.Spec PyProof.Rows

/-! ### == that also knows two copies of the same data -/
def isBox : D → Bool
  | .tup _ => true
  | .lst _ => true
  | .dct _ => true
  | .scr _ => true
  | _ => false
@[simp] def eqE : S2 := fun d e Q => match eqS d e with
  | some b => Q (.bl b)
  | none => (deepOk d e ∧ Q (.bl (PyData.eqv d.py e.py))) ∨ (d = e ∧ isBox d = true ∧ (∃ n, n ≤ 60 ∧ Sm n d) ∧ Q (.bl true))
@[simp] def neE : S2 := fun d e Q => match eqS d e with
  | some b => Q (.bl (!b))
  | none => (deepOk d e ∧ Q (.bl (!PyData.eqv d.py e.py))) ∨ (d = e ∧ (∃ ds n, d = .tup ds ∧ n ≤ 60 ∧ Sm n d) ∧ Q (.bl false))
section
variable {X : Cx}
def rTwo (K : KW) : R2 := fun x y H Q => ∃ F n, n ≤ 60 ∧ Same F H ∧ TwoOf K F n x y ∧ (∃ a, x = .ref a) ∧ Q (.bl true) H
def rTwoNe (K : KW) : R2 := fun x y H Q => ∃ F n ds, n ≤ 60 ∧ Same F H ∧ Sm n (.tup ds) ∧ Rp K F x (.tup ds) ∧ Rp K F y (.tup ds) ∧ Q (.bl false) H
theorem op_two (hu : X.A.units + 64 < cLine) : OpR X (compareOp .Eq) (rTwo X.kw) := by
  intro pins s σ H x y v u Q I rx ry h
  obtain ⟨F, n, hn, sF, h, hx, q⟩ := h
  have mono : ∃ m, m ≤ 60 ∧ n = m + 1 := by
    cases n with
    | zero =>
      obtain ⟨d, hd, r1, r2⟩ := h
      obtain ⟨a, rfl⟩ := hx
      cases r1 <;> cases hd
    | succ m => exact ⟨m, by omega, rfl⟩
  obtain ⟨m, hm, rfl⟩ := mono
  exact two_seq I sF (A := X.A) (by omega) (two_run I sF m X.A.in1 (by show X.A.units + 1 + m < cLine; omega)) h rx ry hx _ _ ⟨.bl true, H, I, rfl, q⟩
theorem op_twoNe (hu : X.A.units + 64 < cLine) : OpR X (compareOp .NotEq) (rTwoNe X.kw) := by
  intro pins s σ H x y v u Q I rx ry h
  obtain ⟨F, n, ds, hn, sF, hd, r1, r2, q⟩ := h
  cases hd with
  | @tup m _ hs =>
    cases r1 with
    | tup h1 ra =>
      cases r2 with
      | tup h2 rb =>
        cases rx
        cases ry
        obtain ⟨us, v1, p1, _⟩ := I.tuple (same_sqT sF h1)
        obtain ⟨ws, v2, p2, _⟩ := I.tuple (same_sqT sF h2)
        have pr := two_list hs ra rb
        have hz : us.toArray.size = ws.toArray.size := by
          rw [List.size_toArray, List.size_toArray, ← v1.length, ← v2.length]
          exact Paired.length pr
        exact tupNeP p1 p2 hz (by omega) (fun j a b => by simpa using items_run (two_run I sF m X.A.in1 (by show X.A.units + 1 + m < cLine; omega)) pr v1 v2 j (by simpa using a) (by simpa using b)) _ _ ⟨.bl false, H, I, rfl, q⟩
theorem o_eqE (hu : X.A.units + 64 < cLine) : DOp X (compareOp .Eq) eqE := by
  obtain ⟨r, hr, h0⟩ := o_eq (X := X) hu
  refine ⟨_, hr.or (op_two hu), fun F H x y d e Q Q' s rx ry h k => ?_⟩
  unfold eqE at h
  split at h
  · rename_i b hb
    exact .inl (h0 F H x y d e Q Q' s rx ry (by unfold eqD; rw [hb]; exact h) k)
  · rename_i hb
    rcases h with h | ⟨rfl, hx, ⟨n, hn, hd⟩, h⟩
    · exact .inl (h0 F H x y d e Q Q' s rx ry (by unfold eqD; rw [hb]; exact h) k)
    · refine .inr ⟨F, n, hn, s, ⟨d, hd, rx, ry⟩, ?_, k _ _ F H h .nil (.bl _)⟩
      cases rx <;> first | exact ⟨_, rfl⟩ | cases hx
theorem o_neE (hu : X.A.units + 64 < cLine) : DOp X (compareOp .NotEq) neE := by
  obtain ⟨r, hr, h0⟩ := o_ne (X := X) hu
  refine ⟨_, hr.or (op_twoNe hu), fun F H x y d e Q Q' s rx ry h k => ?_⟩
  unfold neE at h
  split at h
  · rename_i b hb
    exact .inl (h0 F H x y d e Q Q' s rx ry (by unfold neD; rw [hb]; exact h) k)
  · rename_i hb
    rcases h with h | ⟨rfl, ⟨ds, n, rfl, hn, hd⟩, h⟩
    · exact .inl (h0 F H x y d e Q Q' s rx ry (by unfold neD; rw [hb]; exact h) k)
    · exact .inr ⟨F, n, ds, hn, s, hd, rx, ry, k _ _ F H h .nil (.bl _)⟩
end
/-! ### a dict written down -/
def keyD : D → Option Key
  | .int i => some (.inl i)
  | .str x => some (.inr x)
  | _ => none
@[simp] def qPairs : List (TD × TD) → DEnv → (List (Key × D) → DEnv → Prop) → Prop
  | [], env, Q => Q [] env
  | (tk, tv) :: r, env, Q => tk env fun k env1 => tv env1 fun v env2 => match keyD k with
    | some key => qPairs r env2 fun kvs env3 => Q ((key, v) :: kvs) env3
    | none => False
def putD (kvs : List (Key × D)) (k : Key) (v : D) : List (Key × D) :=
  if (kvs.any fun kv => decide (kv.1 = k)) = true then kvs.map (fun kv => if kv.1 = k then (kv.1, v) else kv) else kvs ++ [(k, v)]
def mergeD (kvs more : List (Key × D)) : List (Key × D) := more.foldl (fun acc kv => putD acc kv.1 kv.2) kvs
section
variable {K : KW} {F : Hp}
theorem RpK.anyK {k : Key} : ∀ {vs : List (Key × V)} {ds : List (Key × D)}, RpK K F vs ds → (vs.any fun kv => decide (kv.1 = k)) = ds.any fun kv => decide (kv.1 = k)
  | _, _, .nil => rfl
  | _, _, .cons _ t => by rw [List.any_cons, List.any_cons, RpK.anyK t]
theorem RpK.append : ∀ {vs ws : List (Key × V)} {ds es : List (Key × D)}, RpK K F vs ds → RpK K F ws es → RpK K F (vs ++ ws) (ds ++ es)
  | _, _, _, _, .nil, s => s
  | _, _, _, _, .cons r t, s => .cons r (RpK.append t s)
theorem RpK.put1 {k : Key} {v : V} {d : D} (h : Rp K F v d) : ∀ {vs : List (Key × V)} {ds : List (Key × D)}, RpK K F vs ds → RpK K F (vs.map (fun kv => if kv.1 = k then (kv.1, v) else kv)) (ds.map (fun kv => if kv.1 = k then (kv.1, d) else kv))
  | _, _, .nil => .nil
  | _, _, .cons (k := k0) r t => by
    rw [List.map_cons, List.map_cons]
    by_cases e : k0 = k
    · rw [if_pos e, if_pos e]; exact .cons h (RpK.put1 h t)
    · rw [if_neg e, if_neg e]; exact .cons r (RpK.put1 h t)
theorem RpK.put {k : Key} {v : V} {d : D} (h : Rp K F v d) {vs : List (Key × V)} {ds : List (Key × D)} (r : RpK K F vs ds) : RpK K F (putK vs k v) (putD ds k d) := by
  unfold putK putD
  rw [r.anyK]
  split
  · exact r.put1 h
  · exact r.append (.cons h .nil)
theorem RpK.merge : ∀ {more : List (Key × V)} {md : List (Key × D)} {vs : List (Key × V)} {ds : List (Key × D)}, RpK K F more md → RpK K F vs ds → RpK K F (mergeK vs more) (mergeD ds md)
  | _, _, _, _, .nil, r => r
  | _, _, _, _, .cons h t, r => by
    show RpK K F (mergeK (putK _ _ _) _) (mergeD (putD _ _ _) _)
    exact RpK.merge t (RpK.put h r)
end
section
variable {X : Cx} {B : Bd} {pos : Pos}
def qTrs (K : KW) (B : Bd) (ts : List (TD × TD)) : List (TE × TE) := ts.map fun p => (xE K B p.1, xE K B p.2)
theorem dps_nil : PPs X pos [] [] (qTrs X.kw B []) := pps_nil
theorem dps_cons {k v : Expr} {ks : List (Option Expr)} {vs : List Expr} {tk tv : TD} {ts : List (TD × TD)} (hk : ∀ P, DE X (B.withP P) k tk) (hv : ∀ P, DE X (B.withP P) v tv) (hr : PPs X pos ks vs (qTrs X.kw B ts)) :
    PPs X pos (some k :: ks) (v :: vs) (qTrs X.kw B ((tk, tv) :: ts)) := pps_cons (xe' fun P => (hk P).pe) (xe' fun P => (hv P).pe) hr
theorem pairs_read {K : KW} {P : Hp} : ∀ (ts : List (TD × TD)) (F H : Hp) (σ : St) (env : DEnv) (Q : List (Key × D) → DEnv → Prop) (Q' : List (V × V) → Hp → Prop), Rep K (B.withP P) F H σ env → qPairs ts env Q →
    (∀ kvs env' vs F' H', Q kvs env' → Same F F' → Rep K (B.withP P) F' H' σ env' → RpK K F' vs kvs → Q' (vs.map fun kv => (kV kv.1, kv.2)) H') → tPairs (qTrs K B ts) σ H Q'
  | [], F, H, σ, env, Q, Q', R, hq, k => k [] env [] F H hq (Same.refl _) R .nil
  | (tk, tv) :: r, F, H, σ, env, Q, Q', R, hq, k => by
    refine ⟨P, F, env, _, R, hq, fun dk env1 v1 F1 H1 q1 s1 R1 r1 => ?_⟩
    refine ⟨P, F1, env1, _, R1, q1, fun dv env2 v2 F2 H2 q2 s2 R2 r2 => ?_⟩
    have q2 : (match keyD dk with
      | some key => qPairs r env2 fun kvs env3 => Q ((key, dv) :: kvs) env3
      | none => False) := q2
    split at q2
    · rename_i key hk
      have ek : v1 = kV key := by
        cases r1 <;> first | (cases hk; done) | (injection hk with hk; subst hk; rfl)
      refine pairs_read r F2 H2 σ env2 _ _ R2 q2 fun kvs env3 vs F3 H3 q3 s3 R3 r3 => ?_
      have := k _ env3 ((key, v2) :: vs) F3 H3 q3 ((s1.trans s2).trans s3) R3 (.cons (r2.mono s3) r3)
      rw [ek]; exact this
    · exact q2.elim
@[simp] def fDisp (ts : List (TD × TD)) : TDF := fun env Q => qPairs ts env fun kvs env1 => kvs.length ≤ 15 ∧ Q (.dct (mergeD [] kvs)) env1
theorem df_disp {keys : List (Option Expr)} {values : List Expr} {ts : List (TD × TD)} (h : PPs X pos keys values (qTrs X.kw B ts)) (hall : keys.all (·.isSome) = true := by rfl) (hl : keys.length = values.length := by rfl) (h0 : keys ≠ [] := by simp) (h15 : keys.length ≤ 15 := by decide) : DF X B (.Dict keys values pos) (fDisp ts) := by
  refine ⟨_, pe_disp h hall hl h0 h15, fun F H σ env Q Q' R hq k => ?_⟩
  intro p hp
  obtain ⟨n1, n2, n4, n3⟩ := R.newp hp
  have R1 := (R.junk (o := .dK []) hp).pinned upd_same n1 n2 n3
  refine pairs_read ts F _ σ env _ _ R1 hq fun kvs env1 vs F1 H1 q1 s1 R2 r2 => ?_
  obtain ⟨R3, hD, fD, ap⟩ := Rep.unpinned n4 R2
  exact ⟨hD, vs, rfl, by rw [r2.length]; exact q1.1, k _ env1 p F1 _ q1.2 s1 (R3.poke hD fD n2 n4 ap) ⟨_, upd_same, RpK.merge r2 .nil⟩ fD n2 n4 (apt ap)⟩
/-! ### dict(x), ord -/
@[simp] def dictD : D → (D → Prop) → Prop := fun d Q => match d with
  | .dct kvs => Q (.dct kvs)
  | _ => False
theorem c_dict : DCl X (.type "dict") (n1 dictD) := by
  refine ⟨_, call_dictD, fun F H xs ds Q Q' s r h k => ?_⟩
  obtain ⟨d, rfl, h⟩ := n1_of h
  obtain ⟨v, rfl, r1⟩ := rpa1 r
  cases r1 with
  | dct h1 ra => exact ⟨_, _, rfl, .inl (s _ _ h1), fun p hp => k _ _ _ _ h (.new hp) (.dct upd_same (ra.mono (same_upd (s.free hp))))⟩
  | _ => exact h.elim
@[simp] def ordD : D → (D → Prop) → Prop := fun d Q => match d with
  | .str x => x.length = 1 ∧ Q (.int (x.cps.getD 0 0 : Nat))
  | _ => False
theorem c_ord : DCl X (.builtin "ord") (n1 ordD) := by
  refine ⟨_, call_ord, fun F H xs ds Q Q' s r h k => ?_⟩
  obtain ⟨d, rfl, h⟩ := n1_of h
  obtain ⟨v, rfl, r1⟩ := rpa1 r
  cases r1 with
  | str x => exact ⟨x, rfl, h.1, k _ _ F H h.2 .nil (.int _)⟩
  | _ => exact h.elim
end
end L2.DL

namespace L2.DL
open PySem PySem.Spec PyProof.Rows

/-! ### a def that returns a new list or dict of one's own -/
abbrev FSpecO := List Cell → (OC → List Cell → Prop) → Prop
def spO (K : KW) (n : Nat) (spec : FSpecO) : Sp := fun vs H Q _ => ∃ (F : Hp) (M : Addr → Prop) (ms : Nat → Addr → Prop) (cs : List Cell), vs.length = n ∧ Rep K ⟨M, H, F, vs, fun _ => none, ms⟩ F H (vs.map some) cs ∧
  ∃ Qd, spec cs Qd ∧ ∀ c cs' p F' H', Qd c cs' → Same F F' → Rep K ⟨M, H, F, vs, fun _ => none, ms⟩ F' H' (vs.map some) cs' → OcOk K F' H' p c → F' p = none → H p = none → Apt ⟨M, H, F, vs, fun _ => none, ms⟩ F' p c (vs.map some) cs' → Q (.ref p) H'
@[simp] def fnEndsO (n : Nat) (Q : OC → List Cell → Prop) : DEnds := { nx := fun _ => False, rt := fun _ _ => False, ro := fun c env => ∃ cs', cs'.length = n ∧ Outs env cs' ∧ Q c cs' }
section
variable {P : Program} {w : World} {K : PySem.W.Frag} {mg : Str → Option Value} {base : Heap}
theorem okO {x qual : Str} {st : Stmt} {f : Addr} {fd : FuncData} {N ps : List Str} {k : Nat} {spec : FSpecO} (F : Fun K x qual st f fd) (S : FnScope N ps (defScope st))
    (hbody : ∀ (cdv : Value) (A : Around) (outer : List Env) (s : Shared) (H : Hp) (E : XK) (B : Bd) (cs : List Cell) (Q : OC → List Cell → Prop), Rm k (A.deeper (envOfC qual (defScope st) s.heap.objs.size f cdv)) → cs.length = ps.length → spec cs Q →
      ∃ t, DSs (cxOf (L2.CX P w) P w K mg base N qual (defScope st) f cdv A outer s H E).nox B (defBody st) t ∧ t (fnEndsO ps.length Q) (cs ++ List.replicate (N.length - ps.length) .none)) :
    Fk P w K mg base (k + 1) f fd ps (spO ⟨K, P, w, mg⟩ ps.length spec) := by
  refine F.fk S (fun vs H Q E h => ?_) (fun cdv A outer s H vs Q E hr h => ?_)
  · obtain ⟨_, _, _, _, h, _⟩ := h; exact h
  · obtain ⟨F0, M, ms, cs, hl, R, Qd, hs, hq⟩ := h
    have hcs : cs.length = ps.length := by rw [R.len, List.length_map, hl]
    obtain ⟨t, d, ht⟩ := hbody cdv A outer s H E ⟨M, H, F0, vs, fun _ => none, ms⟩ cs _ hr hcs hs
    obtain ⟨ts, p, h⟩ := d.ex
    refine ⟨ts, PSs.nox p, ?_⟩
    have R0 := R.pad (N.length - ps.length)
    have e0 : start N vs = vs.map some ++ List.replicate (N.length - ps.length) none := by unfold start; rw [hl]
    rw [e0]
    refine h F0 H _ _ _ _ R0 ht ⟨fun _ _ _ _ q => q.elim, fun _ _ _ _ _ _ q => q.elim, fun _ _ _ _ q => q.elim, fun _ _ _ _ q => q.elim, ?_⟩
    rintro c env' p σ' F' H' ⟨cs', l', o', q'⟩ s' R' oc hF h0 hP ap
    exact hq c _ p F' H' q' s' (R'.outs rfl (l'.trans hl.symm) o') oc hF h0 (ap.sub fun b z => R'.outsApart rfl o' z)
end
section
variable {X : Cx} {B : Bd} {e : Expr} {es : List Expr} {pos : Pos} {tr : TDR} {tf : TDF}
theorem put_own {as : List Arg} : ∀ {cs : List Cell} {env : DEnv} {i : Nat} {c : Cell}, (putBack env as cs)[i]? = some c → c.isOwn = true → ∃ c0, env[i]? = some c0 ∧ c0.isOwn = true := by
  induction as with
  | nil => intro cs env i c e w; exact ⟨c, e, w⟩
  | cons a as ih =>
    intro cs env i c e w
    cases a with
    | d x => exact ih (cs := cs.tail) e w
    | s j =>
      obtain ⟨c0, e0, w0⟩ := ih (cs := cs.tail) (env := env.set j ((env[j]?.getD .none).take (cs.headD .none))) e w
      by_cases q : j = i
      · subst q
        rw [List.getElem?_set_self'] at e0
        cases z : env[j]? with
        | none => rw [z] at e0; cases e0
        | some c1 =>
          rw [z] at e0
          have e0 : some ((some c1 |>.getD Cell.none).take (cs.headD .none)) = some c0 := e0
          cases e0
          refine ⟨c1, rfl, ?_⟩
          cases y : c1.isOwn with
          | true => rfl
          | false =>
            have w0 : (c1.take (cs.headD .none)).isOwn = true := w0
            unfold Cell.take at w0
            rw [y] at w0
            generalize cs.headD Cell.none = cc at w0
            cases cc <;> (have w' : c1.isOwn = true := w0; rw [y] at w'; cases w')
      · rw [List.getElem?_set_ne q] at e0
        exact ⟨c0, e0, w0⟩
@[simp] def fCall (spec : FSpecO) (n : Nat) (tr : TDR) : TDF := fun env Q => tr env fun as env1 => match callOk n as with
  | true => spec (handIn env1 as) fun c cs => putC env1 as cs fun env2 => Q c env2
  | false => False
theorem df_call {k n : Nat} {f : Addr} {fd : FuncData} {ps : List Str} {spec : FSpecO} {x : Str} {p : Pos} (G : Fk X.prog X.w X.kw X.mg X.base k f fd ps (spO X.kw n spec)) (hr : Rm k X.A) (hg : Gl X x) (hm : X.mg x = some (.ref f)) (hk : PySem.W.keepIn X.kw (.ref f) = true) (hb : Binds X.kw fd ps [])
    (ha : DR X B (e :: es) tr) (hdb : (x == ("__debug__" : Str)) = false := by decide) (he : starEach (e :: es) X.env = (false, eval e X.env) :: starEach es X.env := by rfl) (hpl : (backTo pos (starEach es X.env)).any (·.1) = false := by rfl) :
    DF X B (.Call (.Name x p) (e :: es) [] pos) (fCall spec n tr) := by
  obtain ⟨te, q, h⟩ := ha.ex
  refine ⟨_, pk_call G hr hg hm hk hb lets0 q hdb he hpl, fun F H σ env Q Q' R ht k => ?_⟩
  refine h F H σ env _ _ R ht fun as env1 vs F1 H1 q1 s1 R1 ra => ?_
  have q1 : callOk n as = true ∧ spec (handIn env1 as) fun c cs => putC env1 as cs fun env2 => Q c env2 := by
    split at q1
    · rename_i hc; exact ⟨hc, q1⟩
    · exact q1.elim
  obtain ⟨hc, hs⟩ := q1
  obtain ⟨hn, nd⟩ := callOk_ok hc

  refine ⟨F1, HandM σ env1 as, HandS σ env1 as, handIn env1 as, by rw [Paired.length ra, hn], R1.handed ra nd, _, hs, fun c cs v F' H' q s' R' oc hF hH ap => ?_⟩
  obtain ⟨n1, n2, n3, _⟩ := R1.newp hH
  refine k c _ v F' H' (putC_of q) (s1.trans s') (take_put (cs := cs) nd ▸ R1.taken ra s' R') oc hF n2 n3 ⟨?_, ap.2.1, fun b m => ?_⟩
  · exact take_put (cs := cs) nd ▸ R1.takenApart ra hH ap.1
  · obtain ⟨b1, b2, _, b4⟩ := ap.2.2 b m
    have b2 : H1 b = none := b2
    obtain ⟨_, m2, m3, _⟩ := R1.newp b2
    exact ⟨b1, m2, m3, take_put (cs := cs) nd ▸ R1.takenApart ra b2 b4⟩
@[simp] def sRetO (tf : TDF) : TDS := fun DD env => tf env DD.ro
theorem ds_retO (he : DF X B e tf) : DS X B (.Return (some e) pos) (sRetO tf) := by
  obtain ⟨ts, p, h⟩ := he.ex
  refine ⟨_, ps_ret p, fun F H σ env DD DH R ht l => ?_⟩
  exact h F H σ env _ _ R ht fun c env' p F' H' q s R' oc hF h0 hP ap => l.ro c env' p σ F' H' q s R' oc hF h0 hP ap
/-- one's own object is returned -/
@[simp] def sRetN1 (i : Nat) : TDS := fun DD env => match env[i]? with
  | some (.own true c) => setC i .none env fun e => DD.ro c e
  | _ => False
theorem ds_retN1 {i : Nat} (p : PE X e (tVar i)) : DS X B (.Return (some e) pos) (sRetN1 i) := by
  refine ⟨_, ps_ret p, fun F H σ env DD DH R ht l => ?_⟩
  unfold sRetN1 at ht
  split at ht
  · rename_i c e0
    obtain ⟨a, s, oc, hF, h0, hP, ap⟩ := R.aptAt e0
    exact ⟨_, s, l.ro c _ a σ F H (setC_of ht) (Same.refl _) (R.clear i) oc hF h0 hP ap⟩
  · exact ht.elim
end
/-- what a law's pen holds: the script, a place, what is left -/
def PenS : OC → Prop := fun c => ∃ (xs : List Int) (i j : Int), c = .lst [.scr (xs.map D.int), .int i, .int j]
end L2.DL

namespace L2.DL
open PySem PySem.Spec PyProof.Rows

/-! ### a module's own dict with text keys: what is known of it -/
structure KTabD (K : PySem.W.Frag) (w : World) (mg : Str → Option Value) (x : Str) (yes : List (Str × D)) (no : List Str) : Prop where
  ex : ∃ d es n, mg x = some (.ref d) ∧ KDict K w d es n ∧ (∀ p ∈ yes, ∃ u v, PySem.W.nsIn K d p.1 = some (some u) ∧ RelV v u ∧ ∀ (P : Program) (w2 : World) (m2 : Str → Option Value) F, Rp ⟨K, P, w2, m2⟩ F v p.2) ∧ ∀ z ∈ no, PySem.W.nsIn K d z = some none
def tabGet (yes : List (Str × D)) (z : Str) : Option D := (yes.find? fun p => decide (p.1 = z)).map (·.2)
def tabNo (no : List Str) (z : Str) : Bool := no.any fun y => decide (y = z)
@[simp] def inTab (yes : List (Str × D)) (no : List Str) : D → (Bool → Prop) → Prop := fun d Q => match d with
  | .str z => (match tabGet yes z with
    | some _ => Q true
    | none => (match tabNo no z with
      | true => Q false
      | false => False))
  | _ => False
@[simp] def qInK (yes : List (Str × D)) (no : List Str) (te : TD) : TD := fun env Q => te env fun d env1 => inTab yes no d fun b => Q (.bl b) env1
@[simp] def qNinK (yes : List (Str × D)) (no : List Str) (te : TD) : TD := fun env Q => te env fun d env1 => inTab yes no d fun b => Q (.bl (!b)) env1
@[simp] def qIxK (yes : List (Str × D)) (te : TD) : TD := fun env Q => te env fun d env1 => match d with
  | .str z => (match tabGet yes z with
    | some x => Q x env1
    | none => False)
  | _ => False
theorem tab_get {yes : List (Str × D)} {z : Str} {x : D} (h : tabGet yes z = some x) : (z, x) ∈ yes := by
  unfold tabGet at h
  cases e : yes.find? fun p => decide (p.1 = z) with
  | none => rw [e] at h; cases h
  | some p =>
    rw [e] at h
    cases h
    have h1 := List.find?_some e
    have h2 := List.mem_of_find?_eq_some e
    have : p.1 = z := of_decide_eq_true h1
    rw [← this]; exact h2
theorem tab_no {no : List Str} {z : Str} (h : tabNo no z = true) : z ∈ no := by
  obtain ⟨y, m, e⟩ := List.any_eq_true.mp h
  rw [← of_decide_eq_true e]; exact m
section
variable {X : Cx} {B : Bd} {x : Str} {a : Expr} {ta : TD} {p pos : Pos} {yes : List (Str × D)} {no : List Str}
theorem in_tab_read {K : PySem.W.Frag} {d0 : Addr} {k : D} {Q : Bool → Prop} (hy : ∀ p ∈ yes, ∃ u v, PySem.W.nsIn K d0 p.1 = some (some u) ∧ RelV v u ∧ ∀ (P : Program) (w2 : World) (m2 : Str → Option Value) F, Rp ⟨K, P, w2, m2⟩ F v p.2) (hn : ∀ z ∈ no, PySem.W.nsIn K d0 z = some none) (h : inTab yes no k Q) :
    ∃ z r, k = .str z ∧ PySem.W.nsIn K d0 z = some r ∧ Q r.isSome := by
  unfold inTab at h
  split at h
  · rename_i z
    split at h
    · rename_i x e
      obtain ⟨u, v, h1, _⟩ := hy _ (tab_get e)
      exact ⟨z, _, rfl, h1, h⟩
    · split at h
      · rename_i e
        exact ⟨z, _, rfl, hn z (tab_no e), h⟩
      · exact h.elim
  · exact h.elim
theorem de_inK (hg : Gl X x) (T : KTabD X.K X.w X.mg x yes no) (ha : DE X B a ta) (hd : (x == ("__debug__" : Str)) = false := by decide) (hmk : behindInMarks .In (.Name x p) = false := by rfl) : DE X B (.Compare a [.In] [.Name x p] pos) (qInK yes no ta) := by
  obtain ⟨d0, es, n, hm, D, hy, hn⟩ := T.ex
  obtain ⟨te, q, h⟩ := ha.ex
  refine ⟨_, pe_cmpR (op_in_kd D) q (pe_glob (v := .ref d0) hg hm rfl hd) hmk, fun F H σ env Q Q' R ht k => ?_⟩
  refine h F H σ env _ _ R ht fun d env1 v F1 H1 q1 s1 R1 r1 => ?_
  obtain ⟨z, r, rfl, e, q2⟩ := in_tab_read hy hn q1
  cases r1
  exact ⟨z, r, rfl, rfl, e, k _ env1 _ F1 H1 q2 s1 R1 (.bl _)⟩
theorem de_ninK (hg : Gl X x) (T : KTabD X.K X.w X.mg x yes no) (ha : DE X B a ta) (hd : (x == ("__debug__" : Str)) = false := by decide) (hmk : behindInMarks .NotIn (.Name x p) = false := by rfl) : DE X B (.Compare a [.NotIn] [.Name x p] pos) (qNinK yes no ta) := by
  obtain ⟨d0, es, n, hm, D, hy, hn⟩ := T.ex
  obtain ⟨te, q, h⟩ := ha.ex
  refine ⟨_, pe_cmpR (op_notIn_kd D) q (pe_glob (v := .ref d0) hg hm rfl hd) hmk, fun F H σ env Q Q' R ht k => ?_⟩
  refine h F H σ env _ _ R ht fun d env1 v F1 H1 q1 s1 R1 r1 => ?_
  obtain ⟨z, r, rfl, e, q2⟩ := in_tab_read hy hn q1
  cases r1
  exact ⟨z, r, rfl, rfl, e, k _ env1 _ F1 H1 q2 s1 R1 (.bl _)⟩
theorem dt_inK (hg : Gl X x) (T : KTabD X.K X.w X.mg x yes no) (ha : DE X B a ta) (hd : (x == ("__debug__" : Str)) = false := by decide) (hmk : behindInMarks .In (.Name x p) = false := by rfl) : DT X B (.Compare a [.In] [.Name x p] pos) (qTest (qInK yes no ta)) := by
  obtain ⟨d0, es, n, hm, D, hy, hn⟩ := T.ex
  obtain ⟨te, q, h⟩ := ha.ex
  refine ⟨_, pt_cmpR (op_in_kd D) q (pe_glob (v := .ref d0) hg hm rfl hd) hmk, fun F H σ env Q Q' R ht k => ?_⟩
  refine h F H σ env _ _ R ht fun d env1 v F1 H1 q1 s1 R1 r1 => ?_
  obtain ⟨z, r, rfl, e, q2⟩ := in_tab_read hy hn q1
  cases r1
  exact ⟨z, r, rfl, rfl, e, _, rfl, k _ env1 F1 H1 q2 s1 R1⟩
theorem dt_ninK (hg : Gl X x) (T : KTabD X.K X.w X.mg x yes no) (ha : DE X B a ta) (hd : (x == ("__debug__" : Str)) = false := by decide) (hmk : behindInMarks .NotIn (.Name x p) = false := by rfl) : DT X B (.Compare a [.NotIn] [.Name x p] pos) (qTest (qNinK yes no ta)) := by
  obtain ⟨d0, es, n, hm, D, hy, hn⟩ := T.ex
  obtain ⟨te, q, h⟩ := ha.ex
  refine ⟨_, pt_cmpR (op_notIn_kd D) q (pe_glob (v := .ref d0) hg hm rfl hd) hmk, fun F H σ env Q Q' R ht k => ?_⟩
  refine h F H σ env _ _ R ht fun d env1 v F1 H1 q1 s1 R1 r1 => ?_
  obtain ⟨z, r, rfl, e, q2⟩ := in_tab_read hy hn q1
  cases r1
  exact ⟨z, r, rfl, rfl, e, _, rfl, k _ env1 F1 H1 q2 s1 R1⟩
theorem de_ixK (hg : Gl X x) (T : KTabD X.K X.w X.mg x yes no) (ha : DE X B a ta) (hs : PlainIx a) (hd : (x == ("__debug__" : Str)) = false := by decide) : DE X B (.Subscript (.Name x p) a pos) (qIxK yes ta) := by
  obtain ⟨d0, es, n, hm, D, hy, hn⟩ := T.ex
  obtain ⟨te, q, h⟩ := ha.ex
  refine ⟨_, pe_ix ix_kdict (pe_glob (v := .ref d0) hg hm rfl hd) q hs, fun F H σ env Q Q' R ht k => ?_⟩
  refine h F H σ env _ _ R ht fun d env1 v F1 H1 q1 s1 R1 r1 => ?_
  split at q1
  · rename_i z
    split at q1
    · rename_i y e
      obtain ⟨u, v0, h1, h2, h3⟩ := hy _ (tab_get e)
      cases r1
      exact ⟨d0, z, v0, rfl, rfl, ⟨es, n, u, D.at_, D.lit, h1, h2⟩, k _ env1 _ F1 H1 q1 s1 R1 (h3 _ _ _ F1)⟩
    · exact q1.elim
  · exact q1.elim
end
end L2.DL

namespace L2.DL
open PySem PySem.Spec PyProof.Rows

section
variable {X : Cx} {B : Bd} {e a b : Expr} {ta tb te : TD} {pos p1 p2 p3 : Pos}
/-! ### xs[::-1] -/
@[simp] def qRevL (te : TD) : TD := fun env Q => te env fun d env1 => match d with
  | .lst xs => Q (.lst xs.reverse) env1
  | .scr xs => Q (.lst xs.reverse) env1
  | _ => False
theorem RpA.rev {K : KW} {F : Hp} : ∀ {vs : List V} {ds : List D}, RpA K F vs ds → RpA K F vs.reverse ds.reverse
  | _, _, .nil => .nil
  | _, _, .cons h t => by rw [List.reverse_cons, List.reverse_cons]; exact (RpA.rev t).append (.one h)
theorem de_revL {k : Nat} (he : DE X B e te) : DE X B (.Subscript e (.Slice none none (some (.UnaryOp .USub (.Constant (.int 1) k p1) p2)) p3) pos) (qRevL te) := by
  obtain ⟨ts, p, h⟩ := he.ex
  refine ⟨_, pe_revL p, fun F H σ env Q Q' R ht kk => ?_⟩
  refine h F H σ env _ _ R ht fun d env1 v F1 H1 q1 s1 R1 r1 => ?_
  cases r1 with
  | lst hs ra => exact ⟨_, _, rfl, .of (R1.sub _ _ hs), fun p hp => kk _ env1 _ _ _ q1 (s1.trans (same_upd (R1.freeF hp))) (R1.alloc hp) (.lst upd_same (ra.rev.mono (same_upd (R1.freeF hp))))⟩
  | scr hs ra => exact ⟨_, _, rfl, R1.sub.seq hs, fun p hp => kk _ env1 _ _ _ q1 (s1.trans (same_upd (R1.freeF hp))) (R1.alloc hp) (.lst upd_same (ra.rev.mono (same_upd (R1.freeF hp))))⟩
  | _ => exact q1.elim
/-! ### {} -/
@[simp] def fDct0 : TDF := fun env Q => Q (.dct []) env
theorem df_dct0 : DF X B (.Dict [] [] pos) fDct0 := by
  refine ⟨_, pe_dnewK, fun F H σ env Q Q' R ht k => ?_⟩
  intro p hp
  obtain ⟨n1, n2, n4, n3⟩ := R.newp hp
  exact k _ env p F _ ht (Same.refl _) (R.junk hp) ⟨[], upd_same, .nil⟩ n1 n2 n4 (apt n3)
/-! ### a + b, lists: a new list of one's own -/
@[simp] def fAdd (ta tb : TD) : TDF := fun env Q => ta env fun d env1 => tb env1 fun e env2 => match d, e with
  | .lst xs, .lst ys => xs.length + ys.length ≤ sizeLine ∧ Q (.lst (xs ++ ys)) env2
  | _, _ => False
theorem df_add (ha : DE X B a ta) (hb : DE X B b tb) : DF X B (.BinOp a .Add b pos) (fAdd ta tb) := by
  obtain ⟨t1, p, h1⟩ := ha.ex
  obtain ⟨t2, q, h2⟩ := hb.ex
  refine ⟨_, pe_op op_cat p q, fun F H σ env Q Q' R ht k => ?_⟩
  refine h1 F H σ env _ _ R ht fun d env1 v F1 H1 q1 s1 R1 r1 => ?_
  refine h2 F1 H1 σ env1 _ _ R1 q1 fun d2 env2 v2 F2 H2 q2 s2 R2 r2 => ?_
  have r1 := Rp.mono s2 r1
  cases r1 with
  | lst hl1 ra =>
    cases r2 with
    | lst hl2 rb =>
      refine ⟨_, _, _, _, rfl, rfl, R2.sub _ _ hl1, R2.sub _ _ hl2, by rw [ra.length, rb.length]; exact q2.1, fun p hp => ?_⟩
      obtain ⟨n1, n2, n4, n3⟩ := R2.newp hp
      exact k _ env2 p F2 _ q2.2 (s1.trans s2) (R2.junk hp) ⟨_, upd_same, ra.append rb⟩ n1 n2 n4 (apt n3)
    | _ => exact q2.elim
  | _ => cases r2 <;> exact q2.elim
end
/-! ### one bit more, one bit less -/
theorem nat_and_bit (n j : Nat) : n &&& 2 ^ j = 2 ^ j * (n / 2 ^ j % 2) := by
  have h : n / 2 ^ j % 2 = 0 ∨ n / 2 ^ j % 2 = 1 := by omega
  refine Nat.eq_of_testBit_eq fun i => ?_
  rw [Nat.testBit_and, Nat.testBit_two_pow]
  rcases h with h | h
  · rw [h, Nat.mul_zero, Nat.zero_testBit]
    by_cases e : j = i
    · subst e
      rw [Nat.testBit_eq_decide_div_mod_eq, h]; simp
    · simp [e]
  · rw [h, Nat.mul_one, Nat.testBit_two_pow]
    by_cases e : j = i
    · subst e
      rw [Nat.testBit_eq_decide_div_mod_eq, h]; simp
    · simp [e]
theorem and_bit {x : Int} (h : 0 ≤ x) (j : Nat) : Builtin.bitAnd x (2 ^ j) = 2 ^ j * (x / 2 ^ j % 2) := by
  obtain ⟨n, rfl⟩ := Int.eq_ofNat_of_zero_le h
  have hp : (0 : Int) ≤ 2 ^ j := Int.le_of_lt (Int.pow_pos (by decide))
  rw [bitAnd_pp h hp]
  have e : ((2 : Int) ^ j).toNat = 2 ^ j := by
    have : ((2 : Int) ^ j) = ((2 ^ j : Nat) : Int) := by simp
    rw [this]; rfl
  rw [e, Int.toNat_natCast, nat_and_bit]
  simp
theorem or_bit {x : Int} (h : 0 ≤ x) (j : Nat) : Builtin.bitOr x (2 ^ j) = x + 2 ^ j * (1 - x / 2 ^ j % 2) := by
  rw [bitOr_and, and_bit h, Int.mul_sub, Int.mul_one]
  omega
end L2.DL

namespace L2.DL
open PySem PySem.Spec PyProof.Rows

/-! ### zip and enumerate over lists, tuples, texts in any mix -/
/-- what is gone through -/
inductive SK where
  | l (a : Addr) | t (a : Addr) | s (z : Str)
@[simp] def SK.adr : SK → List Addr
  | .l a => [a]
  | .t a => [a]
  | .s _ => []
def SK.Sq (K : PySem.W.Frag) (H : Hp) : SK → List V → Prop
  | .l a, xs => SqL K H a xs
  | .t a, xs => SqT K H a xs
  | .s z, xs => xs = z.cps.toList.map fun c => V.str ⟨#[c]⟩
def SK.at (tk : Tok) (it : Addr) (i : Nat) (h : Heap) : SK → Prop
  | .l a => h.IsListIter it a i
  | .t a => h.IsTupleIter it a i
  | .s z => h.IsStrIter it (strIterType z) z tk i
def SK.val (tk : Tok) : SK → Value
  | .l a => .ref a
  | .t a => .ref a
  | .s z => .str z tk
def SK.v : SK → V
  | .l a => .ref a
  | .t a => .ref a
  | .s z => .str z
/-- its iterator, told by what it draws -/
structure Dr (X : Cx) (H : Hp) (s : Shared) (k : SK) (tk : Tok) (it : Addr) (i : Nat) (xs : List V) (fp : List Addr) (P : Nat → Value → Prop) (St : Nat → Heap → Prop) : Prop where
  dr : Draws X.prog X.w X.A.in1 it (it :: fp) xs.length P St
  st : St i s.heap
  lt : ∀ b ∈ fp, b ∈ k.adr
  bk : ∀ j h, St j h → k.at tk it j h
  rl : ∀ u, P i u → ∃ x, xs[i]? = some x ∧ RelV x u
section
variable {X : Cx} {pins : List (Addr × Obj)} {s : Shared} {σ : St} {H : Hp}
theorem sk_draws {k : SK} {tk : Tok} {it : Addr} {i : Nat} {xs : List V} (I : Inv X pins σ H s) (hc : X.calm = true) (hq : k.Sq X.K H xs) (st : k.at tk it i s.heap) (hne : ∀ b ∈ k.adr, b ≠ it) : ∃ fp P St, Dr X H s k tk it i xs fp P St := by
  have hh := I.ok.hd hc
  cases k with
  | l a =>
    obtain ⟨its, rv, p, hz⟩ := I.list hq
    have D := Draws.list (prog := X.prog) (w := X.w) (A := X.A.in1) hh it a (hne a (by simp)) its.toArray
    have e : its.toArray.size = xs.length := by rw [List.size_toArray, rv.length]
    rw [e] at D
    refine ⟨_, _, _, D, ⟨st, p.isList⟩, fun b hb => hb, fun j h q => q.1, fun u hu => ?_⟩
    have hu : its[i]? = some u := by simpa using hu
    have hl : i < xs.length := by rw [rv.length]; exact (List.getElem?_eq_some_iff.mp hu).1
    obtain ⟨u', h1, r⟩ := rv.get (List.getElem?_eq_getElem hl)
    rw [hu] at h1; cases h1
    exact ⟨_, List.getElem?_eq_getElem hl, r⟩
  | t a =>
    obtain ⟨its, rv, p, hz⟩ := I.tuple hq
    have D := Draws.tuple (prog := X.prog) (w := X.w) (A := X.A.in1) hh it a (hne a (by simp)) its.toArray
    have e : its.toArray.size = xs.length := by rw [List.size_toArray, rv.length]
    rw [e] at D
    refine ⟨_, _, _, D, ⟨st, p⟩, fun b hb => hb, fun j h q => q.1, fun u hu => ?_⟩
    have hu : its[i]? = some u := by simpa using hu
    have hl : i < xs.length := by rw [rv.length]; exact (List.getElem?_eq_some_iff.mp hu).1
    obtain ⟨u', h1, r⟩ := rv.get (List.getElem?_eq_getElem hl)
    rw [hu] at h1; cases h1
    exact ⟨_, List.getElem?_eq_getElem hl, r⟩
  | s z =>
    have D := Draws.text (prog := X.prog) (w := X.w) (A := X.A.in1) hh it z tk
    have hq : xs = z.cps.toList.map fun c => V.str ⟨#[c]⟩ := hq
    have e : z.cps.size = xs.length := by rw [hq, List.length_map, Array.length_toList]
    rw [e] at D
    refine ⟨[], _, _, D, st, fun b hb => (by cases hb), fun j h q => q, fun u hu => ?_⟩
    obtain ⟨c, t, hx, rfl⟩ := hu
    refine ⟨.str ⟨#[c]⟩, ?_, ⟨t, rfl⟩⟩
    rw [hq, List.getElem?_map, Array.getElem?_toList, hx]; rfl
theorem sk_inj {k : SK} {xs ys : List V} (I : Inv X pins σ H s) (h : k.Sq X.K H xs) (h2 : k.Sq X.K H ys) : xs = ys := by
  cases k with
  | l a => exact I.list_inj h h2
  | t a => exact I.tuple_inj h h2
  | s z => exact h.trans h2.symm
end
theorem sk_obj {k : SK} {tk : Tok} {it : Addr} {i : Nat} {h : Heap} (st : k.at tk it i h) : ∃ o, h.get? it = some o ∧ ∀ v, o.data ≠ .cell v := by
  cases k <;> (obtain ⟨o, e, _, d⟩ := st; exact ⟨o, e, fun v q => by rw [d] at q; cases q⟩)
theorem sk_keep {k : SK} {tk : Tok} {it : Addr} {i : Nat} {h h' : Heap} (st : k.at tk it i h) (f : ∀ o, h.get? it = some o → h'.get? it = some o) : k.at tk it i h' := by
  cases k <;> (obtain ⟨o, e, r⟩ := st; exact ⟨o, f o e, r⟩)
/-- the pairs of two things, as they stand at each turn -/
def ItZ (K : PySem.W.Frag) (k1 k2 : SK) : It :=
  ⟨fun i H => ∃ (xs ys : List V) (x y : V), k1.Sq K H xs ∧ k2.Sq K H ys ∧ xs[i]? = some x ∧ ys[i]? = some y,
    fun i H v H' => ∃ T x y, v = .ref T ∧ H T = none ∧ H' = upd H T (.tup [x, y]) ∧ (∀ xs, k1.Sq K H xs → xs[i]? = some x) ∧ ∀ ys, k2.Sq K H ys → ys[i]? = some y,
    fun i H => ∃ xs ys : List V, k1.Sq K H xs ∧ k2.Sq K H ys ∧ i ≤ xs.length ∧ i ≤ ys.length ∧ (i = xs.length ∨ i = ys.length)⟩
theorem in5 {c z TI TO i1 i2 : Addr} (h : c ∈ [z, TI, TO, i1, i2]) : c = z ∨ c = TI ∨ c = TO ∨ c = i1 ∨ c = i2 := by simpa using h
theorem turn_Z {P : Program} {w : World} {K : PySem.W.Frag} {elts : List Expr} {kk : Nat} {tpos : Pos} {k1 k2 : SK} {t1 t2 : Tok} (N : Nat) (l1 : ∀ b ∈ k1.adr, b < N) (l2 : ∀ b ∈ k2.adr, b < N) :
    Turn P w K (.Tuple elts kk tpos) (ItZ K k1 k2) [N + 4, N + 2, N + 3, N, N + 1] (N + 4) (fun i h => IsZip h (N + 4) (N + 2) (N + 3) .none ∧ IsTupOf2 h (N + 2) (.ref N) (.ref (N + 1)) ∧ (∃ x y, IsTupOf2 h (N + 3) x y) ∧ k1.at t1 N i h ∧ k2.at t2 (N + 1) i h) where
  mem := by simp
  obj := fun i h st c hc => by
    obtain ⟨hz, hTI, ⟨x, y, hTO⟩, s1, s2⟩ := st
    rcases in5 hc with q | q | q | q | q
    · rw [q]; exact ⟨_, hz, fun v q => nomatch q⟩
    · rw [q]; exact ⟨_, hTI, fun v q => nomatch q⟩
    · rw [q]; exact ⟨_, hTO, fun v q => nomatch q⟩
    · rw [q]; exact sk_obj s1
    · rw [q]; exact sk_obj s2
  keep := fun i h h' st k => by
    obtain ⟨hz, hTI, ⟨x, y, hTO⟩, s1, s2⟩ := st
    exact ⟨k _ (by simp) _ hz, k _ (by simp) _ hTI, ⟨x, y, k _ (by simp) _ hTO⟩, sk_keep s1 fun o e => k _ (by simp) o e, sk_keep s2 fun o e => k _ (by simp) o e⟩
  item := by
    intro X hP hw hK hc i pins s σ H E I hf st hg
    subst hP hw hK
    obtain ⟨hz, hTI, ⟨x0, y0, hTO⟩, s1, s2⟩ := st
    obtain ⟨xs, ys, x, y, hqx, hqy, hx, hy⟩ := hg
    obtain ⟨f1, P1, St1, D1⟩ := sk_draws I hc hqx s1 fun b hb => Nat.ne_of_lt (l1 b hb)
    obtain ⟨f2, P2, St2, D2⟩ := sk_draws I hc hqy s2 fun b hb => Nat.ne_of_lt (Nat.lt_succ_of_lt (l2 b hb))
    have S := zip_sep2 (N := N) (fp1 := f1) (fp2 := f2) (fun b hb => l1 b (D1.lt b hb)) fun b hb => l2 b (D2.lt b hb)
    have hzl : N + 4 < s.heap.objs.size := Heap.lt_size hz
    refine wpAny_pyNext_zipD2_item S D1.dr D2.dr hz hTI hTO D1.st D2.st (List.getElem?_eq_some_iff.mp hx).1 (List.getElem?_eq_some_iff.mp hy).1 fun u u2 h' tk p1 p2 z' TO' s1' s2' hT hsz hk => ?_
    obtain ⟨x', ex, ru⟩ := D1.rl u p1
    obtain ⟨y', ey, ru2⟩ := D2.rl u2 p2
    rw [hx] at ex; cases ex
    rw [hy] at ey; cases ey
    refine ⟨_, rfl, wpAny_letOwnedTupleGo_zip (s := { s with heap := h', toks := tk }) z' fun h'' z'' sb => ?_⟩
    have far : ∀ c, c ∈ [N + 4, N + 2, N + 3, N, N + 1] → c < s.heap.objs.size := fun c hcm => by
      rcases in5 hcm with q | q | q | q | q <;> (rw [q]; omega)
    have hT2 : h''.get? s.heap.objs.size = some { cls := .type "tuple", data := .seq #[u, u2] } := (sb.2 _ (Nat.ne_of_gt hzl)).trans hT
    have new : ObjOk X.prog X.w (upd H s.heap.objs.size (.tup [x, y])) h'' s.heap.objs.size (.tup [x, y]) :=
      ⟨by show 2 ≤ sizeLine; decide, [u, u2], .cons ru (.cons ru2 .nil), ⟨_, hT2, rfl, _, rfl⟩⟩
    have I1 : Inv X pins σ (upd H s.heap.objs.size (.tup [x, y])) { s with heap := h'', toks := tk } :=
      I.turnedNew (t' := tk) (ch := [N + 4, N + 2, N + 3, N, N + 1]) (fun c o hb q => (sb.2 c (fun q' => hb (by simp [q']))).trans (hk c o (fun q' => hb (by simp [q'])) (fun q' => hb (by simp [q'])) (fun q' => hb (by simp [q'])) (fun q' => hb (by simp [q'])) q)) hf (Nat.le_refl _) new
    refine ⟨.ref s.heap.objs.size, _, I1, rfl, ⟨_, x, y, rfl, I.hok.fresh (Nat.le_refl _), rfl, fun l hl => by rw [sk_inj I hl hqx]; exact hx, fun l hl => by rw [sk_inj I hl hqy]; exact hy⟩, ⟨z'', ?_, ⟨u, u2, ?_⟩, ?_, ?_⟩, fun c hcm => ?_⟩
    · exact (sb.2 _ S.TIz).trans (hk _ _ S.TIz S.TITO S.TIi1 S.TIi2 hTI)
    · exact (sb.2 _ S.TOz).trans TO'
    · exact sk_keep (D1.bk _ _ s1') fun o q => (sb.2 _ (Ne.symm S.zi1)).trans q
    · exact sk_keep (D2.bk _ _ s2') fun o q => (sb.2 _ (Ne.symm S.zi2)).trans q
    · rw [upd_ne (Nat.ne_of_lt (far c hcm))]
      exact (hf c hcm).1
  done := by
    intro X hP hw hK hc i pins s σ H E I hf st hg
    subst hP hw hK
    obtain ⟨hz, hTI, ⟨x0, y0, hTO⟩, s1, s2⟩ := st
    obtain ⟨xs, ys, hqx, hqy, le1, le2, hend⟩ := hg
    obtain ⟨f1, P1, St1, D1⟩ := sk_draws I hc hqx s1 fun b hb => Nat.ne_of_lt (l1 b hb)
    obtain ⟨f2, P2, St2, D2⟩ := sk_draws I hc hqy s2 fun b hb => Nat.ne_of_lt (Nat.lt_succ_of_lt (l2 b hb))
    have S := zip_sep2 (N := N) (fp1 := f1) (fp2 := f2) (fun b hb => l1 b (D1.lt b hb)) fun b hb => l2 b (D2.lt b hb)
    exact wpAny_pyNext_zipD2_end S D1.dr D2.dr hz hTI hTO D1.st D2.st le1 le2 hend fun h' tk hk => ⟨rfl, I.turnedL (t' := tk) (ch := [N + 4, N + 2, N + 3, N, N + 1]) (fun c o hb q =>
      hk c o (fun q' => hb (by simp [q'])) (fun q' => hb (by simp [q'])) (fun q' => hb (by simp [q'])) (fun q' => hb (by simp [q'])) q) hf⟩
  self := fun A i s Q E st h => wpAny_pyIter_zip st.1 h
/-- how it begins -/
theorem sk_begins {X : Cx} {pins : List (Addr × Obj)} {s : Shared} {σ : St} {H : Hp} {k : SK} {xs : List V} {u : Value} (I : Inv X pins σ H s) (hq : k.Sq X.K H xs) (r : RelV k.v u) :
    ∃ (tk : Tok) (o : Obj) (Hh : Heap → Prop), Begins u o Hh ∧ Hh s.heap ∧ (∀ b ∈ k.adr, b < s.heap.objs.size) ∧ ∀ (h : Heap) (it : Addr), h.get? it = some o → k.at tk it 0 h := by
  cases k with
  | l a =>
    cases r
    obtain ⟨its, rv, p, hz⟩ := I.list hq
    obtain ⟨o, n, ho, _⟩ := id p
    refine ⟨0, _, _, begins_list a its.toArray, p.isList, fun b hb => ?_, fun h it e => ⟨_, e, rfl, rfl⟩⟩
    rw [List.mem_singleton.mp hb]; exact Heap.lt_size ho
  | t a =>
    cases r
    obtain ⟨its, rv, p, hz⟩ := I.tuple hq
    obtain ⟨o, ho, _⟩ := id p
    refine ⟨0, _, _, begins_tuple a its.toArray, p, fun b hb => ?_, fun h it e => ⟨_, e, rfl, rfl⟩⟩
    rw [List.mem_singleton.mp hb]; exact Heap.lt_size ho
  | s z =>
    obtain ⟨t, rfl⟩ := r
    exact ⟨t, _, _, begins_text z t, trivial, fun b hb => (by cases hb), fun h it e => ⟨_, e, rfl, rfl⟩⟩
def iZip2 (K : PySem.W.Frag) (ta : TA) : TI := fun σ H R => ta σ H fun vs H1 => ∃ (k1 k2 : SK) (xs ys : List V), vs = [k1.v, k2.v] ∧ k1.Sq K H1 xs ∧ k2.Sq K H1 ys ∧ R (ItZ K k1 k2) H1
theorem pi_zip2 {X : Cx} {e e2 : Expr} {ta : TA} {p pos tpos : Pos} {elts : List Expr} {kk : Nat} (hg : Gl X "zip") (hm : X.mg "zip" = none) (ha : PA X [e, e2] ta)
    (hs : starEach [e, e2] X.env = (false, eval e X.env) :: starEach [e2] X.env := by rfl) (hpl : (backTo pos (starEach [e2] X.env)).any (·.1) = false := by rfl) :
    PI X (.Tuple elts kk tpos) (.Call (.Name "zip" p) [e, e2] [] pos) (iZip2 X.K ta) := by
  refine ⟨fun pins s σ H R I h => ?_⟩
  refine Call_ (ld_blt I hg hm PyProof.Rows.boot_zip (PyProof.Rows.callWith_type1 (thn (ha.run pos pins s σ H _ I h) fun us s1 ⟨vs, H1, I1, r1, q1⟩ => ?_) hs hpl))
  obtain ⟨k1, k2, xs, ys, ex, h1, h2, q⟩ := q1
  subst ex
  cases r1 with
  | cons r rr =>
    cases rr with
    | cons r' rr =>
      cases rr
      obtain ⟨t1, o1, Hh1, B1, b1, lt1, a1⟩ := sk_begins I1 h1 r
      obtain ⟨t2, o2, Hh2, B2, b2, lt2, a2⟩ := sk_begins I1 h2 r'
      refine zip_begins2 B1 B2 b1 b2 fun h' hz hTI hTO g1 g2 hsz hk => wpAny_pyIter_zip hz ?_
      refine ⟨s1.heap.objs.size + 4, _, _, _, H1, rfl, I1.kept (t' := s1.toks) hk, turn_Z (t1 := t1) (t2 := t2) s1.heap.objs.size lt1 lt2, ⟨hz, hTI, ⟨_, _, hTO⟩, a1 _ _ g1, a2 _ _ g2⟩, fun c hcm => ?_, q⟩
      have hle : s1.heap.objs.size ≤ c := by rcases in5 hcm with z | z | z | z | z <;> (rw [z]; omega)
      exact I1.fpOk hle (I1.hok.fresh hle)

/-! ### enumerate -/
def ItE (K : PySem.W.Frag) (k : SK) : It :=
  ⟨fun i H => ∃ (xs : List V) (x : V), k.Sq K H xs ∧ xs[i]? = some x, fun i H v H' => ∃ T x, v = .ref T ∧ H T = none ∧ H' = upd H T (.tup [.int (i : Nat), x]) ∧ ∀ xs, k.Sq K H xs → xs[i]? = some x, fun i H => ∃ xs : List V, k.Sq K H xs ∧ i = xs.length⟩
theorem turn_E {P : Program} {w : World} {K : PySem.W.Frag} {elts : List Expr} {kk : Nat} {tpos : Pos} {k : SK} {t : Tok} (N : Nat) (l1 : ∀ b ∈ k.adr, b < N) :
    Turn P w K (.Tuple elts kk tpos) (ItE K k) [N + 1, N] (N + 1) (fun i h => (∃ old, IsEnum h (N + 1) N ((i : Nat) : Int) old) ∧ k.at t N i h) where
  mem := by simp
  obj := fun i h st b hb => by
    obtain ⟨⟨old, he⟩, hi⟩ := st
    have e' : b = N + 1 ∨ b = N := by simpa using hb
    rcases e' with z | z
    · rw [z]; exact ⟨_, he, fun v q => nomatch q⟩
    · rw [z]; exact sk_obj hi
  keep := fun i h h' st f => let ⟨⟨old, he⟩, hi⟩ := st; ⟨⟨old, f (N + 1) (by simp) _ he⟩, sk_keep hi fun o q => f N (by simp) o q⟩
  item := by
    intro X hP hw hK hc i pins s σ H E I hf st hg
    subst hP hw hK
    obtain ⟨⟨old, he⟩, hit⟩ := st
    obtain ⟨xs, x, hq, hx⟩ := hg
    obtain ⟨f1, P1, St1, D1⟩ := sk_draws I hc hq hit fun b hb => Nat.ne_of_lt (l1 b hb)
    have hel : N + 1 < s.heap.objs.size := Heap.lt_size he
    have hne : (N + 1 : Nat) ≠ N := Nat.succ_ne_self N
    refine wpAny_pyNext_enum_itemD D1.dr he D1.st (List.getElem?_eq_some_iff.mp hx).1 hne (notIn_new (i := 0) (fun b hb => l1 b (D1.lt b hb)) (by omega)) fun u h' tk pu ho hit' hT hsz hk => ?_
    obtain ⟨x', ex, ru⟩ := D1.rl u pu
    rw [hx] at ex; cases ex
    refine ⟨_, rfl, wpAny_letOwnedTupleGo_enum (s := { s with heap := h', toks := tk + 1 }) ho fun h'' he' sb => ?_⟩
    have hT2 : h''.get? s.heap.objs.size = some { cls := .type "tuple", data := .seq #[.int i tk, u] } := (sb.2 _ (Nat.ne_of_gt hel)).trans hT
    have new : ObjOk X.prog X.w (upd H s.heap.objs.size (.tup [.int (i : Nat), x])) h'' s.heap.objs.size (.tup [.int (i : Nat), x]) :=
      ⟨by show 2 ≤ sizeLine; decide, [.int i tk, u], .cons ⟨_, rfl⟩ (.cons ru .nil), ⟨_, hT2, rfl, _, rfl⟩⟩
    have I1 : Inv X pins σ (upd H s.heap.objs.size (.tup [.int (i : Nat), x])) { s with heap := h'', toks := tk + 1 } :=
      I.turnedNew (ch := [N + 1, N]) (fun b ob hb q => (sb.2 b (fun z => hb (by simp [z]))).trans (hk b ob (fun z => hb (by simp [z])) (fun z => hb (by simp [z])) q)) hf (Nat.le_refl _) new
    refine ⟨.ref s.heap.objs.size, _, I1, rfl, ⟨_, x, rfl, I.hok.fresh (Nat.le_refl _), rfl, fun ys hy => by rw [sk_inj I hy hq]; exact hx⟩, ⟨⟨u, ?_⟩, sk_keep (D1.bk _ _ hit') fun o q => (sb.2 N (Ne.symm hne)).trans q⟩, fun b hb => ?_⟩
    · have e1 : ((i + 1 : Nat) : Int) = (i : Int) + 1 := by omega
      rw [e1]; exact he'
    · have hb' : b < s.heap.objs.size := by
        have e' : b = N + 1 ∨ b = N := by simpa using hb
        rcases e' with z | z
        · rw [z]; exact hel
        · rw [z]; exact Nat.lt_of_succ_lt hel
      rw [upd_ne (Nat.ne_of_lt hb')]
      exact (hf b hb).1
  done := by
    intro X hP hw hK hc i pins s σ H E I hf st hg
    subst hP hw hK
    obtain ⟨⟨old, he⟩, hit⟩ := st
    obtain ⟨xs, hq, hx⟩ := hg
    obtain ⟨f1, P1, St1, D1⟩ := sk_draws I hc hq hit fun b hb => Nat.ne_of_lt (l1 b hb)
    have st' := D1.st
    rw [hx] at st'
    exact wpAny_pyNext_enum_endD D1.dr he st' fun h' eb => ⟨rfl, I.turnedL (t' := s.toks) (ch := [N + 1, N]) (fun b o hb q => eb b o (fun z => hb (by simp [z])) q) hf⟩
  self := fun A i s Q E st h => let ⟨⟨_, he⟩, _⟩ := st; wpAny_pyIter_enum he h
set_option maxHeartbeats 1000000 in
theorem meets_enum1 {v : Value} {o : Obj} {H : Heap → Prop} (B : Begins v o H) :
    Meets (Builtin.«enumerate.__new__» ⟨[.type "enumerate", v], []⟩) (fun _ R s => H s.heap ∧
      R (.ok (.ret (.ref (s.heap.push o).objs.size))) { s with heap := (s.heap.push o).push { cls := .type "enumerate", data := .fields #[.none, .bool false, .ref s.heap.objs.size, rawInt 0, .none, .none] } }) :=
  .of_wp fun prog w A R s h => by
    obtain ⟨hp, g, d, tk, os⟩ := s; obtain ⟨h1, h⟩ := h
    have hsub := sub_enumerate
    have q1 : ∀ {A' : Around} {E : Value → Shared → Prop} {Q : Value → Shared → Prop}, Q (.ref hp.objs.size) ⟨hp.push o, g, d, tk, os⟩ → wpAny (model prog w) A' (pyIter v) Q E ⟨hp, g, d, tk, os⟩ := fun q => B.iter prog w _ _ ⟨hp, g, d, tk, os⟩ _ h1 q
    wp_walk using q1
    refine wpAny_stack_any fun st => wpAny_pure ?_
    split
    · rename_i c _ _ _ _ _
      cases (c == Value.type "enumerate") <;> (wp_walk using q1; exact ⟨_, rfl, h⟩)
    · wp_walk using q1
      exact ⟨_, rfl, h⟩
theorem enum1_begins {prog : Program} {w : World} {A : Around} {E : Value → Shared → Prop} {s : Shared} {v : Value} {o : Obj} {H : Heap → Prop} {Q : Value → Shared → Prop} (B : Begins v o H) (h1 : H s.heap)
    (h : ∀ h', IsEnum h' (s.heap.objs.size + 1) s.heap.objs.size 0 .none → h'.get? s.heap.objs.size = some o → (∀ b o, s.heap.get? b = some o → h'.get? b = some o) → Q (.ref (s.heap.objs.size + 1)) { s with heap := h' }) :
    wpAny (model prog w) A (call (.type "enumerate") [v]) Q E s := by
  refine callType_new F.called_enumerate (by decide) (F.typeCall_enumerate_1 _) (F.newCall_enumerate_1 _) (fun obj => F.args_object_init_2 obj _) F.entry_enumerate_new (meets_enum1 B) ⟨h1, ?_⟩
  have hz : (s.heap.push o).objs.size = s.heap.objs.size + 1 := Heap.size_push ..
  have he := Heap.get?_push_size (s.heap.push o) (o := { cls := .type "enumerate", data := .fields #[.none, .bool false, .ref s.heap.objs.size, rawInt 0, .none, .none] }) rfl
  show _ ∧ _
  rw [hz] at he ⊢
  exact ⟨⟨_, he, rfl⟩, h _ he (Heap.get?_push_of_some _ (Heap.get?_push_size _ B.free)) fun b o x => Heap.get?_push_of_some _ (Heap.get?_push_of_some _ x)⟩
def iEnum1 (K : PySem.W.Frag) (ta : TA) : TI := fun σ H R => ta σ H fun vs H1 => ∃ (k : SK) (xs : List V), vs = [k.v] ∧ k.Sq K H1 xs ∧ R (ItE K k) H1
theorem pi_enum1 {X : Cx} {e : Expr} {ta : TA} {p pos tpos : Pos} {elts : List Expr} {kk : Nat} (hg : Gl X "enumerate") (hm : X.mg "enumerate" = none) (ha : PA X [e] ta) (hs : starEach [e] X.env = [(false, eval e X.env)] := by rfl) :
    PI X (.Tuple elts kk tpos) (.Call (.Name "enumerate" p) [e] [] pos) (iEnum1 X.K ta) := by
  refine ⟨fun pins s σ H R I h => ?_⟩
  refine Call_ (ld_blt I hg hm boot_enumerate (PyProof.Rows.callWith_type1 (thn (ha.run pos pins s σ H _ I h) fun us s1 ⟨vs, H1, I1, r1, q1⟩ => ?_) hs rfl))
  obtain ⟨k, xs, ex, hq, q⟩ := q1
  subst ex
  cases r1 with
  | cons r rr =>
    cases rr
    obtain ⟨t1, o1, Hh1, B1, b1, lt1, a1⟩ := sk_begins I1 hq r
    refine enum1_begins B1 b1 fun h' he g1 hk => wpAny_pyIter_enum he ?_
    refine ⟨s1.heap.objs.size + 1, _, _, _, H1, rfl, I1.kept (t' := s1.toks) hk, turn_E (t := t1) s1.heap.objs.size lt1, ⟨⟨.none, he⟩, a1 _ _ g1⟩, fun b hb => ?_, q⟩
    have e' : b = s1.heap.objs.size + 1 ∨ b = s1.heap.objs.size := by simpa using hb
    have hle : s1.heap.objs.size ≤ b := by rcases e' with z | z <;> (rw [z]; omega)
    exact I1.fpOk hle (I1.hok.fresh hle)

/-! ### by data -/
/-- a thing that may be gone through, by its data -/
theorem sk_of {K : KW} {F H : Hp} {v : V} {d : D} {ds : List D} (hd : itemsD d = some ds) (r : Rp K F v d) : ∃ (k : SK) (xs : List V), v = k.v ∧ (∀ F', Same F F' → ∃ xs, k.Sq K F' xs ∧ RpA K F' xs ds) := by
  cases r with
  | lst hs ra => cases hd; exact ⟨.l _, [], rfl, fun F' s => ⟨_, s.seq (.of hs), ra.mono s⟩⟩
  | scr hs ra => cases hd; exact ⟨.l _, [], rfl, fun F' s => ⟨_, s.seq hs, ra.mono s⟩⟩
  | tup hs ra => cases hd; exact ⟨.t _, [], rfl, fun F' s => ⟨_, same_sqT s hs, ra.mono s⟩⟩
  | str z =>
    cases hd
    refine ⟨.s z, [], rfl, fun F' s => ⟨_, rfl, ?_⟩⟩
    generalize z.cps.toList = l
    induction l with
    | nil => exact .nil
    | cons c l ih => exact .cons (.str _) ih
  | _ => cases hd
theorem sk_up {K : KW} {F H : Hp} {k : SK} {xs : List V} (s : Same F H) (h : k.Sq K F xs) : k.Sq K H xs := by
  cases k with
  | l a => exact s.seq h
  | t a => exact same_sqT s h
  | s z => exact h
@[simp] def zipD (ds es : List D) : List D := List.zipWith (fun x y => D.tup [x, y]) ds es
theorem iter_zip {K : KW} {k1 k2 : SK} {ds es : List D} {F0 : Hp} (h1 : ∀ F', Same F0 F' → ∃ xs, k1.Sq K F' xs ∧ RpA K F' xs ds) (h2 : ∀ F', Same F0 F' → ∃ xs, k2.Sq K F' xs ∧ RpA K F' xs es) : IterOk K (ItZ K k1 k2) (zipD ds es) F0 := fun F H i s0 sH => by
  obtain ⟨xs, q1, r1⟩ := h1 F s0
  obtain ⟨ys, q2, r2⟩ := h2 F s0
  have hl : (zipD ds es).length = min ds.length es.length := List.length_zipWith
  refine ⟨fun e => ?_, fun d e => ?_⟩
  · rw [hl] at e
    exact ⟨xs, ys, sk_up sH q1, sk_up sH q2, by rw [r1.length]; omega, by rw [r2.length]; omega, by rw [r1.length, r2.length]; omega⟩
  · have e : (List.zipWith (fun x y => D.tup [x, y]) ds es)[i]? = some d := e
    rw [List.getElem?_zipWith] at e
    cases w1 : ds[i]? with
    | none => rw [w1] at e; cases e
    | some d1 =>
      cases w2 : es[i]? with
      | none => rw [w1, w2] at e; cases e
      | some d2 =>
        rw [w1, w2] at e; cases e
        obtain ⟨x, ex, rx⟩ := r1.get w1
        obtain ⟨y, ey, ry⟩ := r2.get w2
        refine ⟨⟨xs, ys, x, y, sk_up sH q1, sk_up sH q2, ex, ey⟩, ?_⟩
        rintro v H' ⟨T, x', y', rfl, hT, rfl, c1, c2⟩
        have := c1 xs (sk_up sH q1); rw [ex] at this; cases this
        have := c2 ys (sk_up sH q2); rw [ey] at this; cases this
        have n := same_upd (o := .tup [x, y]) (sH.free hT)
        exact ⟨_, .new hT, .tup (.of upd_same) (.cons (rx.mono n) (.one (ry.mono n)))⟩
@[simp] def enumD : Nat → List D → List D
  | _, [] => []
  | n, d :: ds => .tup [.int n, d] :: enumD (n + 1) ds
theorem enumD_len : ∀ (ds : List D) (n : Nat), (enumD n ds).length = ds.length
  | [], _ => rfl
  | _ :: ds, n => by show (enumD (n + 1) ds).length + 1 = ds.length + 1; rw [enumD_len ds]
theorem enumD_get : ∀ (ds : List D) (n i : Nat), (enumD n ds)[i]? = (ds[i]?).map fun d => .tup [.int ((n + i : Nat) : Int), d]
  | [], _, _ => rfl
  | _ :: _, _, 0 => rfl
  | _ :: ds, n, i + 1 => by
    show (enumD (n + 1) ds)[i]? = (ds[i]?).map _
    rw [enumD_get ds, show n + 1 + i = n + (i + 1) by omega]
theorem iter_enum {K : KW} {k : SK} {ds : List D} {F0 : Hp} (h1 : ∀ F', Same F0 F' → ∃ xs, k.Sq K F' xs ∧ RpA K F' xs ds) : IterOk K (ItE K k) (enumD 0 ds) F0 := fun F H i s0 sH => by
  obtain ⟨xs, q1, r1⟩ := h1 F s0
  refine ⟨fun e => ⟨xs, sk_up sH q1, by rw [e, enumD_len, r1.length]⟩, fun d e => ?_⟩
  rw [enumD_get] at e
  cases w1 : ds[i]? with
  | none => rw [w1] at e; cases e
  | some d1 =>
    rw [w1] at e; cases e
    obtain ⟨x, ex, rx⟩ := r1.get w1
    refine ⟨⟨xs, x, sk_up sH q1, ex⟩, ?_⟩
    rintro v H' ⟨T, x', rfl, hT, rfl, c1⟩
    have := c1 xs (sk_up sH q1); rw [ex] at this; cases this
    have n := same_upd (o := .tup [.int ((i : Nat) : Int), x]) (sH.free hT)
    rw [Nat.zero_add]
    exact ⟨_, .new hT, .tup (.of upd_same) (.cons (.int _) (.one (rx.mono n)))⟩
section
variable {X : Cx} {B : Bd} {a b : Expr} {tr : TDA} {pos p tpos : Pos} {elts : List Expr} {kk : Nat}
@[simp] def qZip (tr : TDA) : TDI := fun env Q => tr env fun ds env1 => match ds with
  | [d, e] => (match itemsD d, itemsD e with
    | some xs, some ys => Q (zipD xs ys) env1
    | _, _ => False)
  | _ => False
@[simp] def qEnum (tr : TDA) : TDI := fun env Q => tr env fun ds env1 => match ds with
  | [d] => (match itemsD d with
    | some xs => Q (enumD 0 xs) env1
    | none => False)
  | _ => False
theorem di_zip (hg : Gl X "zip") (hm : X.mg "zip" = none) (ha : DA X B [a, b] tr) (hs : starEach [a, b] X.env = (false, eval a X.env) :: starEach [b] X.env := by rfl) (hpl : (backTo pos (starEach [b] X.env)).any (·.1) = false := by rfl) :
    DI X B (.Tuple elts kk tpos) (.Call (.Name "zip" p) [a, b] [] pos) (qZip tr) := by
  obtain ⟨ts, q, h⟩ := ha.ex
  refine ⟨_, pi_zip2 hg hm q hs hpl, fun F H σ env Q R' R ht k => ?_⟩
  refine h F H σ env _ _ R ht fun ds env1 vs F1 H1 q1 s1 R1 r1 => ?_
  split at q1
  · split at q1
    · rename_i xs ys e1 e2
      cases r1 with
      | cons ra rr =>
        cases rr with
        | cons rb rr =>
          cases rr
          obtain ⟨k1, _, rfl, g1⟩ := sk_of (H := H) e1 ra
          obtain ⟨k2, _, rfl, g2⟩ := sk_of (H := H) e2 rb
          obtain ⟨us, u1, _⟩ := g1 F1 (Same.refl _)
          obtain ⟨ws, u2, _⟩ := g2 F1 (Same.refl _)
          exact ⟨k1, k2, us, ws, rfl, sk_up R1.sub u1, sk_up R1.sub u2, k _ env1 _ F1 H1 q1 s1 R1 (iter_zip g1 g2)⟩
    · exact q1.elim
  · exact q1.elim
theorem di_enum (hg : Gl X "enumerate") (hm : X.mg "enumerate" = none) (ha : DA X B [a] tr) (hs : starEach [a] X.env = [(false, eval a X.env)] := by rfl) :
    DI X B (.Tuple elts kk tpos) (.Call (.Name "enumerate" p) [a] [] pos) (qEnum tr) := by
  obtain ⟨ts, q, h⟩ := ha.ex
  refine ⟨_, pi_enum1 hg hm q hs, fun F H σ env Q R' R ht k => ?_⟩
  refine h F H σ env _ _ R ht fun ds env1 vs F1 H1 q1 s1 R1 r1 => ?_
  split at q1
  · split at q1
    · rename_i xs e1
      cases r1 with
      | cons ra rr =>
        cases rr
        obtain ⟨k1, _, rfl, g1⟩ := sk_of (H := H) e1 ra
        obtain ⟨us, u1, _⟩ := g1 F1 (Same.refl _)
        exact ⟨k1, us, rfl, sk_up R1.sub u1, k _ env1 _ F1 H1 q1 s1 R1 (iter_enum g1)⟩
    · exact q1.elim
  · exact q1.elim
end
end L2.DL

namespace L2.DL
open PySem PySem.Spec PyProof.Rows

/-! ### a text == anything -/
open PySem.AutoSeq1 (wpAny_loadPart') in
theorem str_eq_boxed (b : Str) (u : Tok) (l : Addr) (c : Value) (es : Array DictEntry) (ep : Nat) (dd : Option Addr) (sl : Array (Option Value)) :
    Meets (Builtin.«str.__eq__» ⟨[.str b u, .ref l], []⟩) (fun _ R s => s.heap.get? l = some { cls := c, dict := dd, data := .dict es ep, slots := sl } ∧ R (.ok (.ret .notImplemented)) s) :=
  .of_wp fun prog w A R s h => by obtain ⟨hp, g, d, tk, os⟩ := s; obtain ⟨ho, h⟩ := h; wp_walk using wpAny_loadPart' ho, wpAny_load ho; exact ⟨_, rfl, h⟩
open PySem.AutoSeq1 (wpAny_loadPart') in
theorem dict_eq_text (l : Addr) (es : Array DictEntry) (ep : Nat) (dd : Option Addr) (sl : Array (Option Value)) (b : Str) (u : Tok) :
    Meets (Builtin.«dict.__eq__» ⟨[.ref l, .str b u], []⟩) (fun _ R s => s.heap.get? l = some { cls := .type "dict", dict := dd, data := .dict es ep, slots := sl } ∧ R (.ok (.ret .notImplemented)) s) :=
  .of_wp fun prog w A R s h => by obtain ⟨hp, g, d, tk, os⟩ := s; obtain ⟨ho, h⟩ := h; have f1 := PySem.F.sub_str_dict; wp_walk using wpAny_loadPart' ho, wpAny_load ho; exact ⟨_, rfl, h⟩
theorem rc_str_dict {A : Around} {s : Shared} {l : Addr} {o : Obj} {es : Array DictEntry} {ep : Nat} (b : Str) (u : Tok) (ho : s.heap.get? l = some o) (hc : o.cls = .type "dict") (hd : o.data = .dict es ep) (hu : A.units < cLine) : SeqAt.RcAt A s (.str b u) (.ref l) false := fun prog w E Q h => by
  obtain ⟨c, dd, dt, sl⟩ := o
  simp only at hc hd
  subst hc hd
  exact SeqAt.rc_eq_decline_or (k := false) (typeIs_str s b u) ⟨_, ho, rfl⟩ (by decide) PySem.F.sub_dict_str F.slot_str_eq PySem.F.slot_dict_eq_refl
    (fun _ hq => call_meets F.slot_str_eq (typeIs_str s b u) F.entry_str_eq (F.args_str_eq_2 _ _) (str_eq_boxed b u l (.type "dict") es ep dd sl) ⟨ho, hq⟩)
    (fun _ hq => call_meets PySem.F.slot_dict_eq_refl ⟨_, ho, rfl⟩ PySem.F.entry_dict_eq (PySem.F.args_dict_eq_2 _ _) (dict_eq_text l es ep dd sl b u) ⟨ho, hq⟩)
    (fun _ hq => wpAny_of_eq (rfl : isSame (.str b u) (.ref l) = pure false) hq) (.inr hu) h
section
variable {X : Cx}
def rStrZ (K : KW) : R2 := fun x y H Q => ∃ z a, x = .str z ∧ y = .ref a ∧ ((∃ xs, SqL K H a xs) ∨ (∃ xs, SqT K H a xs) ∨ ∃ kvs, H a = some (.dK kvs)) ∧ Q (.bl false) H
theorem op_strZ (hu : X.A.units + 64 < cLine) : OpR X (compareOp .Eq) (rStrZ X.kw) := by
  intro pins s σ H x y v u Q I rx ry h
  obtain ⟨z, a, rfl, rfl, hs, q⟩ := h
  obtain ⟨t, rfl⟩ := rx
  cases (show u = Value.ref a from ry)
  have hu' : X.A.units < cLine := by omega
  have fin : (∃ v', RelV (.bl false) v' ∧ v' = Value.bool false) := ⟨_, rfl, rfl⟩
  rcases hs with ⟨xs, hs⟩ | ⟨xs, hs⟩ | ⟨kvs, hs⟩
  · obtain ⟨its, rv, p, hz⟩ := I.list hs
    exact SeqAt.RcAt.str_list z t p.isList hu' _ _ _ _ ⟨.bl false, H, I, rfl, q⟩
  · obtain ⟨its, rv, p, hz⟩ := I.tuple hs
    exact SeqAt.RcAt.str_tuple z t p hu' _ _ _ _ ⟨.bl false, H, I, rfl, q⟩
  · obtain ⟨_, _, vs, r, o, es, ep, ho, hx, hd, _⟩ := (show ObjOk X.prog X.w H s.heap a (.dK kvs) from I.hok a _ hs)
    exact rc_str_dict z t ho hx.1 hd hu' _ _ _ _ ⟨.bl false, H, I, rfl, q⟩
@[simp] def eqZ0 : S2 := fun d e Q => match d with
  | .str a => (match e with
    | .str b => Q (.bl (decide (a = b)))
    | .atm _ => False
    | .dcn _ => False
    | .ins _ _ => False
    | _ => Q (.bl false))
  | _ => False
theorem o_eqZ0 (hu : X.A.units + 64 < cLine) : DOp X (compareOp .Eq) eqZ0 := by
  refine ⟨_, op_eq.or (op_strZ hu), fun F H x y d e Q Q' s rx ry h k => ?_⟩
  cases rx with
  | str a =>
    have sc : ∀ {e : D} {b : Bool}, eqS (.str a) e = some b → Rp X.kw F y e → Q (.bl b) → rEq (.str a) y H Q' ∨ rStrZ X.kw (.str a) y H Q' := by
      intro e b hb ry h
      obtain ⟨h1, h2⟩ := eqS_rp hb (.str (K := X.kw) (F := F) a) ry
      refine .inl ⟨h1, ?_⟩
      rw [h2]
      exact k _ _ F H h .nil (.bl _)
    cases ry with
    | str b => exact sc (e := .str b) rfl (.str b) h
    | non => exact sc (e := .non) rfl .non h
    | bl b => exact sc (e := .bl b) rfl (.bl b) h
    | int b => exact sc (e := .int b) rfl (.int b) h
    | atm v => exact h.elim
    | dcn _ _ => exact h.elim
    | ins _ _ _ => exact h.elim
    | tup hs ra => exact .inr ⟨a, _, rfl, rfl, .inr (.inl ⟨_, same_sqT s hs⟩), k _ _ F H h .nil (.bl _)⟩
    | lst hs ra => exact .inr ⟨a, _, rfl, rfl, .inl ⟨_, .of (s _ _ hs)⟩, k _ _ F H h .nil (.bl _)⟩
    | scr hs ra => exact .inr ⟨a, _, rfl, rfl, .inl ⟨_, s.seq hs⟩, k _ _ F H h .nil (.bl _)⟩
    | dct hs ra => exact .inr ⟨a, _, rfl, rfl, .inr (.inr ⟨_, s _ _ hs⟩), k _ _ F H h .nil (.bl _)⟩
  | _ => exact h.elim
@[irreducible] def eqZ : S2 := eqZ0
theorem o_eqZ (hu : X.A.units + 64 < cLine) : DOp X (compareOp .Eq) eqZ := by unfold eqZ; exact o_eqZ0 hu
/-- whether data is this text -/
def hitN (a : Str) : D → Bool
  | .str s => decide (a = s)
  | _ => false
theorem eqZ_hit {a : Str} {d : D} {Q : D → Prop} (h : noAtm d = true) (q : Q (.bl (hitN a d))) : eqZ (.str a) d Q := by
  unfold eqZ
  cases d <;> first | exact q | cases h
/-! ### is True -/
@[simp] def isB : S2 := fun d e Q => match d, e with
  | .bl a, .bl b => Q (.bl (decide (a = b)))
  | _, _ => False
@[simp] def isnB : S2 := fun d e Q => match d, e with
  | .bl a, .bl b => Q (.bl (!decide (a = b)))
  | _, _ => False
theorem o_isB : DOp X (compareOp .Is) isB := by
  refine ⟨_, op_isBl, fun F H x y d e Q Q' s rx ry h k => ?_⟩
  cases rx <;> first | exact h.elim | (cases ry <;> first | exact h.elim | exact ⟨_, _, rfl, rfl, k _ _ F H h .nil (.bl _)⟩)
theorem o_isnB : DOp X (compareOp .IsNot) isnB := by
  refine ⟨_, op_notBl, fun F H x y d e Q Q' s rx ry h k => ?_⟩
  cases rx <;> first | exact h.elim | (cases ry <;> first | exact h.elim | exact ⟨_, _, rfl, rfl, k _ _ F H h .nil (.bl _)⟩)
end
theorem len_pos {n : Nat} (h : Nat.ble 1 n = true) : 0 < (n : Int) := by have := Nat.le_of_ble_eq_true h; omega
theorem len_lt {n : Nat} (h : Nat.ble n 99 = true) : (n : Int) < 1073741824 := by have := Nat.le_of_ble_eq_true h; omega
end L2.DL

namespace L2.DL
open PySem PySem.Spec PyProof.Rows

section
variable {X : Cx} {B : Bd} {e a b c ce : Expr} {ta tb tc te tk tx : TD} {pos p1 p2 apos cpos : Pos} {st : Stmt} {tf : TDF} {K : KW} {F H : Hp}

/-! ### dicts of one's own -/
@[simp] def ownK (env : DEnv) (i : Nat) (k : Bool → List (Key × D) → Prop) : Prop := match env[i]? with
  | some (.own fr (.dct kvs)) => k fr kvs
  | _ => False
theorem ownK_of {env : DEnv} {i : Nat} {k : Bool → List (Key × D) → Prop} (h : ownK env i k) : ∃ fr kvs, env[i]? = some (.own fr (.dct kvs)) ∧ k fr kvs := by
  unfold ownK at h
  split at h
  · rename_i fr kvs e
    exact ⟨fr, kvs, e, h⟩
  · exact h.elim
theorem own_readK {σ : St} {env : DEnv} {i : Nat} {fr : Bool} {kvs : List (Key × D)} (R : Rep K B F H σ env) (h : env[i]? = some (.own fr (.dct kvs))) :
    ∃ a ws, σ[i]? = some (some (.ref a)) ∧ H a = some (.dK ws) ∧ RpK K F ws kvs := by
  obtain ⟨a, s, ⟨ws, h1, h2⟩, _⟩ := R.cells i _ h
  exact ⟨a, ws, s, h1, h2⟩
def getK (kvs : List (Key × D)) (κ : Key) : Option D := (kvs.find? fun kv => decide (kv.1 = κ)).map (·.2)
theorem RpK.val {κ : Key} : ∀ {ws : List (Key × V)} {kvs : List (Key × D)}, RpK K F ws kvs →
    (∀ d, getK kvs κ = some d → ∃ v, valV ws κ = some v ∧ Rp K F v d) ∧ (getK kvs κ = none → valV ws κ = none)
  | _, _, .nil => ⟨fun d h => (nomatch h), fun _ => rfl⟩
  | _, _, @RpK.cons _ _ k v d ws kvs r t => by
    obtain ⟨h1, h2⟩ := RpK.val (κ := κ) t
    by_cases q : k = κ
    · refine ⟨fun y h => ?_, fun h => ?_⟩
      · have : d = y := by simpa [getK, List.find?_cons, q] using h
        subst this
        exact ⟨v, by simp [valV, List.find?_cons, q], r⟩
      · simp [getK, List.find?_cons, q] at h
    · have e1 : getK ((k, d) :: kvs) κ = getK kvs κ := by simp [getK, List.find?_cons, q]
      have e2 : valV ((k, v) :: ws) κ = valV ws κ := by simp [valV, List.find?_cons, q]
      rw [e1, e2]
      exact ⟨h1, h2⟩
theorem key_rp {k : D} {κ : Key} {v : V} (h : keyD k = some κ) (r : Rp K F v k) : v = kV κ := by
  cases k with
  | int i => cases r; cases h; rfl
  | str x => cases r; cases h; rfl
  | _ => cases h
/-- x[k] = e, x one's own dict -/
@[simp] def sSetK (i : Nat) (te tk : TD) : TDS := fun DD env => te env fun d env1 => ownK env1 i fun _ _ => tk env1 fun k env2 => match keyD k with
  | some κ => ownK env2 i fun fr kvs => kvs.length < sizeLine ∧ setC i (.own fr (.dct (putD kvs κ d))) env2 DD.nx
  | none => False
theorem ds_setK {i : Nat} {tg : Expr} (he : DE X B e te) (hg : PG X tg (gSub (tVar i) (canE X.kw B tk) rSetD)) (hs : swapsWithSole [tg] e pos.line X.env = pure false := by rfl) (hw : swappedStores [tg] e X.env = pure none := by rfl)
    (h1 : (assignEach [tg] X.env).map (·.2) = [assign tg X.env] := by rfl) : DS X B (.Assign [tg] e pos) (sSetK i te tk) := by
  obtain ⟨ts, p, h⟩ := he.ex
  refine ⟨_, ps_asg p hg hs hw h1, fun F H σ env DD DH R ht l => ?_⟩
  refine h F H σ env _ _ R ht fun d env1 v F1 H1 q s1 R1 r1 => ?_
  obtain ⟨fr, kvs, e1, q⟩ := ownK_of q
  obtain ⟨a, ws, s, h1, _⟩ := own_readK R1 e1
  refine ⟨_, s, F1, env1, _, R1, q, fun k env2 w F2 H2 q2 s2 R2 r2 => ?_⟩
  split at q2
  · rename_i κ hκ
    obtain ⟨fr, kvs, e2, hl, q2⟩ := ownK_of q2
    obtain ⟨a', ws', s', h2, ra⟩ := own_readK R2 e2
    rw [s] at s'; cases s'
    cases key_rp hκ r2
    refine ⟨a, _, rfl, DPut.k h2 (by rw [ra.length]; exact hl), ?_⟩
    exact l.nx _ σ F2 _ (setC_of q2) (s1.trans s2) (R2.writeAt e2 s ⟨_, upd_same, RpK.put (r1.mono s2) ra⟩)
  · exact q2.elim
/-- x[k], x one's own dict -/
@[simp] def qIxKO (i : Nat) (tk : TD) : TD := fun env Q => ownK env i fun _ _ => tk env fun k env1 => match keyD k with
  | some κ => ownK env1 i fun _ kvs => ∃ d, getK kvs κ = some d ∧ Q d env1
  | none => False
theorem de_ixKO {i : Nat} (p : PE X ce (tDGet (tVar i) (canE X.kw B tk))) : DE X B ce (qIxKO i tk) := by
  refine ⟨_, p, fun F H σ env Q Q' R ht k => ?_⟩
  obtain ⟨fr, kvs, e0, ht⟩ := ownK_of ht
  obtain ⟨a, ws, s, h1, _⟩ := own_readK R e0
  refine ⟨_, s, F, env, _, R, ht, fun d env1 v F1 H1 q s1 R1 r1 => ?_⟩
  split at q
  · rename_i κ hκ
    obtain ⟨fr, kvs, e2, d2, hd, q2⟩ := ownK_of q
    obtain ⟨a', ws', s', h2, ra⟩ := own_readK R1 e2
    rw [s] at s'; cases s'
    cases key_rp hκ r1
    obtain ⟨w, hw, rw'⟩ := ra.val.1 _ hd
    exact ⟨a, w, rfl, hw ▸ DGet.k h2, k _ env1 w F1 H1 q2 s1 R1 rw'⟩
  · exact q.elim
/-- x.get(k, y), x one's own dict -/
@[simp] def qGetO (i : Nat) (tk tx : TD) : TD := fun env Q => ownK env i fun _ _ => tk env fun k env1 => tx env1 fun x env2 => match keyD k with
  | some κ => ownK env2 i fun _ kvs => Q ((getK kvs κ).getD x) env2
  | none => False
theorem de_getO {i : Nat} (p : PE X ce (tDGet2 (tVar i) (canE X.kw B tk) (canE X.kw B tx))) : DE X B ce (qGetO i tk tx) := by
  refine ⟨_, p, fun F H σ env Q Q' R ht k => ?_⟩
  obtain ⟨fr, kvs, e0, ht⟩ := ownK_of ht
  obtain ⟨a, ws, s, h1, _⟩ := own_readK R e0
  refine ⟨_, s, a, rfl, .inl ⟨_, .inl h1⟩, F, env, _, R, ht, fun d env1 v F1 H1 q s1 R1 r1 => ?_⟩
  refine ⟨F1, env1, _, R1, q, fun x env2 z F2 H2 q2 s2 R2 r2 => ?_⟩
  split at q2
  · rename_i κ hκ
    obtain ⟨fr, kvs, e2, q2⟩ := ownK_of q2
    obtain ⟨a', ws', s', h2, ra⟩ := own_readK R2 e2
    rw [s] at s'; cases s'
    cases key_rp hκ r1
    refine ⟨_, DGet.k h2, ?_⟩
    cases hg : getK kvs κ with
    | some y =>
      obtain ⟨w, hw, rw'⟩ := ra.val.1 _ hg
      rw [hg] at q2
      rw [hw]
      exact k _ env2 w F2 H2 q2 (s1.trans s2) R2 rw'
    | none =>
      rw [hg] at q2
      rw [ra.val.2 hg]
      exact k _ env2 z F2 H2 q2 (s1.trans s2) R2 r2
  · exact q2.elim
/-- x.get(k, y) -/
@[simp] def qGetD (te tk tx : TD) : TD := fun env Q => te env fun d env1 => match d with
  | .dct kvs => tk env1 fun k env2 => tx env2 fun x env3 => match keyD k with
    | some κ => Q ((getK kvs κ).getD x) env3
    | none => False
  | _ => False
theorem de_getD (hu : X.A.units + 1 < cLine) (he : DE X B e te) (hk : DE X B a tk) (hx : DE X B b tx) (m : M2 X e "get" apos a b cpos) : DE X B (.Call (.Attribute e "get" apos) [a, b] [] cpos) (qGetD te tk tx) := by
  obtain ⟨t1, q1, h1⟩ := he.ex
  obtain ⟨t2, q2, h2⟩ := hk.ex
  obtain ⟨t3, q3, h3⟩ := hx.ex
  refine ⟨_, pe_dget2 hu q1 q2 q3 m, fun F H σ env Q Q' R ht k => ?_⟩
  refine h1 F H σ env _ _ R ht fun d env1 v F1 H1 q s1 R1 r1 => ?_
  cases r1 with
  | @dct a0 ws kvs hd ra =>
    refine ⟨a0, rfl, .inl ⟨_, .inl (R1.sub _ _ hd)⟩, ?_⟩
    refine h2 F1 H1 σ env1 _ _ R1 q fun d2 env2 v2 F2 H2 q s2 R2 r2 => ?_
    refine h3 F2 H2 σ env2 _ _ R2 q fun d3 env3 v3 F3 H3 q s3 R3 r3 => ?_
    split at q
    · rename_i κ hκ
      cases key_rp hκ r2
      have ra := ra.mono (s2.trans s3)
      refine ⟨_, DGet.k (R3.sub _ _ (s3 _ _ (s2 _ _ hd))), ?_⟩
      cases hg : getK kvs κ with
      | some y =>
        obtain ⟨w, hw, rw'⟩ := ra.val.1 _ hg
        rw [hg] at q
        rw [hw]
        exact k _ env3 w F3 H3 q (s1.trans (s2.trans s3)) R3 rw'
      | none =>
        rw [hg] at q
        rw [ra.val.2 hg]
        exact k _ env3 v3 F3 H3 q (s1.trans (s2.trans s3)) R3 r3
    · exact q.elim
  | _ => exact q.elim

/-! ### list(x), dict(x): new objects of one's own -/
@[simp] def fDict (te : TD) : TDF := fun env Q => te env fun d env1 => match d with
  | .dct kvs => Q (.dct kvs) env1
  | _ => False
theorem df_dict (he : DE X B e te) (p : ∀ {t : TE}, PE X e t → PE X ce (tCB (fun xs H Q => ∃ (a : Addr) (kvs : List (Key × V)), xs = [.ref a] ∧ Rd H a (.dK kvs) ∧ ∀ p, H p = none → Q (.ref p) (upd H p (.dK kvs))) (tCons t tNil))) : DF X B ce (fDict te) := by
  obtain ⟨ts, q, h⟩ := he.ex
  refine ⟨_, p q, fun F H σ env Q Q' R ht k => ?_⟩
  refine h F H σ env _ _ R ht fun d env1 v F1 H1 q s1 R1 r1 => ?_
  cases r1 with
  | dct hd ra =>
    refine ⟨_, _, rfl, .inl (R1.sub _ _ hd), fun p hp => ?_⟩
    obtain ⟨n1, n2, n4, n3⟩ := R1.newp hp
    exact k _ env1 p F1 _ q s1 (R1.junk hp) ⟨_, upd_same, ra⟩ n1 n2 n4 (apt n3)
  | _ => exact q.elim
@[simp] def fList (te : TD) : TDF := fun env Q => te env fun d env1 => match d with
  | .lst ds => Q (.lst ds) env1
  | .scr ds => Q (.lst ds) env1
  | .tup ds => Q (.lst ds) env1
  | _ => False
theorem df_list (he : DE X B e te) (p : ∀ {t : TE}, PE X e t → PE X ce (tCB (fun xs H Q => ∃ p ys, xs = [.ref p] ∧ (SqL X.kw H p ys ∨ SqT X.kw H p ys) ∧ ∀ l, H l = none → Q (.ref l) (upd H l (.lst ys))) (tCons t tNil))) : DF X B ce (fList te) := by
  obtain ⟨ts, q, h⟩ := he.ex
  refine ⟨_, p q, fun F H σ env Q Q' R ht k => ?_⟩
  refine h F H σ env _ _ R ht fun d env1 v F1 H1 q s1 R1 r1 => ?_
  cases r1 with
  | lst hd ra =>
    refine ⟨_, _, rfl, .inl (.of (R1.sub _ _ hd)), fun p hp => ?_⟩
    obtain ⟨n1, n2, n4, n3⟩ := R1.newp hp
    exact k _ env1 p F1 _ q s1 (R1.junk hp) ⟨_, upd_same, ra⟩ n1 n2 n4 (apt n3)
  | scr hd ra =>
    refine ⟨_, _, rfl, .inl (R1.sub.seq hd), fun p hp => ?_⟩
    obtain ⟨n1, n2, n4, n3⟩ := R1.newp hp
    exact k _ env1 p F1 _ q s1 (R1.junk hp) ⟨_, upd_same, ra⟩ n1 n2 n4 (apt n3)
  | tup hd ra =>
    refine ⟨_, _, rfl, .inr (same_sqT R1.sub hd), fun p hp => ?_⟩
    obtain ⟨n1, n2, n4, n3⟩ := R1.newp hp
    exact k _ env1 p F1 _ q s1 (R1.junk hp) ⟨_, upd_same, ra⟩ n1 n2 n4 (apt n3)
  | _ => exact q.elim

/-! ### x.extend(e), x.reverse(), x one's own list -/
@[simp] def sExt (i : Nat) (te : TD) : TDS := fun DD env => ownL env i fun _ _ => te env fun d env1 => match d with
  | .lst ys => ownL env1 i fun fr xs => xs.length + ys.length ≤ sizeLine ∧ setC i (.own fr (.lst (xs ++ ys))) env1 DD.nx
  | _ => False
theorem ds_extend {i : Nat} {pos' : Pos} (p : PE X ce (tBM X.kw "list" rExtend (tVar i) (tCons (canE X.kw B te) tNil))) (hs' : swapsWith ce none pos'.line X.env = pure false := by rfl) :
    DS X B (.Expr ce pos') (sExt i te) := by
  refine ⟨_, ps_expr p hs', fun F H σ env DD DH R ht l => ?_⟩
  obtain ⟨fr, xs, e0, ht⟩ := ownL_of ht
  obtain ⟨a, vs, s, h1, _⟩ := own_read R e0
  refine ⟨_, s, .inl ⟨rfl, _, SqL.of h1⟩, F, env, _, R, ht, fun d env1 v F1 H1 q s1 R1 r1 => ?_⟩
  cases r1 with
  | lst hd rb =>
    obtain ⟨fr, xs, e1, hl, q⟩ := ownL_of q
    obtain ⟨a', vs', s', h1', ra⟩ := own_read R1 e1
    rw [s] at s'; cases s'
    refine ⟨a, _, vs', _, rfl, rfl, h1', R1.sub _ _ hd, by rw [ra.length, rb.length]; exact hl, ?_⟩
    exact l.nx _ σ F1 _ (setC_of q) s1 (R1.writeAt e1 s ⟨_, upd_same, ra.append rb⟩)
  | _ => exact q.elim
@[simp] def sRev (i : Nat) : TDS := fun DD env => ownL env i fun fr xs => setC i (.own fr (.lst xs.reverse)) env DD.nx
theorem ds_reverse {i : Nat} {pos' : Pos} (p : PE X ce (tBM0 X.kw "list" rReverse (tVar i))) (hs' : swapsWith ce none pos'.line X.env = pure false := by rfl) :
    DS X B (.Expr ce pos') (sRev i) := by
  refine ⟨_, ps_expr p hs', fun F H σ env DD DH R ht l => ?_⟩
  obtain ⟨fr, xs, e0, ht⟩ := ownL_of ht
  obtain ⟨a, vs, s, h1, ra⟩ := own_read R e0
  refine ⟨_, s, .inl ⟨rfl, _, SqL.of h1⟩, a, vs, rfl, rfl, h1, ?_⟩
  exact l.nx _ σ F _ (setC_of ht) (Same.refl _) (R.writeAt e0 s ⟨_, upd_same, RpA.rev ra⟩)

/-! ### texts: join, index -/
@[simp] def joinD (z : Str) (ds : List D) (Q : Str → Prop) : Prop := ∃ ys : List Str, ds = ys.map D.str ∧ (ys.map (·.length)).sum + ys.length * z.length ≤ 16777216 ∧ Q (Txt.join z ys)
@[simp] def qJoin (te tx : TD) : TD := fun env Q => te env fun d env1 => match d with
  | .str z => tx env1 fun x env2 => match x with
    | .lst ds => joinD z ds fun r => Q (.str r) env2
    | .tup ds => joinD z ds fun r => Q (.str r) env2
    | _ => False
  | _ => False
theorem de_join (he : DE X B e te) (hx : DE X B a tx) (hs : starEach [a] X.env = [(false, eval a X.env)] := by rfl) (hbase : attributeBase e "join" X.env (eval e X.env) = eval e X.env := by rfl) (hline : (apos.endLine == cpos.line) = true := by rfl) :
    DE X B (.Call (.Attribute e "join" apos) [a] [] cpos) (qJoin te tx) := by
  obtain ⟨t1, q1, h1⟩ := he.ex
  obtain ⟨t2, q2, h2⟩ := hx.ex
  refine ⟨_, pe_m1 PySem.F.slot_str_join PySem.F.type_str_join mt_join q1 q2 hs hbase hline, fun F H σ env Q Q' R ht k => ?_⟩
  refine h1 F H σ env _ _ R ht fun d env1 v F1 H1 q s1 R1 r1 => ?_
  cases r1 with
  | str z =>
    refine ⟨⟨z, rfl⟩, ?_⟩
    refine h2 F1 H1 σ env1 _ _ R1 q fun x env2 w F2 H2 q s2 R2 r2 => ?_
    cases r2 with
    | lst hd ra =>
      obtain ⟨ys, rfl, hb, q⟩ := q
      obtain rfl := RpA.of_strs ra
      exact ⟨z, _, ys, rfl, rfl, .inl (.of (R2.sub _ _ hd)), hb, k _ env2 _ F2 H2 q (s1.trans s2) R2 (.str _)⟩
    | tup hd ra =>
      obtain ⟨ys, rfl, hb, q⟩ := q
      obtain rfl := RpA.of_strs ra
      exact ⟨z, _, ys, rfl, rfl, .inr (same_sqT R2.sub hd), hb, k _ env2 _ F2 H2 q (s1.trans s2) R2 (.str _)⟩
    | _ => exact q.elim
  | _ => exact q.elim
@[simp] def qIndexS (te tx : TD) : TD := fun env Q => te env fun d env1 => match d with
  | .str z => tx env1 fun x env2 => match x with
    | .str y => ∃ i rest, Builtin.Str.occurrences z y 0 z.length 1 = i :: rest ∧ Q (.int (i : Nat)) env2
    | _ => False
  | _ => False
theorem de_indexS (he : DE X B e te) (hx : DE X B a tx) (hs : starEach [a] X.env = [(false, eval a X.env)] := by rfl) (hbase : attributeBase e "index" X.env (eval e X.env) = eval e X.env := by rfl) (hline : (apos.endLine == cpos.line) = true := by rfl) :
    DE X B (.Call (.Attribute e "index" apos) [a] [] cpos) (qIndexS te tx) := by
  obtain ⟨t1, q1, h1⟩ := he.ex
  obtain ⟨t2, q2, h2⟩ := hx.ex
  refine ⟨_, pe_m1 PySem.F.slot_str_index PySem.F.type_str_index mt_sindex q1 q2 hs hbase hline, fun F H σ env Q Q' R ht k => ?_⟩
  refine h1 F H σ env _ _ R ht fun d env1 v F1 H1 q s1 R1 r1 => ?_
  cases r1 with
  | str z =>
    refine ⟨⟨z, rfl⟩, ?_⟩
    refine h2 F1 H1 σ env1 _ _ R1 q fun x env2 w F2 H2 q s2 R2 r2 => ?_
    cases r2 with
    | str y =>
      obtain ⟨i, rest, ho, q⟩ := q
      exact ⟨z, y, i, rest, rfl, rfl, ho, k _ env2 _ F2 H2 q (s1.trans s2) R2 (.int _)⟩
    | _ => exact q.elim
  | _ => exact q.elim

/-! ### f() -/
theorem de_call0 {k : Nat} {f : Addr} {fd : FuncData} {ps : List Str} {spec : FSpec} {x : Str} {p : Pos} (G : Fk X.prog X.w X.kw X.mg X.base k f fd ps (spD X.kw 0 spec)) (hr : Rm k X.A) (hg : Gl X x) (hm : X.mg x = some (.ref f)) (hk : PySem.W.keepIn X.kw (.ref f) = true) (hb : Binds X.kw fd ps [])
    (hdb : (x == ("__debug__" : Str)) = false := by decide) : DE X B (.Call (.Name x p) [] [] pos) (qCall spec 0 rNil) := by
  refine ⟨_, pk_call0 G hr hg hm hk hb lets0 hdb, fun F H σ env Q Q' R ht k => ?_⟩
  have q1 : callOk 0 [] = true ∧ spec (handIn env []) fun d cs => putC env [] cs fun env2 => Q d env2 := ⟨rfl, ht⟩
  obtain ⟨hc, hs⟩ := q1
  obtain ⟨hn, nd⟩ := callOk_ok hc
  refine ⟨F, HandM σ env [], HandS σ env [], handIn env [], rfl, R.handed .nil nd, _, hs, fun d cs v F' H' q s' R' r' => ?_⟩
  exact k d _ v F' H' (putC_of q) s' (take_put (cs := cs) nd ▸ R.taken .nil s' R') r'
theorem df_call0 {k : Nat} {f : Addr} {fd : FuncData} {ps : List Str} {spec : FSpecO} {x : Str} {p : Pos} (G : Fk X.prog X.w X.kw X.mg X.base k f fd ps (spO X.kw 0 spec)) (hr : Rm k X.A) (hg : Gl X x) (hm : X.mg x = some (.ref f)) (hk : PySem.W.keepIn X.kw (.ref f) = true) (hb : Binds X.kw fd ps [])
    (hdb : (x == ("__debug__" : Str)) = false := by decide) : DF X B (.Call (.Name x p) [] [] pos) (fCall spec 0 rNil) := by
  refine ⟨_, pk_call0 G hr hg hm hk hb lets0 hdb, fun F H σ env Q Q' R ht k => ?_⟩
  have q1 : callOk 0 [] = true ∧ spec (handIn env []) fun c cs => putC env [] cs fun env2 => Q c env2 := ⟨rfl, ht⟩
  obtain ⟨hc, hs⟩ := q1
  obtain ⟨hn, nd⟩ := callOk_ok hc
  refine ⟨F, HandM σ env [], HandS σ env [], handIn env [], rfl, R.handed .nil nd, _, hs, fun c cs v F' H' q s' R' oc hF hH ap => ?_⟩
  obtain ⟨n1, n2, n3, _⟩ := R.newp hH
  refine k c _ v F' H' (putC_of q) s' (take_put (cs := cs) nd ▸ R.taken .nil s' R') oc hF n2 n3 ⟨?_, ap.2.1, fun b m => ?_⟩
  · exact take_put (cs := cs) nd ▸ R.takenApart .nil hH ap.1
  · obtain ⟨b1, b2, _, b4⟩ := ap.2.2 b m
    have b2 : H b = none := b2
    obtain ⟨_, m2, m3, _⟩ := R.newp b2
    exact ⟨b1, m2, m3, take_put (cs := cs) nd ▸ R.takenApart .nil b2 b4⟩

/-! ### one's own objects, looked at as data: the answer is no object -/
def bareCell : Cell → Cell
  | .own _ c => .val c.frz
  | .opq _ _ => .none
  | c => c
@[simp] def bareC : DEnv → (DEnv → Prop) → Prop
  | [], k => k []
  | c :: r, k => bareC r fun r' => match c with
    | .own _ o => k (.val o.frz :: r')
    | .opq _ _ => k (.none :: r')
    | .none => k (.none :: r')
    | .val d => k (.val d :: r')
theorem bareC_of : ∀ {env : DEnv} {k : DEnv → Prop}, bareC env k → k (env.map bareCell)
  | [], _, h => h
  | c :: r, k, h => by
    have h := bareC_of (env := r) h
    cases c <;> exact h
def bareB (B : Bd) (F H : Hp) : Bd := ⟨fun _ => False, H, F, B.par, fun _ => none, fun _ _ => False⟩
theorem FdOk.bare {K : KW} {F F' H : Hp} (sF : Same F F') : ∀ {vs : List (Str × V)} {fs : List (Str × Fd)}, FdOk K F H vs fs → (∀ b, b ∈ fdSubs fs → F' b = H b) → RpF K F' vs (fs.map fun p => (p.1, match p.2 with | .d x => x | .l _ xs => .lst xs))
  | _, _, .nil, _ => .nil
  | _, _, .d h t, e => .cons (h.mono sF) (FdOk.bare sF t e)
  | _, _, .l h r t, e => .cons (.lst ((e _ List.mem_cons_self).trans h) (r.mono sF)) (FdOk.bare sF t fun b m => e b (List.mem_cons_of_mem _ m))
theorem DlOk.bare {K : KW} {F F' H : Hp} (sF : Same F F') : ∀ {vs : List (NestedKey × Addr × V)} {kvs : List (D × Addr × List D)}, DlOk K F H vs kvs → (∀ b, b ∈ (kvs.map fun p => p.2.1) → F' b = H b) → RpN K F' vs (kvs.map fun p => (p.1, .lst p.2.2))
  | _, _, .nil, _ => .nil
  | _, _, .cons q h g r t, e => .cons q (h.mono sF) (.lst ((e _ List.mem_cons_self).trans g) (r.mono sF)) (DlOk.bare sF t fun b m => e b (List.mem_cons_of_mem _ m))
open Classical in
theorem Rep.bareX {σ : St} {env : DEnv} (R : Rep K B F H σ env) : ∃ F', Same F F' ∧ (∀ b o, F' b = some o → F b = Option.none → ∃ (i : Nat) (c : Cell), env[i]? = some c ∧ b ∈ foot σ[i]? c ∧ H b = some o) ∧ Rep K (bareB B F' H) F' H σ (env.map bareCell) := by
  let own : Addr → Prop := fun b => ∃ (i : Nat) (c : Cell), env[i]? = some c ∧ b ∈ foot σ[i]? c
  let F' : Hp := fun b => if own b then H b else F b
  have sF : Same F F' := fun b o h => by
    show (if own b then H b else F b) = some o
    split
    · exact R.sub _ _ h
    · exact h
  refine ⟨F', sF, fun b o h n => ?_, ?_⟩
  · have h : (if own b then H b else F b) = some o := h
    by_cases q : own b
    · rw [if_pos q] at h
      obtain ⟨i, c, e, m⟩ := q
      exact ⟨i, c, e, m, h⟩
    · rw [if_neg q, n] at h; cases h
  exact {
    len := by rw [List.length_map]; exact R.len
    sub := fun b o h => by
      have h : (if own b then H b else F b) = some o := h
      split at h
      · exact h
      · exact R.sub _ _ h
    fix := fun b o h _ => h
    gro := Same.refl _
    new := fun b h n => absurd h n
    mf := fun b h => h.elim
    mh := fun b h => h.elim
    m0 := fun b h => h.elim
    pin := fun b o h => by cases h
    mp := fun b h => h.elim
    pf := fun b o h => by cases h
    cells := fun i c h => by
      rw [List.getElem?_map] at h
      cases z : env[i]? with
      | none => rw [z] at h; cases h
      | some c0 =>
        rw [z] at h
        cases h
        have hc := R.cells i c0 z
        cases c0 with
        | none => trivial
        | val d => obtain ⟨v, h1, h2⟩ := hc; exact ⟨v, h1, h2.mono sF⟩
        | opq fr φ => trivial
        | own fr o =>
          obtain ⟨a, s, oc, _⟩ := hc
          have fb : ∀ b, b ∈ a :: o.subs → F' b = H b := fun b m => if_pos ⟨i, _, z, by rw [s]; exact m⟩
          have fa := fb a List.mem_cons_self
          refine ⟨_, s, ?_⟩
          cases o with
          | lst xs => obtain ⟨vs, h1, h2⟩ := oc; exact .lst (fa.trans h1) (h2.mono sF)
          | dct xs => obtain ⟨vs, h1, h2⟩ := oc; exact .dct (fa.trans h1) (h2.mono sF)
          | dcn xs => obtain ⟨vs, ⟨o, h1⟩, h2⟩ := oc; exact .dcn (fa.trans h1) (h2.mono sF)
          | dl kvs => obtain ⟨vs, ⟨o, h1⟩, h2⟩ := oc; exact .dcn (fa.trans h1) (h2.bare sF fun b m => fb b (List.mem_cons_of_mem _ m))
          | obj n fs => obtain ⟨C, dx, vs, h0, h1, h2⟩ := oc; exact .ins h0 (fa.trans h1) (h2.bare sF fun b m => fb b (List.mem_cons_of_mem _ m))
          | exn n a' => obtain ⟨h0, _⟩ := oc; subst h0; exact .atm _
          | tl pre b xs => obtain ⟨vs, ws, h1, h2, h3, h4⟩ := oc; exact .tup (.inl (.inl (fa.trans h1))) ((h2.mono sF).append (.one (.lst ((fb b (List.mem_cons_of_mem _ List.mem_cons_self)).trans h3) (h4.mono sF))))
    dis := fun i j a c c' h _ w => by
      rw [List.getElem?_map] at h
      cases z : env[i]? with
      | none => rw [z] at h; cases h
      | some c0 =>
        rw [z] at h
        cases h
        have w := foot_isOwn w
        cases c0 <;> cases w }
theorem Rep.bare {σ : St} {env : DEnv} (R : Rep K B F H σ env) : ∃ F', Same F F' ∧ Rep K (bareB B F' H) F' H σ (env.map bareCell) := by
  obtain ⟨F', h1, _, h2⟩ := R.bareX
  exact ⟨F', h1, h2⟩
def canB (K : KW) (t : TD) : TE := fun σ H Q' => ∃ (B : Bd) (F : Hp) (env : DEnv) (Q : DK), Rep K B F H σ env ∧ t env Q ∧
  ∀ d env' v F' H', Q d env' → Same F F' → Rep K B F' H' σ env' → Rp K F' v d → Q' v H'
theorem pe_canB (he : ∀ B, DE X B e te) : PE X e (canB X.kw te) :=
  ⟨fun pins s σ H Q I ⟨B, F, env, Qd, R, ht, k⟩ => by
    obtain ⟨ts, p, h⟩ := (he B).ex
    exact p.run pins s σ H Q I (h F H σ env Qd Q R ht k)⟩
@[simp] def qBor (te : TD) : TD := fun env Q => bareC env fun env' => te env' fun d _ => scalD (fun d => Q d env) d
theorem de_bor (he : ∀ B, DE X B e te) : DE X B e (qBor te) := by
  refine ⟨_, pe_canB he, fun F H σ env Q Q' R ht k => ?_⟩
  obtain ⟨F', sF, R'⟩ := R.bare
  refine ⟨_, F', _, _, R', bareC_of ht, fun d env1 v F1 H1 q s1 R1 r1 => ?_⟩
  obtain ⟨q, r⟩ := scal_rp (F' := F) q r1
  have sH : Same H H1 := fun b o h => R1.fix b o h fun x => x
  exact k d env v F H1 q (Same.refl _) (R.grow (Same.refl _) sH (R.sub.trans sH) fun b h n => absurd h n) r
end
end L2.DL

namespace L2.DL
open PySem PySem.Spec PyProof.Rows

/-! ### rows of numbers, one by one -/
theorem rgD_nil (lo : Int) : rgD lo 0 = [] := rfl
theorem rgD_cons (lo : Int) (n : Nat) : rgD lo (n + 1) = .int lo :: rgD (lo + 1) n := by
  unfold rgD
  rw [List.range_succ_eq_map, List.map_cons, List.map_map]
  congr 1
  · simp
  · apply List.map_congr_left
    intro i _
    show D.int (lo + ((i + 1 : Nat) : Int)) = D.int (lo + 1 + (i : Int))
    congr 1
    omega
/-! ### a key is put into a dict -/
theorem getK_nil (κ : Key) : getK [] κ = none := rfl
theorem getK_cons (k κ : Key) (d : D) (r : List (Key × D)) : getK ((k, d) :: r) κ = if k = κ then some d else getK r κ := by
  unfold getK
  rw [List.find?_cons]
  by_cases q : k = κ
  · simp [q]
  · simp [q]
theorem getK_append (κ : Key) : ∀ (xs ys : List (Key × D)), getK (xs ++ ys) κ = (getK xs κ).or (getK ys κ)
  | [], ys => rfl
  | (k, d) :: xs, ys => by
    rw [List.cons_append, getK_cons, getK_cons, getK_append κ xs ys]
    by_cases q : k = κ
    · simp [q]
    · simp [q]
theorem getK_map (k κ : Key) (v : D) : ∀ xs : List (Key × D), getK (xs.map fun kv => if kv.1 = k then (kv.1, v) else kv) κ = if k = κ then (if (xs.any fun kv => decide (kv.1 = k)) = true then some v else none) else getK xs κ
  | [] => by by_cases q : k = κ <;> simp [q, getK_nil]
  | (a, d) :: xs => by
    have ih := getK_map k κ v xs
    rw [List.map_cons, List.any_cons]
    by_cases q : k = κ
    · subst q
      by_cases p : a = k
      · subst p; simp [getK_cons]
      · simp only [p, if_false, getK_cons, if_true]
        rw [ih, if_pos rfl, decide_eq_false (show ¬ False from fun h => h), Bool.false_or]
    · by_cases p : a = k
      · subst p
        simp only [if_true, getK_cons, q, if_false]
        rw [ih, if_neg q]
      · simp only [p, if_false, getK_cons]
        rw [ih, if_neg q, if_neg q]
theorem getK_put (kvs : List (Key × D)) (k κ : Key) (v : D) : getK (putD kvs k v) κ = if k = κ then some v else getK kvs κ := by
  unfold putD
  by_cases p : (kvs.any fun kv => decide (kv.1 = k)) = true
  · rw [if_pos p, getK_map]
    by_cases q : k = κ
    · rw [if_pos q, if_pos q, if_pos p]
    · rw [if_neg q, if_neg q]
  · rw [if_neg p, getK_append, getK_cons, getK_nil]
    by_cases q : k = κ
    · subst q
      rw [if_pos rfl]
      have : getK kvs k = none := by
        unfold getK
        rw [Option.map_eq_none_iff, List.find?_eq_none]
        intro x hx hk
        exact p (List.any_eq_true.mpr ⟨x, hx, hk⟩)
      rw [this, if_pos rfl]; rfl
    · rw [if_neg q, if_neg q]
      cases getK kvs κ <;> rfl
theorem len_put (kvs : List (Key × D)) (k : Key) (v : D) : (putD kvs k v).length ≤ kvs.length + 1 := by
  unfold putD
  split
  · rw [List.length_map]; omega
  · rw [List.length_append]; exact Nat.le_refl _
/-! ### texts among texts -/
theorem any_str {ks : List Str} {κ : Str} : ((ks.map D.str).any fun y => eqF y (.str κ)) = ks.contains κ := by
  induction ks with
  | nil => rfl
  | cons k r ih =>
    rw [List.map_cons, List.any_cons, ih, List.contains_cons]
    have : eqF (.str k) (.str κ) = (κ == k) := by
      show (k == κ) = (κ == k)
      rw [Bool.eq_iff_iff, beq_iff_eq, beq_iff_eq]
      exact ⟨Eq.symm, Eq.symm⟩
    rw [this]
theorem flat_strs : ∀ ks : List Str, (ks.map D.str).all flatD = true
  | [] => rfl
  | k :: r => flat_strs r
theorem flat_bl : ∀ bs : List Bool, (bs.map D.bl).all flatD = true
  | [] => rfl
  | b :: bs => flat_bl bs
/-- False not in a row of truths -/
theorem no_false : ∀ bs : List Bool, (!((bs.map D.bl).any fun d => eqF d (.bl false))) = bs.all id
  | [] => rfl
  | b :: bs => by
    have ih := no_false bs
    cases b
    · rfl
    · exact ih
end L2.DL

namespace L2.DL
open PySem PySem.Spec PyProof.Rows

/-! ### x == [], x != [] -/
section
variable {prog : Program} {w : World}
open PySem.SeqAt in
theorem lstEqIn (p q : Addr) (us ws : Array Value) (k m : Nat) (dp dq : Option Addr) (zp zq : Array (Option Value)) (hz : (us.size != ws.size) = true) :
    MeetsIn prog w (Builtin.«list.__eq__» ⟨[.ref p, .ref q], []⟩)
      (fun A R s => s.heap.get? p = some { cls := .type "list", dict := dp, data := .seq us k, slots := zp } ∧ s.heap.get? q = some { cls := .type "list", dict := dq, data := .seq ws m, slots := zq } ∧ R (.ok (.ret (.bool false))) s) := by
  intro A R s h
  obtain ⟨hp, g, d, tk, os⟩ := s
  obtain ⟨kl, kr, kR⟩ := h
  have f3 := AutoSeq1.sub_list_list
  wp_walk using AutoSeq1.wpAny_loadPart' kl, AutoSeq1.wpAny_loadPart' kr
  exact kR
open PySem.SeqAt in
theorem lstNeIn (p q : Addr) (us ws : Array Value) (k m : Nat) (dp dq : Option Addr) (zp zq : Array (Option Value)) (hz : (us.size != ws.size) = true) :
    MeetsIn prog w (Builtin.«list.__ne__» ⟨[.ref p, .ref q], []⟩)
      (fun A R s => s.heap.get? p = some { cls := .type "list", dict := dp, data := .seq us k, slots := zp } ∧ s.heap.get? q = some { cls := .type "list", dict := dq, data := .seq ws m, slots := zq } ∧ R (.ok (.ret (.bool true))) s) := by
  intro A R s h
  obtain ⟨hp, g, d, tk, os⟩ := s
  obtain ⟨kl, kr, kR⟩ := h
  have f3 := AutoSeq1.sub_list_list
  wp_walk using AutoSeq1.wpAny_loadPart' kl, AutoSeq1.wpAny_loadPart' kr
  exact kR
open PySem.SeqAt in
theorem lstNeLoop (p q : Addr) (us ws : Array Value) (k m : Nat) (dp dq : Option Addr) (zp zq : Array (Option Value)) (hu : us.size = 0) (hw : ws.size = 0) :
    MeetsIn prog w (Builtin.«list.__eq__.loop» ⟨[.ref p, .ref q, rawInt 0, rawInt 3], []⟩)
      (fun A R s => s.heap.get? p = some { cls := .type "list", dict := dp, data := .seq us k, slots := zp } ∧ s.heap.get? q = some { cls := .type "list", dict := dq, data := .seq ws m, slots := zq } ∧ R (.ok (.ret (.bool false))) s) := by
  intro A R s h
  obtain ⟨hp, g, d, tk, os⟩ := s
  obtain ⟨kl, kr, kR⟩ := h
  have e1 : us[(0 : Int).toNat]? = none := by simp [hu]
  have e2 : ws[(0 : Int).toNat]? = none := by simp [hw]
  wp_walk using AutoSeq1.wpAny_loadPart' kl, AutoSeq1.wpAny_loadPart' kr
  rw [e1, e2]
  wp_walk using AutoSeq1.wpAny_loadPart' kl, AutoSeq1.wpAny_loadPart' kr
  rw [hu, hw]
  exact kR
open PySem.SeqAt PySem.MeetsSeq PySem.MeetsSeq2 PySem.MeetsSeq3 PySem.SeqRoads2 in
theorem lstNeIn0 (p q : Addr) (us ws : Array Value) (k m : Nat) (dp dq : Option Addr) (zp zq : Array (Option Value)) (hu : us.size = 0) (hw : ws.size = 0) :
    MeetsIn prog w (Builtin.«list.__ne__» ⟨[.ref p, .ref q], []⟩)
      (fun A R s => s.heap.get? p = some { cls := .type "list", dict := dp, data := .seq us k, slots := zp } ∧ s.heap.get? q = some { cls := .type "list", dict := dq, data := .seq ws m, slots := zq } ∧ R (.ok (.ret (.bool false))) s) := by
  intro A R s h
  obtain ⟨hp, g, d, tk, os⟩ := s
  obtain ⟨kl, kr, kR⟩ := h
  have f3 := AutoSeq1.sub_list_list
  wp_walk using AutoSeq1.wpAny_loadPart' kl, AutoSeq1.wpAny_loadPart' kr
  exact ⟨plainId_quiet plain_eq_loop _, codeAny_builtin entry_eq_loop (by
    rw [Around.under_plainId plain_eq_loop _]
    exact lstNeLoop p q us ws k m dp dq zp zq hu hw A R _ ⟨kl, kr, kR⟩)⟩
theorem list_parts {s : Shared} {l : Addr} {xs : Array Value} (h : s.heap.IsList l xs) : ∃ dd n sl, s.heap.get? l = some { cls := .type "list", dict := dd, data := .seq xs n, slots := sl } := by
  obtain ⟨⟨cls, dd, data, sl⟩, ho, hc, n, hd⟩ := id h
  simp only at hc hd
  subst hc hd
  exact ⟨_, _, _, ho⟩
theorem nilEqP {A : Around} {s : Shared} {p q : Addr} {us ws : Array Value} (kl : s.heap.IsList p us) (kr : s.heap.IsList q ws) (hw : ws.size = 0) (hu : A.units < cLine) (E Q : Value → Shared → Prop) (h : Q (.bool (us.size == 0)) s) :
    wpAny (model prog w) A (richCompare .Eq (.ref p) (.ref q)) Q E s := by
  by_cases z : us.size = 0
  · refine SeqAt.rcP_lists (e := fun _ => true) kl kr (z.trans hw.symm) hu (fun j h1 => absurd h1 (by omega)) E Q ?_
    rw [z] at h ⊢
    exact h
  · obtain ⟨d1, n1, z1, o1⟩ := list_parts kl
    obtain ⟨d2, n2, z2, o2⟩ := list_parts kr
    have e : (us.size == 0) = false := by simpa using z
    rw [e] at h
    exact wpAny_richCompare_same_room (op := .Eq) ⟨_, o1, rfl⟩ ⟨_, o2, rfl⟩ PySem.F.slot_list_eq (call_meetsIn PySem.F.slot_list_eq ⟨_, o1, rfl⟩ PySem.F.entry_list_eq (PySem.F.args_list_eq_2 _ _) (lstEqIn p q us ws n1 n2 d1 d2 z1 z2 (by rw [hw]; simpa using z))
      ⟨o1, o2, show Value.bool false ≠ Value.notImplemented ∧ Q (.bool false) s from ⟨(fun x => nomatch x), h⟩⟩) hu
theorem nilNeP {A : Around} {s : Shared} {p q : Addr} {us ws : Array Value} (kl : s.heap.IsList p us) (kr : s.heap.IsList q ws) (hw : ws.size = 0) (hu : A.units < cLine) (E Q : Value → Shared → Prop) (h : Q (.bool (!(us.size == 0))) s) :
    wpAny (model prog w) A (richCompare .NotEq (.ref p) (.ref q)) Q E s := by
  obtain ⟨d1, n1, z1, o1⟩ := list_parts kl
  obtain ⟨d2, n2, z2, o2⟩ := list_parts kr
  by_cases z : us.size = 0
  · have e : (us.size == 0) = true := by simpa using z
    rw [e] at h
    exact wpAny_richCompare_same_room (op := .NotEq) ⟨_, o1, rfl⟩ ⟨_, o2, rfl⟩ PySem.F.slot_list_ne (call_meetsIn PySem.F.slot_list_ne ⟨_, o1, rfl⟩ PySem.F.entry_list_ne (PySem.F.args_list_ne_2 _ _) (lstNeIn0 p q us ws n1 n2 d1 d2 z1 z2 z hw)
      ⟨o1, o2, show Value.bool false ≠ Value.notImplemented ∧ Q (.bool false) s from ⟨(fun x => nomatch x), h⟩⟩) hu
  · have e : (us.size == 0) = false := by simpa using z
    rw [e] at h
    exact wpAny_richCompare_same_room (op := .NotEq) ⟨_, o1, rfl⟩ ⟨_, o2, rfl⟩ PySem.F.slot_list_ne (call_meetsIn PySem.F.slot_list_ne ⟨_, o1, rfl⟩ PySem.F.entry_list_ne (PySem.F.args_list_ne_2 _ _) (lstNeIn p q us ws n1 n2 d1 d2 z1 z2 (by rw [hw]; simpa using z))
      ⟨o1, o2, show Value.bool true ≠ Value.notImplemented ∧ Q (.bool true) s from ⟨(fun x => nomatch x), h⟩⟩) hu
end
section
variable {X : Cx}
def rIsNil (K : KW) : R2 := fun x y H Q => ∃ a b xs, x = .ref a ∧ y = .ref b ∧ SqL K H a xs ∧ SqL K H b [] ∧ Q (.bl xs.isEmpty) H
def rNotNil (K : KW) : R2 := fun x y H Q => ∃ a b xs, x = .ref a ∧ y = .ref b ∧ SqL K H a xs ∧ SqL K H b [] ∧ Q (.bl (!xs.isEmpty)) H
theorem op_nil (hu : X.A.units < cLine) : OpR X (compareOp .Eq) (rIsNil X.kw) := by
  intro pins s σ H x y v u Q I rx ry h
  obtain ⟨a, b, xs, rfl, rfl, ha, hb, q⟩ := h
  cases rx
  cases ry
  obtain ⟨its, rv, pl, _⟩ := I.list ha
  obtain ⟨its2, rv2, pl2, _⟩ := I.list hb
  have l2 := rv2.length
  refine nilEqP pl.isList pl2.isList (by rw [List.size_toArray, ← l2]; rfl) hu _ _ ⟨.bl xs.isEmpty, H, I, ?_, q⟩
  have l1 := rv.length
  show Value.bool _ = Value.bool _
  rw [List.size_toArray, ← l1]
  cases xs <;> rfl
theorem op_notNil (hu : X.A.units < cLine) : OpR X (compareOp .NotEq) (rNotNil X.kw) := by
  intro pins s σ H x y v u Q I rx ry h
  obtain ⟨a, b, xs, rfl, rfl, ha, hb, q⟩ := h
  cases rx
  cases ry
  obtain ⟨its, rv, pl, _⟩ := I.list ha
  obtain ⟨its2, rv2, pl2, _⟩ := I.list hb
  have l2 := rv2.length
  refine nilNeP pl.isList pl2.isList (by rw [List.size_toArray, ← l2]; rfl) hu _ _ ⟨.bl (!xs.isEmpty), H, I, ?_, q⟩
  have l1 := rv.length
  show Value.bool _ = Value.bool _
  rw [List.size_toArray, ← l1]
  cases xs <;> rfl
@[simp] def eqNil : S2 := fun d e Q => match d, e with
  | .lst xs, .lst [] => Q (.bl xs.isEmpty)
  | _, _ => False
@[simp] def neNil : S2 := fun d e Q => match d, e with
  | .lst xs, .lst [] => Q (.bl (!xs.isEmpty))
  | _, _ => False
theorem rpa_empty {K : KW} {F : Hp} {vs : List V} {ds : List D} (r : RpA K F vs ds) : vs.isEmpty = ds.isEmpty := by cases r <;> rfl
theorem o_eqNil (hu : X.A.units + 64 < cLine) : DOp X (compareOp .Eq) eqNil := by
  refine ⟨_, op_nil (by omega), fun F H x y d e Q Q' s rx ry h k => ?_⟩
  cases rx with
  | lst h1 r1 =>
    cases ry with
    | @lst b ws es h2 r2 =>
      cases es with
      | nil =>
        cases r2
        exact ⟨_, _, _, rfl, rfl, .of (s _ _ h1), .of (s _ _ h2), by rw [rpa_empty r1]; exact k _ _ F H h .nil (.bl _)⟩
      | cons _ _ => exact h.elim
    | _ => exact h.elim
  | _ => exact h.elim
theorem o_neNil (hu : X.A.units + 64 < cLine) : DOp X (compareOp .NotEq) neNil := by
  refine ⟨_, op_notNil (by omega), fun F H x y d e Q Q' s rx ry h k => ?_⟩
  cases rx with
  | lst h1 r1 =>
    cases ry with
    | @lst b ws es h2 r2 =>
      cases es with
      | nil =>
        cases r2
        exact ⟨_, _, _, rfl, rfl, .of (s _ _ h1), .of (s _ _ h2), by rw [rpa_empty r1]; exact k _ _ F H h .nil (.bl _)⟩
      | cons _ _ => exact h.elim
    | _ => exact h.elim
  | _ => exact h.elim
end
/-- a pen of two numbers: what is left of a cell; or what is mixed, and how often -/
def PenQ : OC → Prop := fun c => ∃ i j : Int, c = .lst [.int i, .int j] ∧ 0 ≤ j ∧ (j = 0 ∨ (0 ≤ i ∧ i < 2147483648))
end L2.DL

namespace PySem.W
variable {prog : Program} {w : World} {K : Type} [DecidableEq K] {knd : KeyKind prog w K} {A : Around} {E : Value → Shared → Prop} {s : Shared}
theorem rcP_dictsNe {a b : Addr} {ka kb : List (K × Value)} {r : Bool} (ha : (a == sysModules) = false) (hb : (b == sysModules) = false)
    (da : s.heap.DictOf knd a ka) (db : s.heap.DictOf knd b kb) (hu : A.units < cLine) (hits : ka.length = kb.length → KeqHitsP prog w A.in1 s kb ka r) (E Q : Value → Shared → Prop) (h : Q (.bool (!(ka.length == kb.length && r))) s) : wpAny (model prog w) A (richCompare .NotEq (.ref a) (.ref b)) Q E s := by
  have ty := db.typeIs
  refine wpAny_richCompare_same_room (op := .NotEq) da.typeIs ty PySem.F.slot_dict_ne (wpAny_call_entry PySem.F.slot_dict_ne da.typeIs PySem.F.entry_dict_ne ?_ (PySem.F.args_dict_ne_2 _ _)) hu
  show wpAny _ _ (Builtin.Dict.dictSlotArgs "__ne__" ⟨[.ref a, .ref b], []⟩ >>= _) _ _ s
  apply wpAny_bind
  unfold Builtin.Dict.dictSlotArgs
  apply wpAny_bind
  apply wpAny_notOrdered_dict da.typeIs
  show wpAny _ _ (pure (Value.ref a, Value.ref b)) _ _ s
  apply wpAny_pure
  refine wpAny_bind (wpAny_isInstance (T := "dict") ty PySem.F.sub_dict_dict ?_)
  simp only [Bool.not_true, Bool.false_eq_true, if_false]
  apply wpAny_bind; apply wpAny_pure; apply wpAny_bind; apply wpAny_pure
  apply wpAny_bind; apply samePairsP ha hb da db hits
  exact wpAny_pure ⟨_, rfl, fun x => (nomatch x), by simpa using h⟩
end PySem.W
namespace L2.DL
open PySem PySem.Spec PyProof.Rows
/-! ### != of two dicts of the same data -/
section
variable {X : Cx}
def rTwoNeK (K : KW) : R2 := fun x y H Q => ∃ F n kvs, n ≤ 60 ∧ Same F H ∧ Sm n (.dct kvs) ∧ Rp K F x (.dct kvs) ∧ Rp K F y (.dct kvs) ∧ Q (.bl false) H
theorem op_twoNeK (hu : X.A.units + 64 < cLine) : OpR X (compareOp .NotEq) (rTwoNeK X.kw) := by
  intro pins s σ H x y v u Q I rx ry h
  obtain ⟨F, n, kvs, hn, sF, hd, r1, r2, q⟩ := h
  cases hd with
  | @dct m _ nd hs =>
    cases r1 with
    | dct h1 ra =>
      cases r2 with
      | dct h2 rb =>
        cases rx
        cases ry
        obtain ⟨l, _, hp⟩ := two_val nd hs ra rb
        obtain ⟨_, ya, va, ka, da⟩ := (show ObjOk X.prog X.w H s.heap _ (.dK _) from I.hok _ _ (sF _ _ h1))
        obtain ⟨_, yb, vb, kb, db⟩ := (show ObjOk X.prog X.w H s.heap _ (.dK _) from I.hok _ _ (sF _ _ h2))
        refine PySem.W.rcP_dictsNe (knd := mixKind X.prog X.w) (r := true) ya yb da db (by omega) (fun _ => hits_run (two_run I sF m X.A.in1 (by show X.A.units + 1 + m < cLine; omega)) kb ka hp) _ _ ?_
        have e : va.length = vb.length := by rw [← ka.length, ← kb.length]; exact l
        rw [show (!(va.length == vb.length && true)) = false from by rw [e]; simp]
        exact ⟨.bl false, H, I, rfl, q⟩
@[simp] def neDct : S2 := fun d e Q => match d, e with
  | .dct a, .dct b => a = b ∧ (∃ n, n ≤ 60 ∧ Sm n (.dct a)) ∧ Q (.bl false)
  | _, _ => False
theorem o_neDct (hu : X.A.units + 64 < cLine) : DOp X (compareOp .NotEq) neDct := by
  refine ⟨_, op_twoNeK hu, fun F H x y d e Q Q' s rx ry h k => ?_⟩
  cases d with
  | dct a =>
    cases e with
    | dct b =>
      obtain ⟨rfl, ⟨n, hn, hd⟩, h⟩ := h
      exact ⟨F, n, a, hn, s, hd, rx, ry, k _ _ F H h .nil (.bl _)⟩
    | _ => exact h.elim
  | _ => exact h.elim
end
end L2.DL

namespace L2.DL
open PySem PySem.Spec PyProof.Rows

/-! ### len(set(x)) of texts all unlike: how many they are -/
section
variable {pg : Program} {wd : World} {Ar : Around} {Rz : Result → Shared → Prop} {It : Addr} {fpr wrt : List Addr} {Gn : Array GenState → Array GenState → Prop} {num : Nat} {Pz : Nat → Value → Prop} {Sz : Nat → Shared → Prop}
/-- how many of the first texts are unlike -/
def uqAt (ts : List Str) : Nat → Nat
  | 0 => 0
  | n + 1 => if decide (ts.getD n Str.empty ∈ ts.take n) = true then uqAt ts n else uqAt ts n + 1
/-- how many unlike texts -/
def uq (ts : List Str) : Nat := uqAt ts ts.length
theorem uqAt_le (ts : List Str) : ∀ n, uqAt ts n ≤ n
  | 0 => Nat.le_refl _
  | n + 1 => by
    rw [uqAt]
    have := uqAt_le ts n
    split <;> omega
theorem uqAt_nd {ts : List Str} (nd : ts.Nodup) : ∀ n, n ≤ ts.length → uqAt ts n = n
  | 0, _ => rfl
  | n + 1, l => by
    have gx : ts.getD n Str.empty = ts[n] := by rw [List.getD_eq_getElem?_getD, List.getElem?_eq_getElem l]; rfl
    have nin : ¬ ts[n] ∈ ts.take n := fun m => by
      obtain ⟨j, hj, e⟩ := List.getElem_of_mem m
      rw [List.length_take] at hj
      rw [List.getElem_take] at e
      exact (List.pairwise_iff_getElem.mp nd) j n (by omega) l (by omega) e
    rw [uqAt, gx, if_neg (by rw [decide_eq_false nin]; decide), uqAt_nd nd n (by omega)]
theorem uq_nd {ts : List Str} (nd : ts.Nodup) : uq ts = ts.length := uqAt_nd nd _ (Nat.le_refl _)
/-- a set of texts stays as the heap around it moves -/
theorem setOf_stay {h h' : Heap} {a : Addr} {f : Str → Bool} {m : Nat} (x : h.SetOf (PySem.strKind pg wd) a f m) (k : ∀ o, h.get? a = some o → h'.get? a = some o) : h'.SetOf (PySem.strKind pg wd) a f m := by
  obtain ⟨o, es, ep, tb, ho, r⟩ := x
  exact ⟨o, es, ep, tb, k _ ho, r⟩
theorem texts_in (Wk : WalksS pg wd Ar.in1 It fpr wrt Gn num Pz Sz) (at0 : Addr) (free : at0 ∉ fpr) (ts : List Str) (len : ts.length = num) (room : num + 1 < scanBound)
    (read : ∀ i v, Pz i v → ∃ tk, v = .str (ts.getD i Str.empty) tk) :
    ∀ (left done : Nat) (sh : Shared), done + left = num → Sz done sh → sh.heap.SetOf (PySem.strKind pg wd) at0 (fun y => decide (y ∈ ts.take done)) (uqAt ts done) →
      (∀ sh', Moved (at0 :: wrt) Gn sh sh' → sh'.heap.SetOf (PySem.strKind pg wd) at0 (fun y => decide (y ∈ ts)) (uqAt ts num) → Rz (.ok (.ret .none)) sh') →
      codeAny (model pg wd) Ar (.builtin "set.update.loop" ⟨[.ref at0, .ref It], []⟩) Rz sh := by
  have off : at0 ∉ wrt := fun h => free (Wk.sub _ h)
  have more : ∀ b ∈ wrt, b ∈ at0 :: wrt := fun b hb => List.mem_cons_of_mem _ hb
  intro left
  induction left with
  | zero =>
    intro done sh sum st set fin
    obtain rfl : done = num := by omega
    rw [show ts.take done = ts from List.take_of_length_le (by omega)] at set
    refine codeAny_builtin PyProof.Rows.F.entry_set_update_loop ?_
    rw [Around.under_plainId PyProof.Rows.F.plain_set_update_loop _]
    show wpAny _ Ar.in1 (pyNext (.ref It) >>= _) _ _ sh
    refine wpAny_bind (Wk.done sh _ _ st fun sh' mv => ?_)
    exact wpAny_pure (fin sh' (mv.mono more) (setOf_stay set fun o e => mv.heap at0 o off e))
  | succ left ih =>
    intro done sh sum st set fin
    have lt : done < num := by omega
    refine codeAny_builtin PyProof.Rows.F.entry_set_update_loop ?_
    rw [Around.under_plainId PyProof.Rows.F.plain_set_update_loop _]
    show wpAny _ Ar.in1 (pyNext (.ref It) >>= _) _ _ sh
    refine wpAny_bind (Wk.item done sh _ _ lt st fun v sh' pv st' mv => ?_)
    obtain ⟨tk, rfl⟩ := read done v pv
    have lt2 : done < ts.length := by omega
    have gx : ts.getD done Str.empty = ts[done] := by rw [List.getD_eq_getElem?_getD, List.getElem?_eq_getElem lt2]; rfl
    rw [gx]
    have set' := setOf_stay set fun o e => mv.heap at0 o off e
    show wpAny _ Ar.in1 (holding [Value.str ts[done] tk] (setAdd at0 (.str ts[done] tk)) >>= _) _ _ sh'
    refine wpAny_bind (wpAny_holding ?_)
    unfold setAdd
    refine wpAny_holding (wpAny_bind ((PySem.strKind pg wd).pyHash (k := ts[done]) (strKind_is _ _ _ _) ?_))
    refine wpAny_setAddHashed_of (knd := PySem.strKind pg wd) (s := { sh' with toks := sh'.toks + 1 }) (strKind_is _ _ _ _) rfl set' (by have := uqAt_le ts done; omega) fun hp sb set2 => ?_
    have set3 : hp.SetOf (PySem.strKind pg wd) at0 (fun y => decide (y ∈ ts.take (done + 1))) (uqAt ts (done + 1)) := by
      refine SetOf_congr set2 (fun y => ?_) (by rw [uqAt, gx])
      show (decide (y ∈ ts.take done) || decide (y = ts[done])) = decide (y ∈ ts.take (done + 1))
      have e : ts.take (done + 1) = ts.take done ++ [ts[done]] := by rw [List.take_add_one, List.getElem?_eq_getElem lt2]; rfl
      rw [e, Bool.eq_iff_iff, Bool.or_eq_true, decide_eq_true_eq, decide_eq_true_eq, decide_eq_true_eq, List.mem_append, List.mem_singleton]
    refine wpAny_pure ⟨plainId_quiet PyProof.Rows.F.plain_set_update_loop _, ih (done + 1) _ (by omega) (Wk.frame _ sh' _ _ st' (Nat.le_succ _) fun b hb o e => ?_) set3 fun sh2 mv2 set4 => ?_⟩
    · rw [sb.2 b (fun h : b = at0 => free (h ▸ hb))]; exact e
    · refine fin sh2 (Moved.trans Wk.gtrans ((mv.mono more).then_heap (Nat.le_succ _) fun b o hb e => ?_) mv2) set4
      rw [sb.2 b (fun h : b = at0 => hb (h ▸ List.mem_cons_self))]; exact e
end
section
variable {pg : Program} {wd : World} {Ar : Around} {Ez : Value → Shared → Prop} {sh : Shared}
/-- the object that set(..) makes first -/
abbrev newSet (led : Bool) : Obj := { cls := .type "set", dict := none, data := .set #[] 0 (.fresh 0 0 led) }
/-- what set(..) leaves -/
def Made (pg : Program) (wd : World) (sh : Shared) (ts : List Str) (h' : Heap) : Prop :=
  h'.SetOf (PySem.strKind pg wd) sh.heap.objs.size (fun y => decide (y ∈ ts)) (uq ts) ∧ ∀ b o, b < sh.heap.objs.size → sh.heap.get? b = some o → h'.get? b = some o
set_option maxHeartbeats 3200000 in
theorem set_init {la : Addr} {vs : Array Value} {ts : List Str} (led : Bool) (hh : Ar.handled = none) (hl : sh.heap.IsList la vs) (hi : StrsAre vs.toList ts) (room : ts.length + 1 < scanBound) (Qz : PySem.Fin → Shared → Prop)
    (fin : ∀ h' tk, Made pg wd sh ts h' → Qz (.done (.ret .none)) { sh with heap := h', toks := tk }) :
    wpAny (model pg wd) Ar.in1 (Builtin.«set.__init__» ⟨[.ref sh.heap.objs.size, .ref la], []⟩) Qz Ez { sh with heap := sh.heap.push (newSet led) } := by
  obtain ⟨⟨c0, d0, t0, z0⟩, ho, hc, n0, hd⟩ := hl
  simp only at hc hd
  subst hc hd
  have hget : (sh.heap.push (newSet led)).get? sh.heap.objs.size = some (newSet led) := Heap.get?_push_size _ rfl
  have ho' := Heap.get?_push_of_some (newSet led) ho
  have isl : (sh.heap.push (newSet led)).IsList la vs := ⟨_, ho', rfl, n0, rfl⟩
  have nset := PySem.F.sub_list_set
  have nfro := PySem.F.sub_list_frozenset
  have ndct : (Value.type "list" == Value.type "dict") = false := by decide
  unfold Builtin.«set.__init__» noKeywords Builtin.Frozenset.updateFrom
  generalize hg : pyIter = go
  wp_walk
  subst hg
  have lt0 : la < sh.heap.objs.size := Heap.lt_size ho
  have size2 : (sh.heap.push (newSet led)).objs.size = sh.heap.objs.size + 1 := Heap.size_push ..
  have apart : sh.heap.objs.size ∉ [(sh.heap.push (newSet led)).objs.size, la] := by
    rw [size2]
    intro m
    rcases List.mem_cons.mp m with e | m
    · exact absurd e (Nat.ne_of_lt (Nat.lt_succ_self _))
    · exact absurd (List.mem_singleton.mp m) (Nat.ne_of_gt lt0)
  have lens : ts.length = vs.size := by rw [← StrsAre.len_eq hi, Array.length_toList]
  refine wpAny_pyIter_list isl (wpAny_bind (wpAny_runValue ?_))
  refine texts_in ((Walks.list (by simp [hh]) _ la (by rw [size2]; exact Nat.ne_of_lt (Nat.lt_succ_of_lt lt0)) vs).toS) sh.heap.objs.size apart ts lens (by omega)
    (fun i v hv => SS.strs_at hi i v (by rw [Array.getElem?_toList]; exact hv)) vs.size 0 _ (Nat.zero_add _) ⟨⟨_, Heap.get?_push_size _ rfl, rfl, rfl⟩, isl.push _⟩ ?_ fun sh' mv st => ?_
  · refine SetOf_congr ((setObjOf_fresh (knd := PySem.strKind pg wd) led).setOf (Heap.get?_push_of_some _ hget) (by unfold scanBound; omega)) (fun _ => rfl) rfl
  · obtain ⟨h', g', d', tk', os'⟩ := sh'
    have e1 : g' = sh.gens := mv.gens
    have e2 : d' = sh.drawn := mv.drawn
    have e3 : os' = sh.os := mv.os
    subst e1 e2 e3
    show wpAny _ _ (pure ()) _ _ _
    refine wpAny_pure (wpAny_pure ?_)
    refine fin h' tk' ⟨by rw [uq, lens]; exact st, fun b o hb e => mv.heap b o (fun m => ?_) (Heap.get?_push_of_some _ (Heap.get?_push_of_some _ e))⟩
    rcases List.mem_cons.mp m with e | m
    · exact absurd e (Nat.ne_of_lt hb)
    · have := List.mem_singleton.mp m
      rw [size2] at this
      exact absurd this (Nat.ne_of_lt (Nat.lt_succ_of_lt hb))
set_option maxHeartbeats 3200000 in
theorem set_made {la : Addr} {vs : Array Value} {ts : List Str} (hh : Ar.handled = none) (hl : sh.heap.IsList la vs) (hi : StrsAre vs.toList ts) (room : ts.length + 1 < scanBound) (Qz : Value → Shared → Prop)
    (fin : ∀ h' tk, Made pg wd sh ts h' → Qz (.ref sh.heap.objs.size) { sh with heap := h', toks := tk }) :
    wpAny (model pg wd) Ar (call (.type "set") [.ref la]) Qz Ez sh := by
  obtain ⟨c, tl, mro⟩ := PySem.F.called_set.mro
  have made := PySem.F.called_set.made
  have sub := PySem.F.called_set.sub
  have k1 := PySem.F.called_set.notType
  have k2 := PySem.F.called_set.canCreate
  have k3 := PySem.F.typeCall_set_1 (.ref la)
  apply wpAny_call
  apply codeAny_of_tree
  show wpAny _ _ (callAny (.type "set") _) _ _ _
  refine wpAny_pure ⟨Code.quiet_builtin _ (by decide +kernel), ?_⟩
  apply codeAny_builtin PySem.F.entry_type_call
  rw [Around.under_plain (weight_type_call_type "set" [.ref la] []) rfl]
  repeat (any_goals (first | assumption | wp_step))
  refine codeAny_mono (code_set_new_1 (.ref la) (E := Ez) (Q₁ := fun ob s1 => ∃ led, ob = .ref sh.heap.objs.size ∧ s1 = { sh with heap := sh.heap.push (newSet led) }) fun led => ⟨led, rfl, rfl⟩) fun r s1 hr => ?_
  match r, hr with
  | .error e, hr => exact hr
  | .ok (.ret ob), hr =>
    obtain ⟨led, rfl, rfl⟩ := hr
    have hget : (sh.heap.push (newSet led)).get? sh.heap.objs.size = some (newSet led) := Heap.get?_push_size _ rfl
    have ty : Shared.TypeIs { sh with heap := sh.heap.push (newSet led) } (.ref sh.heap.objs.size) "set" := ⟨_, hget, rfl⟩
    have il := PySem.F.called_set.init.lookup
    have ib := PySem.F.called_set.init.bind (.ref sh.heap.objs.size)
    repeat (any_goals (first | assumption | wp_step))
    refine codeAny_mono (codeAny_call_builtin (R := wants (fun r s2 => r = .none ∧ ∃ h' tk, s2 = { sh with heap := h', toks := tk } ∧ Made pg wd sh ts h') Ez) PySem.F.called_set.init.plain PySem.F.entry_set_init
      (check_set_init_1 ty (set_init (Ar := Ar.in1) led hh hl hi room _ fun h' tk md => ⟨rfl, h', tk, rfl, md⟩))) fun r2 s2 hr2 => ?_
    match r2, hr2 with
    | .error e, hr2 => exact hr2
    | .ok (.ret x), hr2 =>
      obtain ⟨rfl, h', tk, rfl, md⟩ := hr2
      repeat (any_goals (first | assumption | wp_step))
      exact fin h' tk md
    | .ok (.next), hr2 => exact hr2.elim
  | .ok (.next), hr => exact hr.elim
end
section
variable {X : Cx} {B : Bd} {a : Expr} {ta : TD} {p p2 q pos : Pos}
def tLenSetN (K : KW) (t : TE) : TE := fun σ H Q => t σ H fun x H1 => ∃ (l : Addr) (ts : List Str), x = .ref l ∧ SqL K H1 l (ts.map V.str) ∧ ts.length < 1000 ∧ Q (.int (uq ts)) H1
theorem pe_lenSetN {t : TE} (hc : X.calm = true) (hg : Gl X "len") (hm : X.mg "len" = none) (hg2 : Gl X "set") (hm2 : X.mg "set" = none) (ha : PE X a t)
    (na : starEach [a] X.env = (false, eval a X.env) :: starEach [] X.env := by rfl) : PE X (.Call (.Name "len" p) [.Call (.Name "set" p2) [a] [] q] [] pos) (tLenSetN X.kw t) := by
  refine ⟨fun pins s σ H Q I h => Call_ (ld_blt I hg hm boot_len (callWith_builtin1 (args_cons ?_ rfl) rfl rfl))⟩
  refine Call_ (ld_blt I hg2 hm2 boot_set ?_)
  refine callWith_type1 (args_cons (thn (ha.run pins s σ H _ I h) fun v s1 ⟨x, H1, I1, r1, l, ts, e, hq, hl, q1⟩ => args_nil ?_) na) na rfl
  subst e
  cases r1
  obtain ⟨its, r, pl, hz⟩ := I1.list hq
  refine set_made (I1.ok.hd hc) pl.isList (by simpa using strsAre_of r) (by unfold scanBound; omega) _ fun h' tk md => args_nil ?_
  obtain ⟨⟨o, es, ep, tb, ho, hex, hd, _, _, _, hf, hn⟩, keep⟩ := md
  have I2 : Inv X pins σ H1 { s1 with heap := h', toks := tk } := I1.kept fun b o e => keep b o (Heap.lt_size e) e
  exact call_len_set ho hex hd hf (by rw [hn]; have := uqAt_le ts ts.length; unfold uq; omega) ⟨.int (uq ts), H1, I2.tok _, ⟨_, by rw [hn]⟩, q1⟩
/-- len(set(x)), x a list of texts all unlike -/
@[simp] def qLenSet (ta : TD) : TD := fun env Q => ta env fun d env1 => match d with
  | .lst ds => ∃ ts : List Str, ds = ts.map D.str ∧ ts.Nodup ∧ ts.length < 1000 ∧ Q (.int ts.length) env1
  | _ => False
theorem de_lenSet (hc : X.calm = true) (hg : Gl X "len") (hm : X.mg "len" = none) (hg2 : Gl X "set") (hm2 : X.mg "set" = none) (ha : DE X B a ta)
    (na : starEach [a] X.env = (false, eval a X.env) :: starEach [] X.env := by rfl) : DE X B (.Call (.Name "len" p) [.Call (.Name "set" p2) [a] [] q] [] pos) (qLenSet ta) := by
  obtain ⟨te, pe, h⟩ := ha.ex
  refine ⟨_, pe_lenSetN hc hg hm hg2 hm2 pe na, fun F H σ env Q Q' R ht k => ?_⟩
  refine h F H σ env _ _ R ht fun d env1 v F1 H1 q1 s1 R1 r1 => ?_
  cases r1 with
  | lst hd ra =>
    obtain ⟨ts, rfl, nd, hl, q1⟩ := q1
    obtain rfl := RpA.of_strs ra
    exact ⟨_, ts, rfl, .of (R1.sub _ _ hd), hl, k _ env1 _ F1 H1 (by rw [uq_nd nd]; exact q1) s1 R1 (.int _)⟩
  | _ => exact q1.elim
/-- len(set(x)), x a list of texts -/
@[simp] def qLenSetU (ta : TD) : TD := fun env Q => ta env fun d env1 => match d with
  | .lst ds => ∃ ts : List Str, ds = ts.map D.str ∧ ts.length < 1000 ∧ Q (.int (uq ts)) env1
  | _ => False
theorem de_lenSetU (hc : X.calm = true) (hg : Gl X "len") (hm : X.mg "len" = none) (hg2 : Gl X "set") (hm2 : X.mg "set" = none) (ha : DE X B a ta)
    (na : starEach [a] X.env = (false, eval a X.env) :: starEach [] X.env := by rfl) : DE X B (.Call (.Name "len" p) [.Call (.Name "set" p2) [a] [] q] [] pos) (qLenSetU ta) := by
  obtain ⟨te, pe, h⟩ := ha.ex
  refine ⟨_, pe_lenSetN hc hg hm hg2 hm2 pe na, fun F H σ env Q Q' R ht k => ?_⟩
  refine h F H σ env _ _ R ht fun d env1 v F1 H1 q1 s1 R1 r1 => ?_
  cases r1 with
  | lst hd ra =>
    obtain ⟨ts, rfl, hl, q1⟩ := q1
    obtain rfl := RpA.of_strs ra
    exact ⟨_, ts, rfl, .of (R1.sub _ _ hd), hl, k _ env1 _ F1 H1 q1 s1 R1 (.int _)⟩
  | _ => exact q1.elim
end
/-! ### text.split(sep) -/
section
variable {X : Cx} {B : Bd} {e a : Expr} {te tx : TD} {apos cpos : Pos}
@[simp] def qSplit (te tx : TD) : TD := fun env Q => te env fun d env1 => match d with
  | .str z => tx env1 fun x env2 => match x with
    | .str y => (y.length == 0) = false ∧ z.length + 2 ≤ sizeLine ∧ Q (.lst ((Txt.split z y).map D.str)) env2
    | _ => False
  | _ => False
theorem RpA.strs {K : KW} {F : Hp} : ∀ ys : List Str, RpA K F (ys.map V.str) (ys.map D.str)
  | [] => .nil
  | y :: r => .cons (.str y) (RpA.strs r)
theorem de_split (he : DE X B e te) (hx : DE X B a tx) (hs : starEach [a] X.env = [(false, eval a X.env)] := by rfl) (hbase : attributeBase e "split" X.env (eval e X.env) = eval e X.env := by rfl) (hline : (apos.endLine == cpos.line) = true := by rfl) :
    DE X B (.Call (.Attribute e "split" apos) [a] [] cpos) (qSplit te tx) := by
  obtain ⟨t1, q1, h1⟩ := he.ex
  obtain ⟨t2, q2, h2⟩ := hx.ex
  refine ⟨_, pe_m1 PySem.F.slot_str_split PySem.F.type_str_split mt_split q1 q2 hs hbase hline, fun F H σ env Q Q' R ht k => ?_⟩
  refine h1 F H σ env _ _ R ht fun d env1 v F1 H1 q s1 R1 r1 => ?_
  cases r1 with
  | str z =>
    refine ⟨⟨z, rfl⟩, ?_⟩
    refine h2 F1 H1 σ env1 _ _ R1 q fun x env2 w F2 H2 q s2 R2 r2 => ?_
    cases r2 with
    | str y =>
      obtain ⟨ny, hl, q⟩ := q
      refine ⟨z, y, rfl, rfl, ny, hl, fun p hp => ?_⟩
      exact k _ env2 _ _ _ q ((s1.trans s2).trans (same_upd (R2.freeF hp))) (R2.alloc hp) (.lst upd_same (RpA.strs _))
    | _ => exact q.elim
  | _ => exact q.elim
end
theorem valsStr : ∀ l : List (Str × Tok), Vals (l.map fun p => V.str p.1) (l.map fun p => Value.str p.1 p.2)
  | [] => .nil
  | p :: r => .cons ⟨_, rfl⟩ (valsStr r)
end L2.DL

namespace L2.DL
open PySem PySem.Spec PyProof.Rows

/-! ### a, b = x, y and a, b, c = x, y, z -/
section
variable {X : Cx} {B : Bd} {pos : Pos} {K : KW}
@[simp] def sPar (i j : Nat) (ta : TDA) : TDS := fun DD env => ta env fun ds env1 => match ds with
  | [d, e] => setC i (.val d) env1 fun env2 => setC j (.val e) env2 DD.nx
  | _ => False
theorem ds_par {i j : Nat} {x y : Str} {a b : Expr} {ta : TDA} {px py pt : Pos} {kt k2 pt2} (hc : X.calm = true) (hN : X.N.Nodup) (h : DA X B [a, b] ta) (hi : X.N[i]? = some x := by rfl) (hj : X.N[j]? = some y := by rfl) (hij : i ≠ j := by decide)
    (hx : X.env.scope.names.lookup x = some .local := by rfl) (hy : X.env.scope.names.lookup y = some .local := by rfl)
    (hw : swappedStores [.Tuple [.Name x px, .Name y py] kt pt] (.Tuple [a, b] k2 pt2) X.env = pure (some [x, y]) := by rfl)
    (hs : swapsWithSole [.Tuple [.Name x px, .Name y py] kt pt] (.Tuple [a, b] k2 pt2) pos.line X.env = pure false := by rfl) :
    DS X B (.Assign [.Tuple [.Name x px, .Name y py] kt pt] (.Tuple [a, b] k2 pt2) pos) (sPar i j ta) := by
  obtain ⟨ts, p, h⟩ := h.ex
  refine ⟨_, ps_par (i := i) (j := j) hc hN hi hj hij hx hy p hw hs, fun F H σ env DD DH R ht l => ?_⟩
  refine h F H σ env _ _ R ht fun ds env1 vs F1 H1 q s1 R1 r1 => ?_
  match ds, vs, r1, q with
  | [d, e], _, .cons r1 (.cons r2 .nil), q => exact ⟨_, _, rfl, l.nx _ _ F1 H1 (setC_of (setC_of q)) s1 ((R1.set r1 i).set r2 j)⟩
@[simp] def sPar3 (i j k : Nat) (ta : TDA) : TDS := fun DD env => ta env fun ds env1 => match ds with
  | [d, e, f] => setC i (.val d) env1 fun env2 => setC j (.val e) env2 fun env3 => setC k (.val f) env3 DD.nx
  | _ => False
theorem ds_par3 {i j l : Nat} {x y z : Str} {a b c : Expr} {ta : TDA} {px py pz pt : Pos} {kt k2 pt2} (hc : X.calm = true) (hN : X.N.Nodup) (h : DA X B [a, b, c] ta) (hi : X.N[i]? = some x := by rfl) (hj : X.N[j]? = some y := by rfl) (hl : X.N[l]? = some z := by rfl) (hij : i ≠ j := by decide) (hil : i ≠ l := by decide) (hjl : j ≠ l := by decide)
    (hx : X.env.scope.names.lookup x = some .local := by rfl) (hy : X.env.scope.names.lookup y = some .local := by rfl) (hz : X.env.scope.names.lookup z = some .local := by rfl)
    (hw : swappedStores [.Tuple [.Name x px, .Name y py, .Name z pz] kt pt] (.Tuple [a, b, c] k2 pt2) X.env = pure (some [x, y, z]) := by rfl)
    (hs : swapsWithSole [.Tuple [.Name x px, .Name y py, .Name z pz] kt pt] (.Tuple [a, b, c] k2 pt2) pos.line X.env = pure false := by rfl) :
    DS X B (.Assign [.Tuple [.Name x px, .Name y py, .Name z pz] kt pt] (.Tuple [a, b, c] k2 pt2) pos) (sPar3 i j l ta) := by
  obtain ⟨ts, p, h⟩ := h.ex
  refine ⟨_, ps_par3 (i := i) (j := j) (l := l) hc hN hi hj hl hij hil hjl hx hy hz p hw hs, fun F H σ env DD DH R ht n => ?_⟩
  refine h F H σ env _ _ R ht fun ds env1 vs F1 H1 q s1 R1 r1 => ?_
  match ds, vs, r1, q with
  | [d, e, f], _, .cons r1 (.cons r2 (.cons r3 .nil)), q => exact ⟨_, _, _, rfl, n.nx _ _ F1 H1 (setC_of (setC_of (setC_of q))) s1 (((R1.set r1 i).set r2 j).set r3 l)⟩

/-! ### dict(a list of pairs) -/
def pairsD : List D → Option (List (Key × D))
  | [] => some []
  | .tup [k, v] :: r => match keyD k, pairsD r with
    | some key, some kvs => some ((key, v) :: kvs)
    | _, _ => none
  | _ :: _ => none
@[simp] def dictPD : D → (D → Prop) → Prop := fun d Q => match d with
  | .lst ps => ∃ kvs, pairsD ps = some kvs ∧ Q (.dct (mergeD [] kvs))
  | _ => False
theorem pairs_rp {F : Hp} : ∀ {ps : List D} {vs : List V} {kvs : List (Key × D)}, pairsD ps = some kvs → RpA K F vs ps →
    ∃ (as : List Addr) (ws : List (Key × V)), vs = as.map V.ref ∧ Paired (fun p (kv : Key × V) => SqT K F p [kV kv.1, kv.2]) as ws ∧ RpK K F ws kvs
  | [], _, kvs, h, .nil => by
    cases h
    exact ⟨[], [], rfl, .nil, .nil⟩
  | p :: r, _, kvs, h, .cons r1 rr => by
    unfold pairsD at h
    split at h
    · rename_i h0; cases h0
    · rename_i k v r' e0
      cases e0
      split at h
      · rename_i key kv2 hk hr
        cases h
        obtain ⟨as, ws, rfl, pp, rk⟩ := pairs_rp hr rr
        cases r1 with
        | tup q ra =>
          cases ra with
          | cons rk1 ra2 =>
            cases ra2 with
            | cons rv ra3 =>
              cases ra3
              have ek := key_rp hk rk1
              subst ek
              exact ⟨_ :: as, (key, _) :: ws, rfl, .cons q pp, .cons rv rk⟩
      · cases h
    · cases h
theorem Paired.imp2 {α β : Type} {P Q : α → β → Prop} (h : ∀ a b, P a b → Q a b) : ∀ {xs : List α} {ys : List β}, Paired P xs ys → Paired Q xs ys
  | _, _, .nil => .nil
  | _, _, .cons a b => .cons (h _ _ a) (Paired.imp2 h b)
theorem c_dictP (hc : X.calm = true) : DCl X (.type "dict") (n1 dictPD) := by
  refine ⟨_, call_dictP hc, fun F H xs ds Q Q' s r h k => ?_⟩
  obtain ⟨d, rfl, h⟩ := n1_of h
  obtain ⟨v, rfl, r1⟩ := rpa1 r
  cases r1 with
  | lst h1 ra =>
    obtain ⟨kvs, hk, q⟩ := h
    obtain ⟨as, ws, rfl, pp, rk⟩ := pairs_rp hk ra
    exact ⟨_, as, ws, rfl, .of (s _ _ h1), Paired.imp2 (fun a b h => same_sqT s h) pp, fun p hp => k _ _ _ _ q (.new hp) (.dct upd_same ((RpK.merge rk .nil).mono (same_upd (s.free hp))))⟩
  | _ => exact h.elim
/-- keys all unlike: nothing is overwritten -/
theorem putD_new {k : Key} {v : D} {kvs : List (Key × D)} (h : k ∉ kvs.map (·.1)) : putD kvs k v = kvs ++ [(k, v)] := by
  unfold putD
  rw [if_neg]
  intro e
  obtain ⟨kv, m, q⟩ := List.any_eq_true.mp e
  exact h (by rw [← of_decide_eq_true q]; exact List.mem_map_of_mem m)
theorem mergeD_nd : ∀ {more kvs : List (Key × D)}, ((kvs ++ more).map (·.1)).Nodup → mergeD kvs more = kvs ++ more
  | [], kvs, _ => by rw [List.append_nil]; rfl
  | (k, v) :: r, kvs, h => by
    have hk : k ∉ kvs.map (·.1) := fun m => by
      rw [List.map_append, List.map_cons, List.nodup_append] at h
      exact h.2.2 k m k List.mem_cons_self rfl
    show mergeD (putD kvs k v) r = _
    rw [putD_new hk, mergeD_nd (by rw [List.append_assoc]; exact h), List.append_assoc]
    rfl
end
end L2.DL

namespace L2.DL
open PySem PySem.Spec PyProof.Rows

/-! ### range(i, j, -1) -/
def dnD (hi : Int) (n : Nat) : List D := (List.range n).map fun (i : Nat) => D.int (hi - (i : Int))
theorem dnD_get {hi : Int} {n i : Nat} : (dnD hi n)[i]? = if i < n then some (D.int (hi - i)) else none := by
  unfold dnD
  rw [List.getElem?_map]
  by_cases h : i < n
  · rw [List.getElem?_range h, if_pos h]; rfl
  · rw [List.getElem?_eq_none (by simpa using Nat.le_of_not_lt h), if_neg h]; rfl
theorem dnD_len {hi : Int} {n : Nat} : (dnD hi n).length = n := by unfold dnD; simp
theorem dnD_nil (hi : Int) : dnD hi 0 = [] := rfl
theorem dnD_cons (hi : Int) (n : Nat) : dnD hi (n + 1) = .int hi :: dnD (hi - 1) n := by
  unfold dnD
  rw [List.range_succ_eq_map, List.map_cons, List.map_map]
  congr 1
  · rw [show hi - ((0 : Nat) : Int) = hi by omega]
  · apply List.map_congr_left
    intro i _
    show D.int (hi - ((i + 1 : Nat) : Int)) = D.int (hi - 1 - (i : Int))
    congr 1
    omega
theorem iter_down {K : KW} {hi : Int} {n : Nat} {F0 : Hp} : IterOk K (Itc hi (-1) n) (dnD hi n) F0 := fun F H i s0 sH => by
  refine ⟨fun e => by rw [dnD_len] at e; exact Nat.le_of_eq e.symm, fun d e => ?_⟩
  rw [dnD_get] at e
  by_cases h : i < n
  · rw [if_pos h] at e; cases e
    refine ⟨h, ?_⟩
    rintro x H' ⟨rfl, rfl⟩
    refine ⟨F, .nil, ?_⟩
    rw [show hi + (i : Int) * -1 = hi - i by omega]
    exact .int _
  · rw [if_neg h] at e; cases e
section
variable {X : Cx} {B : Bd} {pos : Pos}
@[simp] def qRgN (tr : TDA) : TDI := fun env Q => tr env fun ds env1 => match ds with
  | [.int i, .int j, .int c] => (c = -1 ∧ SmallR i ∧ SmallR j) ∧ Q (dnD i (i - j).toNat) env1
  | _ => False
theorem RpA.int3 {K : KW} {F : Hp} {vs : List V} {i j k : Int} (r : RpA K F vs [.int i, .int j, .int k]) : vs = [.int i, .int j, .int k] := by
  cases r with
  | cons r rr => cases r; rw [rr.int2]
theorem di_rangeN {tg a b c : Expr} {tr : TDA} {p : Pos} (hg : Gl X "range") (hm : X.mg "range" = none) (ha : DA X B [a, b, c] tr)
    (hs : starEach [a, b, c] X.env = (false, eval a X.env) :: starEach [b, c] X.env := by rfl) (hpl : (backTo pos (starEach [b, c] X.env)).any (·.1) = false := by rfl) :
    DI X B tg (.Call (.Name "range" p) [a, b, c] [] pos) (qRgN tr) := by
  obtain ⟨ts, q, h⟩ := ha.ex
  refine ⟨_, pi_range3 hg hm q hs hpl, fun F H σ env Q R' R ht k => ?_⟩
  refine h F H σ env _ _ R ht fun ds env1 vs F1 H1 q1 s1 R1 r1 => ?_
  split at q1
  · obtain ⟨⟨rfl, ⟨h1, h2⟩, ⟨h3, h4⟩⟩, q1⟩ := q1
    exact ⟨_, _, _, _, r1.int3, .neg h1 h2 h3 h4, k _ env1 _ F1 H1 q1 s1 R1 iter_down⟩
  · exact q1.elim
end
end L2.DL

namespace L2.DL
open PySem PySem.Spec PyProof.Rows

/-! ### tuple * int -/
theorem tuple_mul1 (l : Addr) (items : Array Value) (n : Nat) (dd : Option Addr) (sl : Array (Option Value)) (u : Tok) :
    Meets (Builtin.«tuple.__mul__» ⟨[.ref l, .int 1 u], []⟩) (fun _ R s => s.heap.get? l = some { cls := .type "tuple", dict := dd, data := .seq items n, slots := sl } ∧ R (.ok (.ret (Value.ref l))) s) :=
  .of_wp fun prog w A R s h => by
    obtain ⟨hp, g, d, tk, os⟩ := s
    obtain ⟨hl, h⟩ := h
    have f1 := AutoSeq1.idx_int
    have c1 : (items.isEmpty || (1 : Int) == 1) = true := by rw [show ((1 : Int) == 1) = true from rfl, Bool.or_true]
    wp_walk using wpAny_loadPart' hl
    repeat (first
      | (refine wpAny_ite_false (decide_eq_false (by decide)) ?_; wp_walk using wpAny_loadPart' hl)
      | (refine wpAny_ite_true (decide_eq_true (by rw [c1])) ?_; wp_walk using wpAny_loadPart' hl))
    exact ⟨_, rfl, h⟩
def rRep1 (K : KW) : R2 := fun x y H Q => ∃ l xs, x = .ref l ∧ y = .int 1 ∧ SqT K H l xs ∧ Q (.ref l) H
section
variable {X : Cx}
theorem op_rep1 : OpR X (binaryOp .Mult) (rRep1 X.kw) := by
  intro pins s σ H x y v u Q I rx ry h
  obtain ⟨l, xs, rfl, rfl, hT, q⟩ := h
  cases rx
  obtain ⟨t, rfl⟩ := ry
  obtain ⟨its, r, ⟨⟨cls, dd, data, sl⟩, ho, hc, n, hd⟩, hs⟩ := I.tuple hT
  simp only at hc hd
  subst hc hd
  refine wpAny_binaryOp_repeat_ref (T := "tuple") (U := "int") (by decide) ⟨_, ho, rfl⟩ (fun s' => typeIs_int s' 1 t) noFill_tuple_mul F.fills_int_mul F.slot_int_rmul repeat_tuple F.slot_int_index.lookup
    (call_meets F.slot_int_rmul (typeIs_int s 1 t) F.entry_int_rmul (F.args_int_rmul_2 _ _) (int_rmul_tuple 1 t l its.toArray n dd sl)
      ⟨ho, rfl, ⟨_, ho, rfl⟩, call_meets F.slot_tuple_mul ⟨_, ho, rfl⟩ F.entry_tuple_mul (F.args_tuple_mul_2 _ _) (tuple_mul1 l its.toArray n dd sl t) ⟨ho, ?_⟩⟩)
  exact ⟨.ref l, H, I, rfl, q⟩
/-- a tuple times an int from 1 on -/
@[simp] def mulT : S2 := fun d e Q => match d, e with
  | .tup a, .int k => (a ≠ [] ∧ 1 ≤ k ∧ k ≤ 1000 ∧ a.length ≤ 1000) ∧ Q (.tup (List.replicate k.toNat a).flatten)
  | _, _ => False
theorem o_mulT : DOp X (binaryOp .Mult) mulT := by
  refine ⟨_, op_repT.or op_rep1, fun F H x y d e Q Q' s rx ry h k => ?_⟩
  cases rx with
  | tup h1 r1 =>
    cases ry <;> first | exact h.elim | skip
    rename_i al vs ds i
    obtain ⟨⟨c0, c1, c2, c3⟩, h⟩ := h
    have hT := same_sqT s h1
    by_cases e : i = 1
    · subst e
      have e : (List.replicate (1 : Int).toNat ds).flatten = ds := by show (List.replicate 1 ds).flatten = ds; simp
      rw [e] at h
      exact .inr ⟨_, _, rfl, rfl, hT, k _ _ F H h .nil (.tup h1 r1)⟩
    · refine .inl ⟨_, _, _, rfl, rfl, hT, ?_, by omega, c2, by rw [r1.length]; exact c3, fun p hp => ?_⟩
      · intro z
        have := r1.length
        rw [z] at this
        exact c0 (List.eq_nil_of_length_eq_zero this.symm)
      · exact k _ _ _ _ h (.new hp) (.tup (.of upd_same) ((r1.rep _).mono (same_upd (s.free hp))))
  | _ => cases ry <;> exact h.elim
end
end L2.DL

namespace L2.DL
open PySem PySem.Spec PyProof.Rows
theorem ex_some {α : Type} {o : Option α} {x : α} {p : α → Prop} (h : o = some x) (k : p x) : ∃ x, o = some x ∧ p x := ⟨x, h, k⟩
section
variable {X : Cx} {B : Bd} {e a : Expr} {es : List Expr} {te tx : TD} {pos : Pos}
/-! ### pop -/
@[simp] def qPopL (i : Nat) : TD := fun env Q => ownL env i fun fr xs => ∃ ys y, xs = ys ++ [y] ∧ setC i (.own fr (.lst ys)) env (Q y)
theorem de_popL {i : Nat} {ce : Expr} (p : PE X ce (tBM0 X.kw "list" rPop (tVar i))) : DE X B ce (qPopL i) := by
  refine ⟨_, p, fun F H σ env Q Q' R ht l => ?_⟩
  obtain ⟨fr, xs, e0, ys, y, rfl, ht⟩ := ownL_of ht
  obtain ⟨a, vs, s, h1, ra⟩ := own_read R e0
  have hl : vs.length = ys.length + 1 := by rw [ra.length, List.length_append, List.length_singleton]
  obtain ⟨v, hv, rv⟩ := ra.get (i := ys.length) (d := y) (by simp)
  have rd : RpA X.kw F vs.dropLast ys := by
    have := ra.take ys.length
    rw [List.take_left] at this
    rwa [List.dropLast_eq_take, hl, Nat.add_sub_cancel]
  refine ⟨_, s, .inl ⟨rfl, _, SqL.of h1⟩, a, vs, v, rfl, rfl, h1, by rw [hl, Nat.add_sub_cancel]; exact hv, ?_⟩
  exact l _ _ _ F _ (setC_of ht) (Same.refl _) (R.writeAt e0 s ⟨_, upd_same, rd⟩) rv
@[simp] def qPop0 (i : Nat) : TD := fun env Q => ownL env i fun fr xs => match xs with
  | y :: ys => setC i (.own fr (.lst ys)) env (Q y)
  | [] => False
theorem de_pop0 {i : Nat} {ce : Expr} {te : TE} (hn : ∀ (σ : St) (H : Hp) (Q : V → Hp → Prop), Q (.int 0) H → te σ H Q) (p : PE X ce (tBM X.kw "list" rPopAt (tVar i) (tCons te tNil))) : DE X B ce (qPop0 i) := by
  refine ⟨_, p, fun F H σ env Q Q' R ht l => ?_⟩
  obtain ⟨fr, xs, e0, ht⟩ := ownL_of ht
  cases xs with
  | nil => exact ht.elim
  | cons y ys =>
    obtain ⟨a, vs, s, h1, ra⟩ := own_read R e0
    cases ra with
    | @cons v _ vs _ rv rr =>
      refine ⟨_, s, .inl ⟨rfl, _, SqL.of h1⟩, hn _ _ _ ?_⟩
      refine ⟨a, v :: vs, 0, 0, v, rfl, rfl, h1, by decide, by decide, ?_, rfl, ?_⟩
      · unfold seqIndex?
        simp
      · exact l _ _ _ F _ (setC_of ht) (Same.refl _) (R.writeAt e0 s ⟨_, upd_same, rr⟩) rv
/-! ### a call of a def that is taken from a list -/
inductive Sel (X : Cx) (n : Nat) : List (Addr × FSpec) → Prop
  | nil : Sel X n []
  | cons {k : Nat} {f : Addr} {fd : FuncData} {ps : List Str} {spec : FSpec} {L : List (Addr × FSpec)} (G : Fk X.prog X.w X.kw X.mg X.base k f fd ps (spD X.kw n spec)) (hr : Rm k X.A) (hk : PySem.W.keepIn X.kw (.ref f) = true) (hb : Binds X.kw fd ps []) (r : Sel X n L) : Sel X n ((f, spec) :: L)
theorem Sel.get {n : Nat} : ∀ {L : List (Addr × FSpec)} {f : Addr} {spec : FSpec}, Sel X n L → (f, spec) ∈ L → ∃ k fd ps, Fk X.prog X.w X.kw X.mg X.base k f fd ps (spD X.kw n spec) ∧ Rm k X.A ∧ PySem.W.keepIn X.kw (.ref f) = true ∧ Binds X.kw fd ps []
  | _, _, _, .nil, m => by cases m
  | _, _, _, .cons G hr hk hb r, m => by
    rcases List.mem_cons.mp m with e | m
    · cases e; exact ⟨_, _, _, G, hr, hk, hb⟩
    · exact Sel.get r m
def tSel (K : KW) (n : Nat) (L : List (Addr × FSpec)) (ta : TE) (t : TA) : TE := fun σ H Q => ta σ H fun x H1 => ∃ f sp, (f, sp) ∈ L ∧ x = .ref f ∧ t σ H1 fun vs H2 => spD K n sp vs H2 Q E0
theorem pe_callV {n : Nat} {L : List (Addr × FSpec)} {fe : Expr} {ta : TE} {t : TA} (hL : Sel X n L) (he : PE X fe ta) (ha : PA X (e :: es) t)
    (ht : eval (.Call fe (e :: es) [] pos) X.env = (do callWith pos (← eval fe X.env) [] (backTo pos (starEach (e :: es) X.env)) (backToKw pos (keywordEach [] X.env))) := by rfl)
    (hst : starEach (e :: es) X.env = (false, eval e X.env) :: starEach es X.env := by rfl) (hpl : (backTo pos (starEach es X.env)).any (·.1) = false := by rfl) :
    PE X (.Call fe (e :: es) [] pos) (tSel X.kw n L ta t) := by
  refine ⟨fun pins s σ H Q I h => ?_⟩
  rw [ht]
  refine wpAny_bind (thn (he.run pins s σ H _ I h) fun u s1 ⟨x, H1, I1, rx, f, sp, hm, ex, q⟩ => ?_)
  subst ex
  obtain rfl : u = Value.ref f := rx
  obtain ⟨k, fd, ps, G, hr, hk, hb⟩ := hL.get hm
  refine PySem.W.callWith_K (h₀ := X.base) I1.ok.mod.kin hk (thn (ha.run pos pins s1 σ H1 _ I1 q) fun us s2 ⟨vs, H2, I2, r, q2⟩ => ⟨I2.kIn, ?_⟩) hst hpl
  exact run_fk (E := fun _ => E0) G hr hb (lets0 σ) I2 r q2
@[simp] def qCallV (L : List (Addr × FSpec)) (n : Nat) (tf : TD) (tr : TDR) : TD := fun env Q => tf env fun d env0 => ∃ f sp, (f, sp) ∈ L ∧ d = .atm (.ref f) ∧ tr env0 fun as env1 => match callOk n as with
  | true => sp (handIn env1 as) fun d cs => putC env1 as cs fun env2 => Q d env2
  | false => False
theorem de_callV {n : Nat} {L : List (Addr × FSpec)} {fe : Expr} {tf : TD} {tr : TDR} (hL : Sel X n L) (he : DE X B fe tf) (ha : DR X B (e :: es) tr)
    (ht : eval (.Call fe (e :: es) [] pos) X.env = (do callWith pos (← eval fe X.env) [] (backTo pos (starEach (e :: es) X.env)) (backToKw pos (keywordEach [] X.env))) := by rfl)
    (hst : starEach (e :: es) X.env = (false, eval e X.env) :: starEach es X.env := by rfl) (hpl : (backTo pos (starEach es X.env)).any (·.1) = false := by rfl) :
    DE X B (.Call fe (e :: es) [] pos) (qCallV L n tf tr) := by
  obtain ⟨tfe, p, hf⟩ := he.ex
  obtain ⟨te, q, h⟩ := ha.ex
  refine ⟨_, pe_callV hL p q ht hst hpl, fun F H σ env Q Q' R ht k => ?_⟩
  refine hf F H σ env _ _ R ht fun d env0 v F0 H0 q0 s0 R0 r0 => ?_
  obtain ⟨f, sp, hm, rfl, q0⟩ := q0
  cases r0
  refine ⟨f, sp, hm, rfl, ?_⟩
  refine h F0 H0 σ env0 _ _ R0 q0 fun as env1 vs F1 H1 q1 s1 R1 ra => ?_
  have q1 : callOk n as = true ∧ sp (handIn env1 as) fun d cs => putC env1 as cs fun env2 => Q d env2 := by
    split at q1
    · rename_i hc; exact ⟨hc, q1⟩
    · exact q1.elim
  obtain ⟨hc, hs⟩ := q1
  obtain ⟨hn, nd⟩ := callOk_ok hc

  refine ⟨F1, HandM σ env1 as, HandS σ env1 as, handIn env1 as, by rw [Paired.length ra, hn], R1.handed ra nd, _, hs, fun d cs v F' H' q s' R' r' => ?_⟩
  exact k d _ v F' H' (putC_of q) ((s0.trans s1).trans s') (take_put (cs := cs) nd ▸ R1.taken ra s' R') r'
end
end L2.DL

namespace L2.DL
open PySem PySem.Spec PyProof.Rows
section
variable {X : Cx} {pins : List (Addr × Obj)} {σ : St} {F H : Hp} {s : Shared}
/-! ### data that are keys -/
mutual
theorem nk_is (I : Inv X pins σ H s) (sF : Same F H) : ∀ (d : D) (k : NestedKey) (v : V) (u : Value), nkey d = some k → Rp X.kw F v d → RelV v u → NestedIs s.heap k u
  | .non, k, v, u, e, r, h => by
    cases r
    rw [nkey] at e; cases e
    cases h
    exact .none
  | .int i, k, v, u, e, r, h => by
    cases r
    rw [nkey] at e; cases e
    obtain ⟨t, rfl⟩ := h
    exact .int i t
  | .str x, k, v, u, e, r, h => by
    cases r
    rw [nkey] at e; cases e
    obtain ⟨t, rfl⟩ := h
    exact .text x t
  | .tup ds, k, v, u, e, r, h => by
    cases r with
    | tup hs ra =>
      rw [nkey] at e
      cases q : nkeys ds with
      | none => rw [q] at e; cases e
      | some ks =>
        rw [q] at e; cases e
        cases h
        obtain ⟨its, v1, ⟨o, h1, h2, n, h3⟩, _⟩ := I.tuple (same_sqT sF hs)
        exact .tup h1 h2 h3 (nks_is I sF ds ks _ _ q ra (by simpa using v1))
  | .bl _, k, v, u, e, _, _ => by rw [nkey] at e; cases e
  | .atm _, k, v, u, e, _, _ => by rw [nkey] at e; cases e
  | .lst _, k, v, u, e, _, _ => by rw [nkey] at e; cases e
  | .dct _, k, v, u, e, _, _ => by rw [nkey] at e; cases e
  | .scr _, k, v, u, e, _, _ => by rw [nkey] at e; cases e
  | .dcn _, k, v, u, e, _, _ => by rw [nkey] at e; cases e
theorem nks_is (I : Inv X pins σ H s) (sF : Same F H) : ∀ (ds : List D) (ks : List NestedKey) (vs : List V) (us : List Value), nkeys ds = some ks → RpA X.kw F vs ds → Vals vs us → NestedAll s.heap ks us
  | [], ks, vs, us, e, r, h => by
    rw [nkeys] at e; cases e
    cases r
    cases h
    exact .nil
  | d :: ds, ks, vs, us, e, r, h => by
    rw [nkeys] at e
    cases r with
    | cons r1 r2 =>
      cases h with
      | cons h1 h2 =>
        cases q : nkey d with
        | none => rw [q] at e; cases e
        | some k =>
          cases q2 : nkeys ds with
          | none => rw [q, q2] at e; cases e
          | some ks =>
            rw [q, q2] at e; cases e
            exact .cons (nk_is I sF d k _ _ q r1 h1) (nks_is I sF ds ks _ _ q2 r2 h2)
end
/-! ### such a dict, by values -/
def ndAt (kvs : List (NestedKey × Addr × V)) (k : NestedKey) : Option V := (kvs.find? fun p => decide (p.1 = k)).map (·.2.2)
def ndPut (kvs : List (NestedKey × Addr × V)) (k : NestedKey) (b : Addr) (v : V) : List (NestedKey × Addr × V) :=
  if (ndAt kvs k).isSome then kvs.map fun p => if p.1 = k then (p.1, p.2.1, v) else p else kvs ++ [(k, b, v)]
theorem nd_at {k : NestedKey} : ∀ {kvs : List (NestedKey × Addr × V)} {xs : List (NestedKey × Addr × Value)}, Paired NdRel kvs xs → RelO (ndAt kvs k) ((atKey xs k).map (·.2))
  | _, _, .nil => trivial
  | _, _, .cons (l₁ := l₁) (l₂ := l₂) (a := p) (b := q) h t => by
    have ih := nd_at (k := k) t
    obtain ⟨h1, h2, h3⟩ := h
    unfold ndAt atKey at ih ⊢
    by_cases e : p.1 = k
    · rw [List.find?_cons_of_pos (by simpa using e), List.find?_cons_of_pos (by simpa [← h1] using e)]
      exact h3
    · rw [List.find?_cons_of_neg (by simpa using e), List.find?_cons_of_neg (by simpa [← h1] using e)]
      exact ih
theorem relO_some {o : Option V} {r : Option Value} (h : RelO o r) : o.isSome = r.isSome := by
  cases o <;> cases r <;> first | rfl | exact h.elim
theorem nd_put {k : NestedKey} {b : Addr} {v : V} {u : Value} (hv : RelV v u) {kvs : List (NestedKey × Addr × V)} {xs : List (NestedKey × Addr × Value)} (h : Paired NdRel kvs xs) : Paired NdRel (ndPut kvs k b v) (storedH xs k b u) := by
  have e := relO_some (nd_at (k := k) h)
  rw [Option.isSome_map] at e
  unfold ndPut storedH
  rw [e]
  split
  · clear e
    rename_i z
    clear z
    induction h with
    | nil => exact .nil
    | @cons p q ps qs hq t ih =>
      refine .cons ?_ ih
      obtain ⟨h1, h2, h3⟩ := hq
      show NdRel (if p.1 = k then (p.1, p.2.1, v) else p) (if q.1 = k then (q.1, q.2.1, u) else q)
      by_cases z : p.1 = k
      · rw [if_pos z, if_pos (by rw [← h1]; exact z)]
        exact ⟨h1, h2, hv⟩
      · rw [if_neg z, if_neg (by rw [← h1]; exact z)]
        exact ⟨h1, h2, h3⟩
  · exact Paired.snoc h ⟨rfl, rfl, hv⟩
theorem ndPut_len (kvs : List (NestedKey × Addr × V)) (k : NestedKey) (b : Addr) (v : V) : (ndPut kvs k b v).length ≤ kvs.length + 1 := by
  unfold ndPut
  split
  · rw [List.length_map]; omega
  · rw [List.length_append, List.length_singleton]; omega
/-- its keys are keys -/
theorem nd_keys (I : Inv X pins σ H s) (sF : Same F H) : ∀ {kvs : List (NestedKey × Addr × V)} {ds : List (D × D)} {xs : List (NestedKey × Addr × Value)}, RpN X.kw F kvs ds → Paired NdRel kvs xs → ∀ x ∈ xs, (nestedKind X.prog X.w).is s.heap x.1 x.2.1
  | _, _, _, .nil, .nil, x, m => by cases m
  | _, _, _, .cons hk rb rv t, .cons h t2, x, m => by
    rcases List.mem_cons.mp m with e | m
    · rw [e]
      obtain ⟨h1, h2, _⟩ := h
      rw [← h1, ← h2]
      exact ⟨nk_is I sF _ _ _ _ hk.1 rb rfl, hk.2⟩
    · exact nd_keys I sF t t2 x m
theorem nd_rd (I : Inv X pins σ H s) (sF : Same F H) {a : Addr} {o : Obj} {kvs : List (NestedKey × Addr × V)} {ds : List (D × D)} (e : H a = some (NdO X.w a o kvs)) (r : RpN X.kw F kvs ds) : kvs.length ≤ sizeLine ∧ (a == sysModules) = false ∧
    ∃ xs, Paired NdRel kvs xs ∧ s.heap.DictOfH (nestedKind X.prog X.w) a xs := by
  obtain ⟨⟨z, y, xs, rel, es, ep, h1, h2, h3, h4, h5⟩, _⟩ := (show ObjOk X.prog X.w H s.heap a (NdO X.w a o kvs) from I.hok a _ e)
  exact ⟨z, y, xs, rel, o, es, ep, h1, h2, h3, h4, nd_keys I sF r rel, h5⟩
theorem nd_ok {w : World} {P : Program} {h' : Heap} {H' : Obj → Hp} {a : Addr} {kvs : List (NestedKey × Addr × V)} {xs : List (NestedKey × Addr × Value)} (hl : kvs.length ≤ sizeLine) (hd : (a == sysModules) = false) (rel : Paired NdRel kvs xs) (dd : h'.DictOfH (nestedKind P w) a xs) : ∃ o, ObjOk P w (H' o) h' a (NdO w a o kvs) := by
  obtain ⟨o, es, ep, h1, h2, h3, h4, _, h5⟩ := dd
  refine ⟨o, ⟨hl, hd, xs, rel, es, ep, h1, h2, h3, h4, h5⟩, ⟨o, h1⟩, fun ha hb q k => ?_⟩
  obtain ⟨z, y, xs, rel, es, ep, h1, h2, h3, h4, h5⟩ := q
  exact ⟨z, y, xs, rel, es, ep, k _ h1, h2, h3, h4, h5⟩
/-- a key at hand -/
def NKy (K : KW) (H : Hp) (y : V) (k : NestedKey) (kvs : List (NestedKey × Addr × V)) : Prop := ∃ F ds d, Same F H ∧ RpN K F kvs ds ∧ Rp K F y d ∧ nkey d = some k ∧ k.depth ≤ 8
def rIxN (K : KW) : R2 := fun x y H Q => ∃ a b k kvs v, x = .ref a ∧ y = .ref b ∧ (∃ o, H a = some (NdO K.w a o kvs)) ∧ NKy K H y k kvs ∧ ndAt kvs k = some v ∧ Q v H
theorem ix_nd (hu : X.A.units + 64 < cLine) : IxR X (rIxN X.kw) := by
  intro value slice pins s σ H x y v u Q I rx ry h hs
  obtain ⟨a, b, k, kvs, z, rfl, rfl, ⟨ob, e⟩, ⟨F, ds, d, sF, rN, rd, hk, hd⟩, l, q⟩ := h
  cases rx
  cases ry
  obtain ⟨zz, hs2, xs, rel, dd⟩ := nd_rd I sF e rN
  have ro := nd_at (k := k) rel
  rw [l] at ro
  cases hp : atKey xs k with
  | none => rw [hp] at ro; exact ro.elim
  | some p =>
    rw [hp] at ro
    refine subscriptTail_builtinR (x := p.2) dd.typeIs PySem.F.slot_dict_getitem.lookup (wpAny_getItem_heap (knd := nestedKind X.prog X.w) (by show X.A.units + 1 + 8 < cLine; omega) ⟨nk_is I sF d k _ _ hk rd rfl, hd⟩ dd hp ?_) hs
    exact ⟨rfl, ⟨z, H, I.tok _, ro, q⟩⟩
def rInN (K : KW) (neg : Bool) : R2 := fun x y H Q => ∃ a b k kvs, y = .ref a ∧ x = .ref b ∧ (∃ o, H a = some (NdO K.w a o kvs)) ∧ NKy K H x k kvs ∧ Q (.bl (if neg then !(ndAt kvs k).isSome else (ndAt kvs k).isSome)) H
theorem op_inN (hu : X.A.units + 64 < cLine) : OpR X (compareOp .In) (rInN X.kw false) := by
  intro pins s σ H x y v u Q I rx ry h
  obtain ⟨a, b, k, kvs, rfl, rfl, ⟨ob, e⟩, ⟨F, ds, d, sF, rN, rd, hk, hd⟩, q⟩ := h
  cases rx
  cases ry
  obtain ⟨zz, hs2, xs, rel, dd⟩ := nd_rd I sF e rN
  have ro := relO_some (nd_at (k := k) rel)
  rw [Option.isSome_map] at ro
  refine wpAny_in_heap (knd := nestedKind X.prog X.w) (by show X.A.units + 1 + 8 < cLine; omega) ⟨nk_is I sF d k _ _ hk rd rfl, hd⟩ hs2 dd ?_
  refine ⟨.bl _, H, I.tok _, ?_, q⟩
  rw [← ro]; rfl
def rSetN (K : KW) : TSet := fun o i v H Q => ∃ a b k kvs, o = .ref a ∧ i = .ref b ∧ (∃ o, H a = some (NdO K.w a o kvs)) ∧ NKy K H i k kvs ∧ kvs.length < sizeLine ∧ ∀ o', Q (upd H a (NdO K.w a o' (ndPut kvs k b v)))
theorem set_nd (hu : X.A.units + 64 < cLine) : PSet X (rSetN X.kw) := by
  intro pins s σ H o i v ov iv u Q I ro ri rv h
  obtain ⟨a, b, k, kvs, rfl, rfl, ⟨ob, e⟩, ⟨F, ds, d, sF, rN, rd, hk, hd⟩, hl, q⟩ := h
  cases ro
  cases ri
  obtain ⟨zz, hs2, xs, rel, dd⟩ := nd_rd I sF e rN
  have hz : xs.length ≤ sizeLine := by rw [← Paired.length rel]; exact zz
  refine wpAny_setItem_heap (knd := nestedKind X.prog X.w) (hsz := hz) (by show X.A.units + 1 + 8 < cLine; omega) ⟨nk_is I sF d k _ _ hk rd rfl, hd⟩ dd fun h' dd' hs => ?_
  have he : ∃ q, h'.get? a = some q := let ⟨q, _, _, hq, _⟩ := dd'; ⟨q, hq⟩
  obtain ⟨o', new⟩ := nd_ok (P := X.prog) (H' := fun o' => upd H a (NdO X.w a o' (ndPut kvs k b v))) (show (ndPut kvs k b v).length ≤ sizeLine by have := ndPut_len kvs k b v; omega) hs2 (nd_put rv rel) dd'
  exact ⟨_, d_write I (by rw [e]; exact True.intro) hs he new, q o'⟩
end
end L2.DL

namespace L2.DL
open PySem PySem.Spec PyProof.Rows
/-! ### dicts keyed by tuples: look-ups, stores -/
def nget (ds : List (D × D)) (k : D) : Option D := (ds.find? fun p => decide (nkey p.1 = nkey k)).map (·.2)
def nput (ds : List (D × D)) (k e : D) : List (D × D) := if (nget ds k).isSome then ds.map fun p => if nkey p.1 = nkey k then (p.1, e) else p else ds ++ [(k, e)]
/-- a tuple that is a key -/
def KeyOk (d : D) : Prop := (∃ es, d = .tup es) ∧ ∃ κ, nkey d = some κ ∧ κ.depth ≤ 8
section
variable {K : KW} {F H : Hp} {k0 : D} {κ : NestedKey}
theorem RpN.at (hk : nkey k0 = some κ) : ∀ {kvs : List (NestedKey × Addr × V)} {ds : List (D × D)}, RpN K F kvs ds → (∀ e, nget ds k0 = some e → ∃ v, ndAt kvs κ = some v ∧ Rp K F v e) ∧ (nget ds k0 = none → ndAt kvs κ = none)
  | _, _, .nil => ⟨fun e h => (nomatch h), fun _ => rfl⟩
  | _, _, .cons (k := k) (b := b) (v := v) (d := d) (e := e) (vs := vs) (ds := ds) q h g t => by
    obtain ⟨i1, i2⟩ := RpN.at hk t
    unfold nget ndAt at i1 i2 ⊢
    by_cases z : k = κ
    · have z2 : nkey d = nkey k0 := by rw [q.1, hk, z]
      rw [List.find?_cons_of_pos (by simpa using z2), List.find?_cons_of_pos (by simpa using z)]
      exact ⟨fun e h => by cases h; exact ⟨_, rfl, g⟩, fun h => by cases h⟩
    · have z2 : ¬ nkey d = nkey k0 := by rw [q.1, hk]; exact fun h => z (Option.some.inj h)
      rw [List.find?_cons_of_neg (by simpa using z2), List.find?_cons_of_neg (by simpa using z)]
      exact ⟨i1, i2⟩
theorem RpN.isSome (hk : nkey k0 = some κ) {kvs : List (NestedKey × Addr × V)} {ds : List (D × D)} (h : RpN K F kvs ds) : (ndAt kvs κ).isSome = (nget ds k0).isSome := by
  obtain ⟨h1, h2⟩ := h.at hk
  cases e : nget ds k0 with
  | none => rw [h2 e]; rfl
  | some x => obtain ⟨v, q, _⟩ := h1 x e; rw [q]; rfl
theorem RpN.put (hk : nkey k0 = some κ) (hd : κ.depth ≤ 8) {b : Addr} {v : V} {x : D} (rb : Rp K F (.ref b) k0) (rv : Rp K F v x) {kvs : List (NestedKey × Addr × V)} {ds : List (D × D)} (h : RpN K F kvs ds) : RpN K F (ndPut kvs κ b v) (nput ds k0 x) := by
  have e := h.isSome hk
  unfold ndPut nput
  rw [e]
  split
  · clear e
    have key : ∀ {kvs : List (NestedKey × Addr × V)} {ds : List (D × D)}, RpN K F kvs ds → RpN K F (kvs.map fun p => if p.1 = κ then (p.1, p.2.1, v) else p) (ds.map fun p => if nkey p.1 = nkey k0 then (p.1, x) else p) := by
      intro kvs
      induction kvs with
      | nil => intro ds h; cases h; exact .nil
      | cons p kvs ih =>
        intro ds h
        cases h with
        | @cons k b2 v2 d e2 _ ds q h g t =>
          rw [List.map_cons, List.map_cons]
          by_cases z : k = κ
          · have z2 : nkey d = nkey k0 := by rw [q.1, hk, z]
            rw [if_pos z, if_pos z2]
            exact .cons q h rv (ih t)
          · have z2 : ¬ nkey d = nkey k0 := by rw [q.1, hk]; exact fun h => z (Option.some.inj h)
            rw [if_neg z, if_neg z2]
            exact .cons q h g (ih t)
    exact key h
  · have key : ∀ {kvs : List (NestedKey × Addr × V)} {ds : List (D × D)}, RpN K F kvs ds → RpN K F (kvs ++ [(κ, b, v)]) (ds ++ [(k0, x)]) := by
      intro kvs
      induction kvs with
      | nil => intro ds h; cases h; exact .cons ⟨hk, hd⟩ rb rv .nil
      | cons p kvs ih =>
        intro ds h
        cases h with
        | cons q h g t => exact .cons q h g (ih t)
    exact key h
end
section
variable {X : Cx} {B : Bd} {e a b ce : Expr} {te tk tx : TD} {pos p1 : Pos} {F H : Hp}
theorem KeyOk.ref {K : KW} {d : D} {v : V} (h : KeyOk d) (r : Rp K F v d) : ∃ b κ, v = .ref b ∧ nkey d = some κ ∧ κ.depth ≤ 8 := by
  obtain ⟨⟨es, rfl⟩, κ, h1, h2⟩ := h
  cases r
  exact ⟨_, κ, rfl, h1, h2⟩
@[simp] def ixE : S2 := fun d e Q => match d with
  | .dcn kvs => KeyOk e ∧ ∃ x, nget kvs e = some x ∧ Q x
  | _ => ixD d e Q
theorem o_ixE (hu : X.A.units + 64 < cLine) : DIx X ixE := by
  obtain ⟨r, hr, f⟩ := o_ix (X := X) (by omega)
  refine ⟨_, hr.or (ix_nd hu), fun F H x y d e Q Q' s rx ry h k => ?_⟩
  have old : ∀ {d}, Rp X.kw F x d → ixD d e Q → r x y H Q' := fun rx h => f F H x y _ e Q Q' s rx ry h k
  cases rx with
  | dcn hf rn =>
    obtain ⟨hk, z, hz, q⟩ := h
    obtain ⟨b, κ, rfl, h1, h2⟩ := hk.ref ry
    obtain ⟨v, h3, rv⟩ := (rn.at h1).1 z hz
    exact .inr ⟨_, b, κ, _, v, rfl, rfl, ⟨_, s _ _ hf⟩, ⟨F, _, e, s, rn, ry, h1, h2⟩, h3, k _ _ F H q .nil rv⟩
  | lst h1 h2 => exact .inl (old (.lst h1 h2) h)
  | scr h1 h2 => exact .inl (old (.scr h1 h2) h)
  | tup h1 h2 => exact .inl (old (.tup h1 h2) h)
  | dct h1 h2 => exact .inl (old (.dct h1 h2) h)
  | ins h1 h2 h3 => exact .inl (old (.ins h1 h2 h3) h)
  | str z => exact .inl (old (.str z) h)
  | non => exact .inl (old .non h)
  | bl z => exact .inl (old (.bl z) h)
  | int z => exact .inl (old (.int z) h)
  | atm => exact .inl (old (.atm _) h)
@[simp] def inE : S2 := fun d e Q => match e with
  | .dcn kvs => KeyOk d ∧ Q (.bl (nget kvs d).isSome)
  | _ => inD d e Q
theorem o_inE (hu : X.A.units + 64 < cLine) : DOp X (compareOp .In) inE := by
  obtain ⟨r, hr, f⟩ := o_in (X := X) (by omega)
  refine ⟨_, hr.or (op_inN hu), fun F H x y d e Q Q' s rx ry h k => ?_⟩
  have old : ∀ {e}, Rp X.kw F y e → inD d e Q → r x y H Q' := fun ry h => f F H x y d _ Q Q' s rx ry h k
  cases ry with
  | dcn hf rn =>
    obtain ⟨hk, q⟩ := h
    obtain ⟨b, κ, rfl, h1, h2⟩ := hk.ref rx
    refine .inr ⟨_, b, κ, _, rfl, rfl, ⟨_, s _ _ hf⟩, ⟨F, _, d, s, rn, rx, h1, h2⟩, ?_⟩
    rw [rn.isSome h1]
    exact k _ _ F H q .nil (.bl _)
  | lst h1 h2 => exact .inl (old (.lst h1 h2) h)
  | scr h1 h2 => exact .inl (old (.scr h1 h2) h)
  | tup h1 h2 => exact .inl (old (.tup h1 h2) h)
  | dct h1 h2 => exact .inl (old (.dct h1 h2) h)
  | ins h1 h2 h3 => exact .inl (old (.ins h1 h2 h3) h)
  | str z => exact .inl (old (.str z) h)
  | non => exact .inl (old .non h)
  | bl z => exact .inl (old (.bl z) h)
  | int z => exact .inl (old (.int z) h)
  | atm => exact .inl (old (.atm _) h)
/-! ### one's own -/
@[simp] def ownN (env : DEnv) (i : Nat) (k : Bool → List (D × D) → Prop) : Prop := match env[i]? with
  | some (.own fr (.dcn kvs)) => k fr kvs
  | _ => False
theorem ownN_of {env : DEnv} {i : Nat} {k : Bool → List (D × D) → Prop} (h : ownN env i k) : ∃ fr kvs, env[i]? = some (.own fr (.dcn kvs)) ∧ k fr kvs := by
  unfold ownN at h
  split at h
  · rename_i fr kvs e
    exact ⟨fr, kvs, e, h⟩
  · exact h.elim
theorem own_readN {K : KW} {σ : St} {env : DEnv} {i : Nat} {fr : Bool} {kvs : List (D × D)} (R : Rep K B F H σ env) (h : env[i]? = some (.own fr (.dcn kvs))) :
    ∃ a ws, σ[i]? = some (some (.ref a)) ∧ (∃ o, H a = some (NdO K.w a o ws)) ∧ RpN K F ws kvs := by
  obtain ⟨a, s, ⟨ws, h1, h2⟩, _⟩ := R.cells i _ h
  exact ⟨a, ws, s, h1, h2⟩
@[simp] def sSetN (i : Nat) (te tk : TD) : TDS := fun DD env => te env fun d env1 => ownN env1 i fun _ _ => tk env1 fun k env2 => ownN env2 i fun fr kvs => KeyOk k ∧ kvs.length < sizeLine ∧ setC i (.own fr (.dcn (nput kvs k d))) env2 DD.nx
theorem ds_setN {i : Nat} {tg : Expr} (he : DE X B e te) (hg : PG X tg (gSub (tVar i) (canE X.kw B tk) (rSetN X.kw))) (hs : swapsWithSole [tg] e pos.line X.env = pure false := by rfl) (hw : swappedStores [tg] e X.env = pure none := by rfl)
    (h1 : (assignEach [tg] X.env).map (·.2) = [assign tg X.env] := by rfl) : DS X B (.Assign [tg] e pos) (sSetN i te tk) := by
  obtain ⟨ts, p, h⟩ := he.ex
  refine ⟨_, ps_asg p hg hs hw h1, fun F H σ env DD DH R ht l => ?_⟩
  refine h F H σ env _ _ R ht fun d env1 v F1 H1 q s1 R1 r1 => ?_
  obtain ⟨fr, kvs, e1, q⟩ := ownN_of q
  obtain ⟨a, ws, s, h1, _⟩ := own_readN R1 e1
  refine ⟨_, s, F1, env1, _, R1, q, fun k env2 w F2 H2 q2 s2 R2 r2 => ?_⟩
  obtain ⟨fr, kvs, e2, hk, hl, q2⟩ := ownN_of q2
  obtain ⟨a', ws', s', h2, ra⟩ := own_readN R2 e2
  rw [s] at s'; cases s'
  obtain ⟨b, κ, rfl, k1, k2⟩ := hk.ref r2
  refine ⟨a, b, κ, ws', rfl, rfl, h2, ⟨F2, _, k, R2.sub, ra, r2, k1, k2⟩, by rw [ra.length]; exact hl, fun o' => ?_⟩
  exact l.nx _ σ F2 _ (setC_of q2) (s1.trans s2) (R2.writeAt e2 s ⟨_, ⟨o', upd_same⟩, RpN.put k1 k2 r2 (r1.mono s2) ra⟩)
/-- x[k], x one's own -/
@[simp] def qIxNO (i : Nat) (tk : TD) : TD := fun env Q => ownN env i fun _ _ => tk env fun k env1 => ownN env1 i fun _ kvs => KeyOk k ∧ ∃ d, nget kvs k = some d ∧ Q d env1
theorem de_ixNO {i : Nat} (p : PE X ce (fun σ H Q => tVar i σ H fun x H1 => canE X.kw B tk σ H1 fun y H2 => rIxN X.kw x y H2 Q)) : DE X B ce (qIxNO i tk) := by
  refine ⟨_, p, fun F H σ env Q Q' R ht k => ?_⟩
  obtain ⟨fr, kvs, e0, ht⟩ := ownN_of ht
  obtain ⟨a, ws, s, h1, _⟩ := own_readN R e0
  refine ⟨_, s, F, env, _, R, ht, fun d env1 v F1 H1 q s1 R1 r1 => ?_⟩
  obtain ⟨fr, kvs, e1, hk, z, hz, q⟩ := ownN_of q
  obtain ⟨a', ws', s', h1', ra⟩ := own_readN R1 e1
  rw [s] at s'; cases s'
  obtain ⟨b, κ, rfl, k1, k2⟩ := hk.ref r1
  obtain ⟨v, k3, rv⟩ := (ra.at k1).1 z hz
  exact ⟨a, b, κ, ws', v, rfl, rfl, h1', ⟨F1, _, d, R1.sub, ra, r1, k1, k2⟩, k3, k z env1 v F1 H1 q s1 R1 rv⟩
end
end L2.DL

namespace L2.DL
open PySem PySem.Spec PyProof.Rows
/-! ### dicts keyed by tuples: {}, not in, len, list -/
section
variable {X : Cx} {B : Bd} {e a b ce : Expr} {te tk tx : TD} {pos p1 : Pos}
theorem nd_empty {P : Program} {w : World} {H : Hp} (h : Heap) (hb : sysModules < h.objs.size) : ∃ o, ObjOk P w (upd H h.objs.size (NdO w h.objs.size o [])) (h.push { cls := .type "dict", data := .dict #[] }) h.objs.size (NdO w h.objs.size o []) :=
  nd_ok (P := P) (H' := fun o => upd H h.objs.size (NdO w h.objs.size o [])) (Nat.zero_le _) (beq_eq_false_iff_ne.mpr (Ne.symm (Nat.ne_of_lt hb))) (xs := []) .nil (Heap.DictOfH.new h)
def tDNewN (w : World) : TE := fun _ H Q => ∀ p o, H p = none → Q (.ref p) (upd H p (NdO w p o []))
theorem pe_dnewN : PE X (.Dict [] [] pos) (tDNewN X.w) := ⟨fun pins s σ H Q I h => by
  obtain ⟨o, new⟩ := nd_empty (P := X.prog) (w := X.w) (H := H) s.heap I.big
  exact wpAny_Dict_empty ⟨.ref s.heap.objs.size, _, I.laid (a := s.heap.objs.size) (o := NdO X.w s.heap.objs.size o []) (t' := s.toks) (fun _ _ q => Heap.get?_push_of_some _ q) (Nat.le_refl _) new, rfl, h _ o (I.hok.fresh (Nat.le_refl _))⟩⟩
@[simp] def fDctN : TDF := fun env Q => Q (.dcn []) env
theorem df_dctN : DF X B (.Dict [] [] pos) fDctN := by
  refine ⟨_, pe_dnewN, fun F H σ env Q Q' R ht k => ?_⟩
  intro p o hp
  obtain ⟨n1, n2, n4, n3⟩ := R.newp hp
  exact k _ env p F _ ht (Same.refl _) (R.junk hp) ⟨[], ⟨o, upd_same⟩, .nil⟩ n1 n2 n4 (apt n3)
theorem op_ninN (hu : X.A.units + 64 < cLine) : OpR X (compareOp .NotIn) (rInN X.kw true) := by
  intro pins s σ H x y v u Q I rx ry h
  obtain ⟨a, b, k, kvs, rfl, rfl, ⟨ob, e⟩, ⟨F, ds, d, sF, rN, rd, hk, hd⟩, q⟩ := h
  cases rx
  cases ry
  obtain ⟨zz, hs2, xs, rel, dd⟩ := nd_rd I sF e rN
  have ro := relO_some (nd_at (k := k) rel)
  rw [Option.isSome_map] at ro
  refine notIn_keyed (knd := nestedKind X.prog X.w) (kvs := pairsH xs) (by show X.A.units + 1 + 8 < cLine; omega) ⟨nk_is I sF d k _ _ hk rd rfl, hd⟩ hs2 ⟨xs, dd, rfl⟩ ?_
  rw [valueAt_pairsH, Option.isSome_map, ← ro]
  exact ⟨.bl _, H, I.tok _, rfl, q⟩
@[simp] def ninE : S2 := fun d e Q => match e with
  | .dcn kvs => KeyOk d ∧ Q (.bl (!(nget kvs d).isSome))
  | _ => ninD d e Q
theorem o_ninE (hu : X.A.units + 64 < cLine) : DOp X (compareOp .NotIn) ninE := by
  obtain ⟨r, hr, f⟩ := o_nin (X := X) (by omega)
  refine ⟨_, hr.or (op_ninN hu), fun F H x y d e Q Q' s rx ry h k => ?_⟩
  have old : ∀ {e}, Rp X.kw F y e → ninD d e Q → r x y H Q' := fun ry h => f F H x y d _ Q Q' s rx ry h k
  cases ry with
  | dcn hf rn =>
    obtain ⟨hk, q⟩ := h
    obtain ⟨b, κ, rfl, h1, h2⟩ := hk.ref rx
    refine .inr ⟨_, b, κ, _, rfl, rfl, ⟨_, s _ _ hf⟩, ⟨F, _, d, s, rn, rx, h1, h2⟩, ?_⟩
    rw [rn.isSome h1]
    exact k _ _ F H q .nil (.bl _)
  | lst h1 h2 => exact .inl (old (.lst h1 h2) h)
  | scr h1 h2 => exact .inl (old (.scr h1 h2) h)
  | tup h1 h2 => exact .inl (old (.tup h1 h2) h)
  | dct h1 h2 => exact .inl (old (.dct h1 h2) h)
  | ins h1 h2 h3 => exact .inl (old (.ins h1 h2 h3) h)
  | str z => exact .inl (old (.str z) h)
  | non => exact .inl (old .non h)
  | bl z => exact .inl (old (.bl z) h)
  | int z => exact .inl (old (.int z) h)
  | atm => exact .inl (old (.atm _) h)
/-- len -/
theorem call_lenN : CallR X (.builtin "len") (fun xs H Q => ∃ a F kvs ds o, xs = [.ref a] ∧ Same F H ∧ RpN X.kw F kvs ds ∧ H a = some (NdO X.w a o kvs) ∧ Q (.int kvs.length) H) := by
  intro pins s σ H xs us Q I r h
  obtain ⟨a, F, kvs, ds, ob, rfl, sF, rN, e, q⟩ := h
  obtain ⟨u, rfl, rx⟩ := vals1 r
  cases rx
  obtain ⟨zz, hs2, xs, rel, dd⟩ := nd_rd I sF e rN
  have hl : xs.length = kvs.length := (Paired.length rel).symm
  have hm : s.heap.DictKeyed (nestedKind X.prog X.w) a (pairsH xs) := ⟨xs, dd, rfl⟩
  have hl2 : (pairsH xs).length = kvs.length := by rw [pairsH_length, hl]
  rw [sizeLine_eq] at zz
  refine PyProof.Rows.call_len_slot (n := ((pairsH xs).length : Int)) hm.typeIs PySem.F.slot_dict_len (fun Q' hq => len_keyed hs2 hm hq) (by omega) (by rw [hl2]; omega) ?_
  exact ⟨.int kvs.length, H, I.tok _, ⟨_, by rw [hl2]⟩, q⟩
@[simp] def lenE : D → (D → Prop) → Prop := fun d Q => match d with
  | .dcn kvs => Q (.int kvs.length)
  | _ => lenD d Q
theorem c_lenE : DCl X (.builtin "len") (n1 lenE) := by
  obtain ⟨r, hr, f⟩ := c_len (X := X)
  refine ⟨_, hr.or call_lenN, fun F H xs ds Q Q' s rr h k => ?_⟩
  obtain ⟨d, rfl, h⟩ := n1_of h
  obtain ⟨v, rfl, r1⟩ := rpa1 rr
  have old : ∀ {d}, Rp X.kw F v d → lenD d Q → r [v] H Q' := fun r1 h => f F H [v] [_] Q Q' s (.one r1) h k
  cases r1 with
  | dcn hf rn => exact .inr ⟨_, F, _, _, _, rfl, s, rn, s _ _ hf, by rw [rn.length]; exact k _ _ F H h .nil (.int _)⟩
  | lst h1 h2 => exact .inl (old (.lst h1 h2) h)
  | scr h1 h2 => exact .inl (old (.scr h1 h2) h)
  | tup h1 h2 => exact .inl (old (.tup h1 h2) h)
  | dct h1 h2 => exact .inl (old (.dct h1 h2) h)
  | ins h1 h2 h3 => exact .inl (old (.ins h1 h2 h3) h)
  | str z => exact .inl (old (.str z) h)
  | non => exact .inl (old .non h)
  | bl z => exact .inl (old (.bl z) h)
  | int z => exact .inl (old (.int z) h)
  | atm => exact .inl (old (.atm _) h)
end
end L2.DL

namespace L2.DL
open PySem PySem.Spec PyProof.Rows
/-! ### dicts keyed by tuples: gone through, list(d) -/
theorem paired_at {α β : Type} {R : α → β → Prop} : ∀ {as : List α} {bs : List β} {i : Nat} {x : α}, Paired R as bs → as[i]? = some x → ∃ y, bs[i]? = some y ∧ R x y
  | _, _, _, _, .nil, e => by simp at e
  | _, _, 0, x, .cons h _, e => by rw [List.getElem?_cons_zero] at e; cases e; exact ⟨_, rfl, h⟩
  | _, _, i + 1, x, .cons _ t, e => by
    rw [List.getElem?_cons_succ] at e
    obtain ⟨y, h1, h2⟩ := paired_at (i := i) t e
    exact ⟨y, by rw [List.getElem?_cons_succ]; exact h1, h2⟩
section
variable {X : Cx} {pins : List (Addr × Obj)} {σ : St} {H : Hp} {s : Shared}
theorem nd_inv {d : Addr} {o : Obj} {kvs : List (NestedKey × Addr × V)} (I : Inv X pins σ H s) (h : H d = some (NdO X.w d o kvs)) :
    (d == sysModules) = false ∧ s.heap.get? d = some o ∧ o.ExactDict ∧ ∃ (es : Array DictEntry) (ep : Nat), o.data = .dict es ep ∧ es.size = kvs.length ∧
      ∀ (i : Nat) (p : NestedKey × Addr × V), kvs[i]? = some p → ∃ en : DictEntry, es[i]? = some en ∧ en.key = .ref p.2.1 ∧ RelV p.2.2 en.val := by
  obtain ⟨⟨z, hs, xs, pr, es, ep, ho, hx, hdt, he, _⟩, _⟩ := (show ObjOk X.prog X.w H s.heap d (NdO X.w d o kvs) from I.hok d _ h)
  refine ⟨hs, ho, hx, es, ep, hdt, ?_, fun i p e => ?_⟩
  · have l1 := congrArg List.length he
    rw [List.length_map, Array.length_toList] at l1
    have l2 : kvs.length = xs.length := Paired.length pr
    omega
  · obtain ⟨q, hq, h1, h2, h3⟩ := paired_at pr e
    refine ⟨ndEntry X.w q, ?_, ?_, h3⟩
    · rw [← Array.getElem?_toList, he, List.getElem?_map, hq]; rfl
    · show Value.ref q.2.1 = _
      rw [h2]
end
/-- the keys of the dict at d, in their order -/
def Itn (w : World) (d : Addr) (o : Obj) (kvs : List (NestedKey × Addr × V)) : It :=
  ⟨fun i H => H d = some (NdO w d o kvs) ∧ i < kvs.length, fun i H x H' => H' = H ∧ ∃ p, kvs[i]? = some p ∧ x = .ref p.2.1, fun i H => H d = some (NdO w d o kvs) ∧ kvs.length ≤ i⟩
section
variable {P : Program} {w : World} {K : PySem.W.Frag} {tg : Expr} {d : Addr} {o : Obj} {es : Array DictEntry} {ep : Nat}
theorem turn_N {kvs : List (NestedKey × Addr × V)} (it : Addr) (hod : o.data = .dict es ep) : Turn P w K tg (Itn w d o kvs) [it] it (fun i h => h.IsKeyIter it d i kvs.length ep) where
  mem := by simp
  obj := fun i h st b hb => by
    have e : b = it := by simpa using hb
    subst e
    obtain ⟨oi, e, c, dd⟩ := st
    exact ⟨oi, e, fun v z => by rw [dd] at z; cases z⟩
  keep := fun i h h' st k => st.at fun oi e => k it (by simp) oi e
  item := by
    intro X hP hw hK hc i pins s σ H E I hf st hg
    subst hP hw hK
    obtain ⟨hd, hi⟩ := hg
    obtain ⟨f0, f1, f2, f3, f4, f5⟩ := hf it (by simp)
    obtain ⟨hs, hgd, hx, es', ep', hdt, hsz, ent⟩ := nd_inv I hd
    obtain ⟨rfl, rfl⟩ := dict_ep hod hdt
    obtain ⟨p, hkv⟩ : ∃ p, kvs[i]? = some p := ⟨kvs[i], List.getElem?_eq_getElem hi⟩
    obtain ⟨en, hen, hkey, _⟩ := ent i p hkv
    refine next_key_item st hgd hdt hsz hen fun h' st' sb => ?_
    have I1 : Inv X pins σ H { s with heap := h' } := I.turned (t' := s.toks) (fun b ob hb e => (sb.2 b hb).trans e) f0 f1 f3 f4 f5
    obtain ⟨oi, e, c, dd⟩ := id st'
    exact ⟨en.key, rfl, go_of (s := { s with heap := h' }) e c dd (by decide) ⟨.ref p.2.1, H, I1, hkey, ⟨rfl, p, hkv, rfl⟩, st', fun b hb => (hf b hb).1⟩⟩
  done := by
    intro X hP hw hK hc i pins s σ H E I hf st hg
    subst hP hw hK
    obtain ⟨hd, hi⟩ := hg
    obtain ⟨f0, f1, f2, f3, f4, f5⟩ := hf it (by simp)
    obtain ⟨hs, hgd, hx, es', ep', hdt, hsz, ent⟩ := nd_inv I hd
    obtain ⟨rfl, rfl⟩ := dict_ep hod hdt
    exact next_key_end (I.ok.hd hc) st hgd hdt hsz hi fun h' eb => ⟨rfl, I.turned (t' := s.toks) (fun b ob hb e => eb b ob hb e) f0 f1 f3 f4 f5⟩
  self := fun A i s Q E st h => wpAny_pyIter_keyiter st h
end
section
variable {X : Cx} {B : Bd} {tg e : Expr} {te : TD}
def iKeysN (w : World) (td : TE) : TI := fun σ H R => td σ H fun x H1 => ∃ d o kvs, x = .ref d ∧ H1 d = some (NdO w d o kvs) ∧ R (Itn w d o kvs) H1
theorem pi_keysN {td : TE} (he : PE X e td) : PI X tg e (iKeysN X.w td) := by
  refine ⟨fun pins s σ H R I h => ?_⟩
  refine thn (he.run pins s σ H _ I h) fun u s1 ⟨x, H1, I1, rx, d, o, kvs, ex, hd, q⟩ => ?_
  subst ex
  obtain rfl : u = Value.ref d := rx
  obtain ⟨hs, hgd, hx, es, ep, hdt, hsz, ent⟩ := nd_inv I1 hd
  refine iter_keys hs hgd hx hdt (pi_one (tk := s1.toks) I1 _ (turn_N _ hdt) ⟨_, Heap.get?_push_size _ rfl, rfl, ?_⟩ q)
  rw [hsz] <;> rfl
theorem RpN.at_i {K : KW} {F : Hp} : ∀ {kvs : List (NestedKey × Addr × V)} {ds : List (D × D)} {i : Nat} {d : D}, RpN K F kvs ds → (ds.map (·.1))[i]? = some d → ∃ p, kvs[i]? = some p ∧ Rp K F (.ref p.2.1) d
  | _, _, _, _, .nil, e => by simp at e
  | _, _, 0, d, .cons q h g t, e => by rw [List.map_cons, List.getElem?_cons_zero] at e; cases e; exact ⟨_, rfl, h⟩
  | _, _, i + 1, d, .cons q h g t, e => by
    rw [List.map_cons, List.getElem?_cons_succ] at e
    obtain ⟨p, h1, h2⟩ := RpN.at_i (i := i) t e
    exact ⟨p, by rw [List.getElem?_cons_succ]; exact h1, h2⟩
theorem iter_N {K : KW} {a : Addr} {o : Obj} {kvs : List (NestedKey × Addr × V)} {ds : List (D × D)} {F0 : Hp} (hs : F0 a = some (NdO K.w a o kvs)) (ra : RpN K F0 kvs ds) : IterOk K (Itn K.w a o kvs) (ds.map (·.1)) F0 := fun F H i s0 sH => by
  have hq := sH _ _ (s0 _ _ hs)
  have hl := ra.length
  refine ⟨fun e => ⟨hq, by rw [hl, e, List.length_map]; exact Nat.le_refl _⟩, fun d e => ?_⟩
  have hi : i < ds.length := by
    have := (List.getElem?_eq_some_iff.mp e).1
    rw [List.length_map] at this; exact this
  obtain ⟨p, hp, rp⟩ := ra.at_i e
  refine ⟨⟨hq, by omega⟩, ?_⟩
  rintro x H' ⟨rfl, p', hp', rfl⟩
  rw [hp] at hp'; cases hp'
  exact ⟨F, .nil, rp.mono s0⟩
/-- for k in d -/
@[simp] def qKeysN (t : TD) : TDI := fun env Q => t env fun d env1 => match d with
  | .dcn kvs => Q (kvs.map (·.1)) env1
  | _ => False
theorem di_keysN (hl : DE X B e te) : DI X B tg e (qKeysN te) := by
  obtain ⟨ts, p, h⟩ := hl.ex
  refine ⟨_, pi_keysN p, fun F H σ env Q R' R ht k => ?_⟩
  refine h F H σ env _ _ R ht fun d env1 v F1 H1 q1 s1 R1 r1 => ?_
  cases r1 with
  | dcn hs ra => exact ⟨_, _, _, rfl, R1.sub _ _ hs, k _ env1 _ F1 H1 q1 s1 R1 (iter_N hs ra)⟩
  | _ => exact q1.elim
/-! ### list(d) -/
theorem vals_at : ∀ {xs : List V} {acc : List Value}, acc.length = xs.length → (∀ (i : Nat) (x : V), xs[i]? = some x → ∃ u, acc[i]? = some u ∧ RelV x u) → Vals xs acc
  | [], [], _, _ => .nil
  | [], _ :: _, e, _ => by cases e
  | _ :: _, [], e, _ => by cases e
  | x :: xs, a :: acc, e, h => by
    obtain ⟨u, hu, r⟩ := h 0 x rfl
    cases hu
    exact .cons r (vals_at (Nat.succ.inj e) fun i y hy => h (i + 1) y hy)
theorem call_listN (hc : X.calm = true) : CallR X (.type "list") (fun xs H Q => ∃ a o kvs, xs = [.ref a] ∧ H a = some (NdO X.w a o kvs) ∧ ∀ l, H l = none → Q (.ref l) (upd H l (.lst (kvs.map fun p => V.ref p.2.1)))) := by
  intro pins s σ H xs us Q I r h
  obtain ⟨a, o, kvs, rfl, e, q⟩ := h
  obtain ⟨u, rfl, rx⟩ := vals1 r
  cases rx
  obtain ⟨hs, hgd, hx, es, ep, hdt, hsz, ent⟩ := nd_inv I e
  have hz : es.size ≤ sizeLine := by
    obtain ⟨⟨z, _⟩, _⟩ := (show ObjOk X.prog X.w H s.heap a (NdO X.w a o kvs) from I.hok a _ e)
    omega
  refine PySem.W.kdl_call (KdlSrc.rawDict (es := es) (ep := ep) hs) (I.ok.hd hc) ⟨o, hgd, hx, hdt⟩ hz fun h' tk acc c kp hn hit => ?_
  have hv : Vals (kvs.map fun p => V.ref p.2.1) acc.toList := vals_at (by rw [List.length_map, Array.length_toList, hit.1, hsz]) fun i x hx => by
    rw [List.getElem?_map] at hx
    obtain ⟨p, hp, rfl⟩ := Option.map_eq_some_iff.mp hx
    obtain ⟨en, hen, hkey, _⟩ := ent i p hp
    obtain ⟨hi, he⟩ := Array.getElem?_eq_some_iff.mp hen
    have hi2 : i < acc.size := by rw [hit.1]; exact hi
    obtain ⟨_, hw⟩ := hit.2 i acc[i] (Array.getElem?_eq_getElem hi2)
    refine ⟨acc[i], by rw [Array.getElem?_toList]; exact Array.getElem?_eq_getElem hi2, ?_⟩
    rw [hw, he, hkey]; rfl
  exact ⟨.ref s.heap.objs.size, _, I.laid (t' := tk) kp (Nat.le_refl _) (show ObjOk X.prog X.w _ h' _ (.lst _) from ⟨by rw [List.length_map, ← hsz]; exact hz, acc.toList, c, hv, by rw [Array.toArray_toList]; exact hn⟩), rfl, q _ (I.hok.fresh (Nat.le_refl _))⟩
theorem RpN.keys {K : KW} {F : Hp} : ∀ {kvs : List (NestedKey × Addr × V)} {ds : List (D × D)}, RpN K F kvs ds → RpA K F (kvs.map fun p => V.ref p.2.1) (ds.map (·.1))
  | _, _, .nil => .nil
  | _, _, .cons _ h _ t => .cons h t.keys
@[simp] def listE : D → (D → Prop) → Prop := fun d Q => match d with
  | .dcn kvs => Q (.lst (kvs.map (·.1)))
  | _ => listD d Q
theorem c_listE (hc : X.calm = true) : DCl X (.type "list") (n1 listE) := by
  obtain ⟨r, hr, f⟩ := c_list (X := X)
  refine ⟨_, hr.or (call_listN hc), fun F H xs ds Q Q' s rr h k => ?_⟩
  obtain ⟨d, rfl, h⟩ := n1_of h
  obtain ⟨v, rfl, r1⟩ := rpa1 rr
  have old : ∀ {d}, Rp X.kw F v d → listD d Q → r [v] H Q' := fun r1 h => f F H [v] [_] Q Q' s (.one r1) h k
  cases r1 with
  | dcn hf rn => exact .inr ⟨_, _, _, rfl, s _ _ hf, fun p hp => k _ _ _ _ h (.new hp) (.lst upd_same (rn.keys.mono (same_upd (s.free hp))))⟩
  | lst h1 h2 => exact .inl (old (.lst h1 h2) h)
  | scr h1 h2 => exact .inl (old (.scr h1 h2) h)
  | tup h1 h2 => exact .inl (old (.tup h1 h2) h)
  | _ => exact h.elim
end
end L2.DL

namespace L2.DL
open PySem PySem.Spec PyProof.Rows
/-! ### dict(a list of pairs) with keys that are tuples -/
def ndPuts (acc ws : List (NestedKey × Addr × V)) : List (NestedKey × Addr × V) := ws.foldl (fun a p => ndPut a p.1 p.2.1 p.2.2) acc
theorem nd_puts : ∀ {ws acc : List (NestedKey × Addr × V)} {prs xs : List (NestedKey × Addr × Value)}, Paired NdRel ws prs → Paired NdRel acc xs → Paired NdRel (ndPuts acc ws) (storedAllH xs prs)
  | _, _, _, _, .nil, h => h
  | _, _, _, _, .cons (a := p) (b := q) ⟨h1, h2, h3⟩ t, h => by
    show Paired NdRel (ndPuts (ndPut _ p.1 p.2.1 p.2.2) _) (storedAllH (storedH _ q.1 q.2.1 q.2.2) _)
    rw [← h1, ← h2]
    exact nd_puts t (nd_put h3 h)
theorem ndPuts_len : ∀ (ws acc : List (NestedKey × Addr × V)), (ndPuts acc ws).length ≤ acc.length + ws.length
  | [], acc => Nat.le_refl _
  | p :: ws, acc => by
    have h1 := ndPuts_len ws (ndPut acc p.1 p.2.1 p.2.2)
    have h2 := ndPut_len acc p.1 p.2.1 p.2.2
    show (ndPuts (ndPut acc p.1 p.2.1 p.2.2) ws).length ≤ _
    rw [List.length_cons]; omega
section
variable {X : Cx} {pins : List (Addr × Obj)} {σ : St} {F H : Hp} {s : Shared}
theorem pairs_ofN (I : Inv X pins σ H s) : ∀ {as : List Addr} {ws : List (NestedKey × Addr × V)}, Paired (fun p (kv : NestedKey × Addr × V) => SqT X.K H p [.ref kv.2.1, kv.2.2]) as ws →
    ∃ prs : List (NestedKey × Addr × Value), Paired NdRel ws prs ∧ ∀ (j : Nat) (q : NestedKey × Addr × Value), prs[j]? = some q → ∃ p, as[j]? = some p ∧ IsTup s.heap p #[.ref q.2.1, q.2.2]
  | _, _, .nil => ⟨[], .nil, fun j q e => by simp at e⟩
  | _, _, .cons (a := p) (b := kv) h t => by
    obtain ⟨prs, r, hp⟩ := pairs_ofN I t
    obtain ⟨its, rv, ht, _⟩ := I.tuple h
    obtain ⟨u, y, ei, ru, ry⟩ := vals2 rv
    subst ei
    cases ru
    refine ⟨(kv.1, kv.2.1, y) :: prs, .cons ⟨rfl, rfl, ry⟩ r, fun j q e => ?_⟩
    cases j with
    | zero => cases (Option.some.inj e : (kv.1, kv.2.1, y) = q); exact ⟨p, rfl, ht⟩
    | succ j =>
      obtain ⟨b, e1, e2⟩ := hp j q (by simpa using e)
      exact ⟨b, by simpa using e1, e2⟩
theorem call_dictPN (hcalm : X.calm = true) (hu : X.A.units + 64 < cLine) : CallR X (.type "dict") (fun xs H Q => ∃ (a : Addr) (F : Hp) (as : List Addr) (ws : List (NestedKey × Addr × V)) (ds : List (D × D)), xs = [.ref a] ∧ Same F H ∧ SqL X.K H a (as.map V.ref) ∧
    Paired (fun p (kv : NestedKey × Addr × V) => SqT X.K H p [.ref kv.2.1, kv.2.2]) as ws ∧ RpN X.kw F ws ds ∧ ∀ p o, H p = none → Q (.ref p) (upd H p (NdO X.w p o (ndPuts [] ws)))) := by
  intro pins s σ H xs us Q I r q
  obtain ⟨a, F, as, ws, ds, ex, sF, hq, hp, rN, q⟩ := q
  subst ex
  obtain ⟨u, eu, rx⟩ := vals1 r
  subst eu
  cases rx
  obtain ⟨its, rv, pl, hz⟩ := I.list hq
  have ei := refs_at rv
  subst ei
  rw [List.length_map] at hz
  obtain ⟨prs, rel, hpr⟩ := pairs_ofN I hp
  obtain ⟨o, n, ho, hc, hd, hdat⟩ := pl
  have l1 := Paired.length hp
  have l2 := Paired.length rel
  have hkeys := nd_keys I sF rN rel
  have PA := PairArg.list (prog := X.prog) (w := X.w) a (as.map Value.ref).toArray (fun j => as[j]?.getD 0) (prs.map fun q => (Value.ref q.2.1, q.2.2))
  refine call_dict_pairsH (knd := nestedKind X.prog X.w) (ps := prs) PA (I.ok.hd hcalm) (by show X.A.units + 1 + 1 + 8 < cLine; omega) ⟨⟨o, _, ho, hc, hd, hdat⟩, ?_, ?_⟩ ⟨by rw [List.length_map], ?_⟩ ?_ ?_ fun h' tk hd' k => ?_
  · simp; omega
  · intro j k v e
    rw [List.getElem?_map] at e
    obtain ⟨p, hp2, e2⟩ := Option.map_eq_some_iff.mp e
    cases e2
    obtain ⟨b, e1, e2⟩ := hpr j p hp2
    refine ⟨by simp [e1], .inl ?_⟩
    show s.heap.IsTuple (as[j]?.getD 0) _
    rw [e1]
    exact e2
  · intro i key v e
    have e' : (prs.map fun q => (Value.ref q.2.1, q.2.2))[i]? = some (key, v) := e
    rw [List.getElem?_map] at e'
    obtain ⟨p, hp2, e2⟩ := Option.map_eq_some_iff.mp e'
    cases e2
    exact ⟨p.1, p.2.1, hp2, rfl⟩
  · intro h' hk x hx
    exact nestedKind_stays.stays (fun b o' vs n e _ => hk b o' (Nat.ne_of_lt (Heap.lt_size e)) (by simp) e) (hkeys x hx)
  · rw [List.length_map]; omega
  · have hm : (s.heap.objs.size == sysModules) = false := beq_eq_false_iff_ne.mpr (Nat.ne_of_gt I.big)
    have hlen : (ndPuts [] ws).length ≤ sizeLine := by
      have := ndPuts_len ws []
      rw [List.length_nil] at this; omega
    obtain ⟨o', new⟩ := nd_ok (P := X.prog) (H' := fun o' => upd H s.heap.objs.size (NdO X.w s.heap.objs.size o' (ndPuts [] ws))) hlen hm (nd_puts rel .nil) hd'
    exact ⟨.ref s.heap.objs.size, _, I.laid (t' := tk) (fun b o e => k b o (by simp) e) (Nat.le_refl _) new, rfl, q _ o' (I.hok.fresh (Nat.le_refl _))⟩
end
def nputs (acc more : List (D × D)) : List (D × D) := more.foldl (fun a p => nput a p.1 p.2) acc
def pairsN : List D → Option (List (D × D))
  | [] => some []
  | .tup [k, v] :: r => match pairsN r with
    | some kvs => some ((k, v) :: kvs)
    | none => none
  | _ :: _ => none
section
variable {K : KW} {F : Hp}
theorem pairsN_rp : ∀ {ps : List D} {vs : List V} {kvs : List (D × D)}, pairsN ps = some kvs → (∀ p ∈ kvs, KeyOk p.1) → RpA K F vs ps →
    ∃ (as : List Addr) (ws : List (NestedKey × Addr × V)), vs = as.map V.ref ∧ Paired (fun p (kv : NestedKey × Addr × V) => SqT K.K F p [.ref kv.2.1, kv.2.2]) as ws ∧ RpN K F ws kvs
  | [], _, kvs, h, _, .nil => by
    cases h
    exact ⟨[], [], rfl, .nil, .nil⟩
  | p :: r, _, kvs, h, ok, .cons r1 rr => by
    unfold pairsN at h
    split at h
    · rename_i h0; cases h0
    · rename_i k v r' e0
      cases e0
      split at h
      · rename_i kv2 hr
        cases h
        obtain ⟨as, ws, rfl, pp, rk⟩ := pairsN_rp hr (fun p m => ok p (List.mem_cons_of_mem _ m)) rr
        cases r1 with
        | tup q ra =>
          cases ra with
          | cons rk1 ra2 =>
            cases ra2 with
            | cons rv ra3 =>
              cases ra3
              obtain ⟨b, κ, rfl, hk, hd⟩ := KeyOk.ref (ok _ List.mem_cons_self) rk1
              exact ⟨_ :: as, (κ, b, _) :: ws, rfl, .cons q pp, .cons ⟨hk, hd⟩ rk1 rv rk⟩
      · cases h
    · cases h
theorem RpN.puts : ∀ {ws : List (NestedKey × Addr × V)} {acc : List (NestedKey × Addr × V)} {kvs ds : List (D × D)}, RpN K F ws kvs → RpN K F acc ds → RpN K F (ndPuts acc ws) (nputs ds kvs)
  | [], _, _, _, w, h => by cases w; exact h
  | p :: ws, acc, _, _, w, r => by
    cases w with
    | @cons k b v d e _ ds2 q h g t =>
      show RpN K F (ndPuts (ndPut acc k b v) ws) (nputs (nput _ d e) ds2)
      exact RpN.puts (ws := ws) t (RpN.put q.1 q.2 h g r)
end
@[simp] def dictPN : D → (D → Prop) → Prop := fun d Q => match d with
  | .lst ps => ∃ kvs, pairsN ps = some kvs ∧ (∀ p ∈ kvs, KeyOk p.1) ∧ Q (.dcn (nputs [] kvs))
  | _ => False
theorem c_dictPN {X : Cx} (hc : X.calm = true) (hu : X.A.units + 64 < cLine) : DCl X (.type "dict") (n1 dictPN) := by
  refine ⟨_, call_dictPN hc hu, fun F H xs ds Q Q' s r h k => ?_⟩
  obtain ⟨d, rfl, h⟩ := n1_of h
  obtain ⟨v, rfl, r1⟩ := rpa1 r
  cases r1 with
  | lst h1 ra =>
    obtain ⟨kvs, hk, ok, q⟩ := h
    obtain ⟨as, ws, rfl, pp, rk⟩ := pairsN_rp hk ok ra
    exact ⟨_, F, as, ws, kvs, rfl, s, .of (s _ _ h1), Paired.imp2 (fun a b h => same_sqT s h) pp, rk, fun p o hp => k _ _ _ _ q (.new hp) (.dcn upd_same ((RpN.puts rk .nil).mono (same_upd (s.free hp))))⟩
  | _ => exact h.elim
theorem hu64 {k : Nat} {A : Around} (hr : Room k A) : A.units + 64 < cLine := by have := hr.un; omega
end L2.DL

namespace L2.DL
open PySem PySem.Spec PyProof.Rows
/-! ### x in a list of whole data -/
@[simp] def inX : S2 := fun d e Q => match e with
  | .lst ys => deepOk d (.lst ys) ∧ Q (.bl ((D.pys ys).any fun z => PyData.eqv z d.py))
  | _ => inD d e Q
section
variable {X : Cx}
theorem o_inX (hu : X.A.units + 65 < cLine) : DOp X (compareOp .In) inX := by
  obtain ⟨r, hr, f⟩ := o_in (X := X) (by omega)
  refine ⟨_, hr.or (op_inD hu), fun F H x y d e Q Q' s rx ry h k => ?_⟩
  cases e with
  | lst ys =>
    obtain ⟨⟨p1, p2, p3, p4⟩, h⟩ := h
    refine .inr ⟨_, D.pys ys, dp_of s d x rx p1, ?_, p3, ?_, k _ _ F H h .nil (.bl _)⟩
    · have := dp_of s (.lst ys) y ry p2
      rw [D.py] at this; exact this
    · rw [D.py] at p4; exact p4
  | _ => exact .inl (f F H x y d _ Q Q' s rx ry h k)
end
/-! ### look-ups in dicts keyed by tuples, after stores -/
theorem nget_put (ds : List (D × D)) (k e k' : D) : nget (nput ds k e) k' = if nkey k = nkey k' then some e else nget ds k' := by
  have key : ∀ ds : List (D × D), nget (ds.map fun p => if nkey p.1 = nkey k then (p.1, e) else p) k' = if nkey k = nkey k' then (nget ds k').map (fun _ => e) else nget ds k' := by
    intro ds
    induction ds with
    | nil => unfold nget; simp
    | cons p r ih =>
      unfold nget at ih ⊢
      rw [List.map_cons]
      by_cases a : nkey p.1 = nkey k
      · rw [if_pos a]
        by_cases b : nkey p.1 = nkey k'
        · rw [List.find?_cons_of_pos (by simpa using b), List.find?_cons_of_pos (by simpa using b), if_pos (a.symm.trans b)]; rfl
        · rw [List.find?_cons_of_neg (by simpa using b), List.find?_cons_of_neg (by simpa using b)]; exact ih
      · rw [if_neg a]
        by_cases b : nkey p.1 = nkey k'
        · rw [List.find?_cons_of_pos (by simpa using b), List.find?_cons_of_pos (by simpa using b), if_neg (fun z => a (b.trans z.symm))]
        · rw [List.find?_cons_of_neg (by simpa using b), List.find?_cons_of_neg (by simpa using b)]; exact ih
  unfold nput
  by_cases h : (nget ds k).isSome = true
  · rw [if_pos h, key]
    by_cases q : nkey k = nkey k'
    · rw [if_pos q, if_pos q]
      have z : nget ds k' = nget ds k := by unfold nget; rw [q]
      rw [z]
      obtain ⟨x, hx⟩ := Option.isSome_iff_exists.mp h
      rw [hx]; rfl
    · rw [if_neg q, if_neg q]
  · rw [if_neg h]
    have h0 : nget ds k = none := by cases z : nget ds k with | none => rfl | some x => rw [z] at h; exact absurd rfl h
    by_cases q : nkey k = nkey k'
    · rw [if_pos q]
      have z : nget ds k' = none := by rw [← h0]; unfold nget; rw [q]
      unfold nget at z ⊢
      have z2 := Option.map_eq_none_iff.mp z
      rw [List.find?_append, z2, List.find?_cons_of_pos (by simpa using q)]; rfl
    · rw [if_neg q]
      unfold nget
      rw [List.find?_append, List.find?_cons_of_neg (by simpa using q), List.find?_nil, Option.or_none]
theorem nget_puts {α : Type} (key : α → D) (V : α → D) : ∀ (as : List α) (acc : List (D × D)) (a : α), (∀ b ∈ as, nkey (key b) = nkey (key a) → V b = V a) → (a ∈ as ∨ nget acc (key a) = some (V a)) → nget (nputs acc (as.map fun a => (key a, V a))) (key a) = some (V a)
  | [], acc, a, _, h => by
    rcases h with h | h
    · cases h
    · exact h
  | b :: r, acc, a, hi, h => by
    show nget (nputs (nput acc (key b) (V b)) (r.map _)) (key a) = _
    refine nget_puts key V r _ a (fun c m => hi c (List.mem_cons_of_mem _ m)) ?_
    rw [nget_put]
    by_cases q : nkey (key b) = nkey (key a)
    · exact .inr (by rw [if_pos q, hi b List.mem_cons_self q])
    · rw [if_neg q]
      rcases h with h | h
      · rcases List.mem_cons.mp h with e | h
        · subst e; exact absurd rfl q
        · exact .inl h
      · exact .inr h
theorem pairsN_map {α : Type} (k v : α → D) : ∀ as : List α, pairsN (as.map fun a => .tup [k a, v a]) = some (as.map fun a => (k a, v a))
  | [] => rfl
  | a :: r => by rw [List.map_cons, pairsN, pairsN_map k v r]; rfl
theorem hu65 {k : Nat} {A : Around} (hr : Room k A) : A.units + 65 < cLine := by have := hr.un; omega
end L2.DL

namespace L2.DL
open PySem PySem.Spec PyProof.Rows
/-! ### instances of classes: fields of data, fields of one's own -/
@[simp] def fldK (f : Str) : List (Str × D) → (D → Prop) → Prop
  | [], _ => False
  | (x, d) :: r, k => match decide (x = f) with
    | true => k d
    | false => fldK f r k
theorem fldK_of {f : Str} {k : D → Prop} : ∀ {fs : List (Str × D)}, fldK f fs k → ∃ d, fs.lookup f = some d ∧ k d
  | [], h => h.elim
  | (x, d) :: r, h => by
    unfold fldK at h
    rw [List.lookup_cons]
    by_cases q : x = f
    · rw [decide_eq_true q] at h
      have : (f == x) = true := by rw [q]; exact beq_self_eq_true f
      rw [this]
      exact ⟨d, rfl, h⟩
    · rw [decide_eq_false q] at h
      have : (f == x) = false := by rw [beq_eq_false_iff_ne]; exact fun z => q z.symm
      rw [this]
      exact fldK_of h
@[simp] def noF (f : Str) : List (Str × D) → Bool
  | [] => true
  | (x, _) :: r => !decide (x = f) && noF f r
theorem noF_of {f : Str} : ∀ {fs : List (Str × D)}, noF f fs = true → fs.lookup f = none
  | [], _ => rfl
  | (x, d) :: r, h => by
    unfold noF at h
    rw [Bool.and_eq_true] at h
    have : (f == x) = false := by
      rw [beq_eq_false_iff_ne]
      intro z
      rw [decide_eq_true z.symm] at h
      cases h.1
    rw [List.lookup_cons, this]
    exact noF_of h.2
@[simp] def fdK (f : Str) : List (Str × Fd) → (Fd → Prop) → Prop
  | [], _ => False
  | (x, d) :: r, k => match decide (x = f) with
    | true => k d
    | false => fdK f r k
@[simp] def noFd (f : Str) : List (Str × Fd) → Bool
  | [] => true
  | (x, _) :: r => !decide (x = f) && noFd f r
@[simp] def putK (f : Str) (e : Fd) : List (Str × Fd) → (List (Str × Fd) → Prop) → Prop
  | [], k => k [(f, e)]
  | (x, y) :: r, k => match decide (x = f) with
    | true => k ((x, e) :: r)
    | false => putK f e r fun r' => k ((x, y) :: r')
def putFd (f : Str) (e : Fd) : List (Str × Fd) → List (Str × Fd)
  | [] => [(f, e)]
  | (x, y) :: r => if x = f then (x, e) :: r else (x, y) :: putFd f e r
theorem putK_of {f : Str} {e : Fd} : ∀ {fs : List (Str × Fd)} {k : List (Str × Fd) → Prop}, putK f e fs k → k (putFd f e fs)
  | [], _, h => h
  | (x, y) :: r, k, h => by
    unfold putK at h
    unfold putFd
    by_cases q : x = f
    · rw [decide_eq_true q] at h
      rw [if_pos q]; exact h
    · rw [decide_eq_false q] at h
      rw [if_neg q]; exact putK_of h
section
variable {K : KW} {F H : Hp} {f : Str}
theorem FdOk.get : ∀ {vs : List (Str × V)} {fs : List (Str × Fd)} {k : Fd → Prop}, FdOk K F H vs fs → fdK f fs k →
    ∃ v, vs.lookup f = some v ∧ ((∃ d, Rp K F v d ∧ k (.d d)) ∨ (∃ b ws xs, v = .ref b ∧ b ∈ fdSubs fs ∧ H b = some (.lst ws) ∧ RpA K F ws xs ∧ k (.l b xs)))
  | _, _, _, .nil, h => h.elim
  | _, _, k, .d (x := x) (v := v) (e := dd) r t, h => by
    unfold fdK at h
    by_cases q : x = f
    · rw [decide_eq_true q] at h
      have z : (f == x) = true := by rw [q]; exact beq_self_eq_true f
      exact ⟨v, by rw [List.lookup_cons, z], .inl ⟨dd, r, h⟩⟩
    · rw [decide_eq_false q] at h
      have z : (f == x) = false := by rw [beq_eq_false_iff_ne]; exact fun z => q z.symm
      obtain ⟨v, h1, h2⟩ := FdOk.get t h
      exact ⟨v, by rw [List.lookup_cons, z]; exact h1, h2⟩
  | _, _, k, .l (x := x) (b := b) (ws := ws) (xs := xs) hb r t, h => by
    unfold fdK at h
    by_cases q : x = f
    · rw [decide_eq_true q] at h
      have z : (f == x) = true := by rw [q]; exact beq_self_eq_true f
      exact ⟨_, by rw [List.lookup_cons, z], .inr ⟨b, ws, xs, rfl, List.mem_cons_self, hb, r, h⟩⟩
    · rw [decide_eq_false q] at h
      have z : (f == x) = false := by rw [beq_eq_false_iff_ne]; exact fun z => q z.symm
      obtain ⟨v, h1, h2⟩ := FdOk.get t h
      refine ⟨v, by rw [List.lookup_cons, z]; exact h1, ?_⟩
      rcases h2 with h2 | ⟨b', ws', xs', k1, k2, k3⟩
      · exact .inl h2
      · exact .inr ⟨b', ws', xs', k1, List.mem_cons_of_mem _ k2, k3⟩
theorem FdOk.noF : ∀ {vs : List (Str × V)} {fs : List (Str × Fd)}, FdOk K F H vs fs → noFd f fs = true → vs.lookup f = none
  | _, _, .nil, _ => rfl
  | _, _, .d (x := x) r t, h => by
    unfold noFd at h
    rw [Bool.and_eq_true] at h
    have : (f == x) = false := by
      rw [beq_eq_false_iff_ne]
      intro z
      rw [decide_eq_true z.symm] at h
      cases h.1
    rw [List.lookup_cons, this]
    exact FdOk.noF t h.2
  | _, _, .l (x := x) hb r t, h => by
    unfold noFd at h
    rw [Bool.and_eq_true] at h
    have : (f == x) = false := by
      rw [beq_eq_false_iff_ne]
      intro z
      rw [decide_eq_true z.symm] at h
      cases h.1
    rw [List.lookup_cons, this]
    exact FdOk.noF t h.2
theorem FdOk.length : ∀ {vs : List (Str × V)} {fs : List (Str × Fd)}, FdOk K F H vs fs → vs.length = fs.length
  | _, _, .nil => rfl
  | _, _, .d _ t => congrArg (· + 1) (FdOk.length t)
  | _, _, .l _ _ t => congrArg (· + 1) (FdOk.length t)
theorem FdOk.putD {v : V} {d : D} (r : Rp K F v d) : ∀ {vs : List (Str × V)} {fs : List (Str × Fd)}, FdOk K F H vs fs → FdOk K F H (putF f v vs) (putFd f (.d d) fs)
  | _, _, .nil => .d r .nil
  | _, _, .d (x := x) q t => by
    unfold putF putFd
    by_cases z : x = f
    · rw [if_pos z, if_pos z]; exact .d r t
    · rw [if_neg z, if_neg z]; exact .d q (FdOk.putD r t)
  | _, _, .l (x := x) hb q t => by
    unfold putF putFd
    by_cases z : x = f
    · rw [if_pos z, if_pos z]; exact .d r t
    · rw [if_neg z, if_neg z]; exact .l hb q (FdOk.putD r t)
theorem FdOk.putL {b : Addr} {ws : List V} {xs : List D} (hb : H b = some (.lst ws)) (r : RpA K F ws xs) : ∀ {vs : List (Str × V)} {fs : List (Str × Fd)}, FdOk K F H vs fs → FdOk K F H (putF f (.ref b) vs) (putFd f (.l b xs) fs)
  | _, _, .nil => .l hb r .nil
  | _, _, .d (x := x) q t => by
    unfold putF putFd
    by_cases z : x = f
    · rw [if_pos z, if_pos z]; exact .l hb r t
    · rw [if_neg z, if_neg z]; exact .d q (FdOk.putL hb r t)
  | _, _, .l (x := x) hb' q t => by
    unfold putF putFd
    by_cases z : x = f
    · rw [if_pos z, if_pos z]; exact .l hb r t
    · rw [if_neg z, if_neg z]; exact .l hb' q (FdOk.putL hb r t)
theorem putFd_subsD (d : D) : ∀ fs : List (Str × Fd), (fdSubs (putFd f (.d d) fs)).Sublist (fdSubs fs)
  | [] => .slnil
  | (x, .d y) :: r => by
    unfold putFd
    split
    · exact List.Sublist.refl _
    · exact putFd_subsD d r
  | (x, .l b ys) :: r => by
    unfold putFd
    split
    · exact List.sublist_cons_self _ _
    · exact (putFd_subsD d r).cons_cons _
theorem putFd_subsL (b : Addr) (xs : List D) : ∀ fs : List (Str × Fd), ∀ c, c ∈ fdSubs (putFd f (.l b xs) fs) → c = b ∨ c ∈ fdSubs fs
  | [], c, m => .inl (List.mem_singleton.mp m)
  | (x, .d y) :: r, c, m => by
    unfold putFd at m
    split at m
    · rcases List.mem_cons.mp m with q | q
      · exact .inl q
      · exact .inr q
    · exact putFd_subsL b xs r c m
  | (x, .l b' ys) :: r, c, m => by
    unfold putFd at m
    split at m
    · rcases List.mem_cons.mp m with q | q
      · exact .inl q
      · exact .inr (List.mem_cons_of_mem _ q)
    · rcases List.mem_cons.mp m with q | q
      · exact .inr (by rw [q]; exact List.mem_cons_self)
      · exact (putFd_subsL b xs r c q).imp id fun z => List.mem_cons_of_mem _ z
theorem putFd_nodup (b : Addr) (xs : List D) : ∀ fs : List (Str × Fd), (fdSubs fs).Nodup → b ∉ fdSubs fs → (fdSubs (putFd f (.l b xs) fs)).Nodup
  | [], _, _ => List.nodup_cons.mpr ⟨by simp [fdSubs], .nil⟩
  | (x, .d y) :: r, nd, nb => by
    unfold putFd
    split
    · exact List.nodup_cons.mpr ⟨nb, nd⟩
    · exact putFd_nodup b xs r nd nb
  | (x, .l b' ys) :: r, nd, nb => by
    have nd : (b' :: fdSubs r).Nodup := nd
    obtain ⟨n1, n2⟩ := List.nodup_cons.mp nd
    have nb2 : b ∉ fdSubs r := fun m => nb (List.mem_cons_of_mem _ m)
    unfold putFd
    split
    · exact List.nodup_cons.mpr ⟨nb2, n2⟩
    · refine List.nodup_cons.mpr ⟨fun m => ?_, putFd_nodup b xs r n2 nb2⟩
      rcases putFd_subsL b xs r b' m with q | q
      · exact nb (by rw [q]; exact List.mem_cons_self)
      · exact n1 q
end
@[simp] def ownO (n : Str) (env : DEnv) (i : Nat) (k : Bool → List (Str × Fd) → Prop) : Prop := match env[i]? with
  | some (.own fr (.obj m fs)) => (match decide (m = n) with
    | true => k fr fs
    | false => False)
  | _ => False
theorem ownO_of {n : Str} {env : DEnv} {i : Nat} {k : Bool → List (Str × Fd) → Prop} (h : ownO n env i k) : ∃ fr fs, env[i]? = some (.own fr (.obj n fs)) ∧ k fr fs := by
  unfold ownO at h
  split at h
  · rename_i fr m fs e
    by_cases q : m = n
    · subst q
      rw [decide_eq_true rfl] at h
      exact ⟨fr, fs, e, h⟩
    · rw [decide_eq_false q] at h
      exact h.elim
  · exact h.elim
section
variable {X : Cx} {B : Bd} {e o : Expr} {te : TD} {tr : TDR} {pos p1 : Pos} {n f : Str} {C : Addr} {F H : Hp}
theorem own_readO {K : KW} {σ : St} {env : DEnv} {i : Nat} {fr : Bool} {fs : List (Str × Fd)} (R : Rep K B F H σ env) (h : env[i]? = some (.own fr (.obj n fs))) :
    ∃ a C dx vs, σ[i]? = some (some (.ref a)) ∧ K.mg n = some (.ref C) ∧ H a = some (.ins C dx vs) ∧ FdOk K F H vs fs ∧ (a :: fdSubs fs).Nodup := by
  obtain ⟨a, s, ⟨C, dx, vs, h0, h1, h2⟩, _, _, _, nd, _⟩ := R.cells i _ h
  exact ⟨a, C, dx, vs, s, h0, h1, h2, nd⟩
/-- e.f, e an instance that stays -/
@[simp] def qFld (n f : Str) (te : TD) : TD := fun env Q => te env fun d env1 => match d with
  | .ins m fs => (match decide (m = n) with
    | true => fldK f fs fun x => Q x env1
    | false => False)
  | _ => False
theorem de_fld (he : DE X B e te) (hC : X.mg n = some (.ref C)) (c : Cls X.K C) (na : NoAttr X.K C f) (hb : attributeBase e f X.env (eval e X.env) = eval e X.env := by rfl) : DE X B (.Attribute e f pos) (qFld n f te) := by
  obtain ⟨ts, p, h⟩ := he.ex
  refine ⟨_, pe_fld p hb, fun F H σ env Q Q' R ht k => ?_⟩
  refine h F H σ env _ _ R ht fun d env1 v F1 H1 q s1 R1 r1 => ?_
  cases r1 with
  | @ins m a C' dx vs ds hm hf rf =>
    have q : (match decide (m = n) with | true => fldK f ds fun x => Q x env1 | false => False) := q
    by_cases z : m = n
    · subst z
      rw [decide_eq_true rfl] at q
      obtain ⟨x, hx, q⟩ := fldK_of q
      obtain ⟨w, hw, rw'⟩ := rf.get hx
      have hm : X.mg m = some (.ref C') := hm
      rw [hC] at hm; cases hm
      exact ⟨a, C, dx, vs, w, rfl, R1.sub _ _ hf, c, na, hw, k x env1 w F1 H1 q s1 R1 rw'⟩
    · rw [decide_eq_false z] at q; exact q.elim
  | _ => exact q.elim
/-- x.f, x an instance of one's own -/
@[simp] def qFldO (n : Str) (i : Nat) (f : Str) : TD := fun env Q => ownO n env i fun _ fs => fdK f fs fun e => match e with
  | .d d => Q d env
  | .l _ _ => False
theorem de_fldO {i : Nat} (p : PE X o (tVar i)) (hC : X.mg n = some (.ref C)) (c : Cls X.K C) (na : NoAttr X.K C f) (hb : attributeBase o f X.env (eval o X.env) = eval o X.env := by rfl) : DE X B (.Attribute o f pos) (qFldO n i f) := by
  refine ⟨_, pe_fld p hb, fun F H σ env Q Q' R ht k => ?_⟩
  obtain ⟨fr, fs, e0, ht⟩ := ownO_of ht
  obtain ⟨a, C', dx, vs, s, h0, h1, h2, _⟩ := own_readO R e0
  have h0 : X.mg n = some (.ref C') := h0
  rw [hC] at h0; cases h0
  obtain ⟨v, hv, ⟨d, r, q⟩ | ⟨_, _, _, _, _, _, _, q⟩⟩ := h2.get ht
  · exact ⟨_, s, a, C, dx, vs, v, rfl, h1, c, na, hv, k d env v F H q (Same.refl _) R r⟩
  · exact q.elim
/-- x.f = e, x an instance of one's own -/
@[simp] def sFldD (n : Str) (i : Nat) (f : Str) (te : TD) : TDS := fun DD env => te env fun d env1 => ownO n env1 i fun fr fs => match Nat.blt fs.length 900 with
  | true => putK f (.d d) fs fun fs' => setC i (.own fr (.obj n fs')) env1 DD.nx
  | false => False
theorem ds_fldD {i : Nat} (he : DE X B e te) (p : PE X o (tVar i)) (hC : X.mg n = some (.ref C)) (c : Cls X.K C) (na : NoAttr X.K C f) (hs : swapsWith e (some (.Attribute o f p1)) pos.line X.env = pure false := by rfl) : DS X B (.Assign [.Attribute o f p1] e pos) (sFldD n i f te) := by
  obtain ⟨ts, pe, h⟩ := he.ex
  refine ⟨_, ps_fld p pe hs, fun F H σ env DD DH R ht l => ?_⟩
  refine h F H σ env _ _ R ht fun d env1 v F1 H1 q s1 R1 r1 => ?_
  obtain ⟨fr, fs, e1, q⟩ := ownO_of q
  obtain ⟨a, C', dx, vs, s, h0, h1, h2, nd⟩ := own_readO R1 e1
  have h0' : X.mg n = some (.ref C') := h0
  rw [hC] at h0'; cases h0'
  cases hl : Nat.blt fs.length 900 with
  | false => rw [hl] at q; exact q.elim
  | true =>
    rw [hl] at q
    have hl : fs.length < 900 := Nat.le_of_ble_eq_true hl
    refine ⟨_, s, a, C, dx, vs, rfl, h1, c, na, by rw [h2.length]; omega, ?_⟩
    have q := setC_of (putK_of (k := fun fs' => setC i (.own fr (.obj n fs')) env1 DD.nx) q)
    have sl := putFd_subsD (f := f) d fs
    obtain ⟨n1, n2⟩ := List.nodup_cons.mp nd
    refine l.nx _ σ F1 _ q s1 (R1.writeC e1 s (fun b m _ => upd_ne fun z => m (by rw [z]; exact List.mem_cons_self)) ⟨C, dx, _, h0, upd_same, ?_⟩ (List.nodup_cons.mpr ⟨fun m => n1 (sl.subset m), n2.sublist sl⟩) (fun b m => ?_) fun b m => .inl (sl.subset m))
    · refine (h2.mono (Same.refl _) fun b m => ?_).putD r1
      exact upd_ne fun z => n1 (by rw [← z]; exact m)
    · rcases List.mem_cons.mp (show b ∈ a :: fdSubs fs from m) with z | z
      · rw [z, upd_same]; simp
      · rw [upd_ne fun y => n1 (by rw [← y]; exact z)]; exact h2.there b z
/-- x.f = a new list -/
@[simp] def sFldL (n : Str) (i : Nat) (f : Str) (tf : TDF) : TDS := fun DD env => tf env fun o env1 => match o with
  | .lst xs => ownO n env1 i fun fr fs => (match Nat.blt fs.length 900 with
    | true => ∀ b : Addr, putK f (.l b xs) fs fun fs' => setC i (.own fr (.obj n fs')) env1 DD.nx
    | false => False)
  | _ => False
theorem ds_fldL {i : Nat} {tf : TDF} (he : DF X B e tf) (p : PE X o (tVar i)) (hC : X.mg n = some (.ref C)) (c : Cls X.K C) (na : NoAttr X.K C f) (hs : swapsWith e (some (.Attribute o f p1)) pos.line X.env = pure false := by rfl) : DS X B (.Assign [.Attribute o f p1] e pos) (sFldL n i f tf) := by
  obtain ⟨ts, pe, h⟩ := he.ex
  refine ⟨_, ps_fld p pe hs, fun F H σ env DD DH R ht l => ?_⟩
  refine h F H σ env _ _ R ht fun oc env1 b F1 H1 q s1 R1 oc1 hF h0b hP ap => ?_
  cases oc with
  | lst xs =>
    obtain ⟨ws, hb, rb⟩ := oc1
    obtain ⟨fr, fs, e1, q⟩ := ownO_of q
    obtain ⟨a, C', dx, vs, s, h0, h1, h2, nd⟩ := own_readO R1 e1
    have h0' : X.mg n = some (.ref C') := h0
    rw [hC] at h0'; cases h0'
    cases hl : Nat.blt fs.length 900 with
    | false => rw [hl] at q; exact q.elim
    | true =>
      rw [hl] at q
      have q := q b
      have hl : fs.length < 900 := Nat.le_of_ble_eq_true hl
      refine ⟨_, s, a, C, dx, vs, rfl, h1, c, na, by rw [h2.length]; omega, ?_⟩
      have q := setC_of (putK_of (k := fun fs' => setC i (.own fr (.obj n fs')) env1 DD.nx) q)
      obtain ⟨n1, n2⟩ := List.nodup_cons.mp nd
      have ft : ∀ c, c ∈ a :: fdSubs fs → c ∈ foot σ[i]? (.own fr (.obj n fs)) := fun c m => by rw [s]; exact m
      have nb : b ∉ a :: fdSubs fs := fun m => ap.1 i _ e1 (ft b m)
      have nba : b ≠ a := fun z => nb (by rw [z]; exact List.mem_cons_self)
      have nbs : b ∉ fdSubs fs := fun z => nb (List.mem_cons_of_mem _ z)
      refine l.nx _ σ F1 _ q s1 (R1.writeC e1 s (fun b m _ => upd_ne fun z => m (by rw [z]; exact List.mem_cons_self)) ⟨C, dx, _, h0, upd_same, ?_⟩ (List.nodup_cons.mpr ⟨fun m => ?_, putFd_nodup b xs fs n2 nbs⟩) (fun b m => ?_) fun c m => ?_)
      · refine (h2.mono (Same.refl _) fun b m => ?_).putL ?_ rb
        · exact upd_ne fun z => n1 (by rw [← z]; exact m)
        · rw [upd_ne nba]; exact hb
      · rcases putFd_subsL b xs fs a m with z | z
        · exact nba z.symm
        · exact n1 z
      · rcases List.mem_cons.mp (show b ∈ a :: fdSubs fs from m) with z | z
        · rw [z, upd_same]; simp
        · rw [upd_ne fun y => n1 (by rw [← y]; exact z)]; exact h2.there b z
      · rcases putFd_subsL b xs fs c m with z | z
        · rw [z]
          refine .inr ⟨hF, h0b, hP, fun j c' ej mj => ?_⟩
          by_cases y : i = j
          · subst y
            rw [List.getElem?_set_self (List.getElem?_eq_some_iff.mp e1).1] at ej
            cases ej; rw [foot_none] at mj; cases mj
          · rw [List.getElem?_set_ne y] at ej
            exact ap.1 j c' ej mj
        · exact .inl z
  | _ => exact q.elim
end
end L2.DL

namespace L2.DL
open PySem PySem.Spec PyProof.Rows
section
variable {X : Cx} {B : Bd} {e o : Expr} {te : TD} {tr : TDR} {es : List Expr} {pos p1 apos : Pos} {n f m : Str} {C : Addr} {F H : Hp}
/-! ### x.f.append(e), the field a list of the instance's own -/
theorem fdK_mem {f : Str} {b : Addr} {ys : List D} : ∀ {fs : List (Str × Fd)}, (fdK f fs fun e => e = .l b ys) → b ∈ fdSubs fs
  | [], h => h.elim
  | (x, d) :: r, h => by
    unfold fdK at h
    cases z : decide (x = f) with
    | true =>
      rw [z] at h
      have h : d = .l b ys := h
      subst h; exact List.mem_cons_self
    | false =>
      rw [z] at h
      have := fdK_mem (fs := r) h
      cases d with
      | d y => exact this
      | l c zs => exact List.mem_cons_of_mem _ this
theorem FdOk.app {K : KW} {F H H' : Hp} {b : Addr} {ws : List V} {xs : List D} {f : Str} (hb : H' b = some (.lst ws)) (r : RpA K F ws xs) : ∀ {vs : List (Str × V)} {fs : List (Str × Fd)} {ys : List D}, FdOk K F H vs fs → (fdK f fs fun e => e = .l b ys) → (fdSubs fs).Nodup → (∀ c, c ∈ fdSubs fs → c ≠ b → H' c = H c) → FdOk K F H' vs (putFd f (.l b xs) fs)
  | _, _, _, .nil, h, _, _ => h.elim
  | _, _, _, .d (x := x) q t, h, nd, kp => by
    unfold fdK at h
    unfold putFd
    by_cases z : x = f
    · rw [decide_eq_true z] at h; cases h
    · rw [decide_eq_false z] at h
      rw [if_neg z]; exact .d q (FdOk.app hb r t h nd kp)
  | _, _, _, .l (x := x) (b := c) hb' q t, h, nd, kp => by
    obtain ⟨n1, n2⟩ := List.nodup_cons.mp nd
    unfold fdK at h
    unfold putFd
    by_cases z : x = f
    · rw [decide_eq_true z] at h
      have h : Fd.l _ _ = Fd.l b _ := h
      cases h
      rw [if_pos z]; exact .l hb r (t.mono (Same.refl _) fun c m => kp c (List.mem_cons_of_mem _ m) fun y => n1 (by rw [← y]; exact m))
    · rw [decide_eq_false z] at h
      have mb := fdK_mem h
      rw [if_neg z]
      refine .l ?_ q (FdOk.app hb r t h n2 fun c m => kp c (List.mem_cons_of_mem _ m))
      rw [kp c List.mem_cons_self fun y => n1 (by rw [y]; exact mb)]; exact hb'
theorem fdK_at {f : Str} {k : Fd → Prop} : ∀ {fs : List (Str × Fd)}, fdK f fs k → ∃ e, k e ∧ fdK f fs fun e' => e' = e
  | [], h => h.elim
  | (x, d) :: r, h => by
    unfold fdK at h ⊢
    cases z : decide (x = f) with
    | true => rw [z] at h; exact ⟨d, h, rfl⟩
    | false => rw [z] at h; exact fdK_at h
theorem putFd_subsA {f : Str} {b : Addr} {xs ys : List D} : ∀ {fs : List (Str × Fd)}, (fdK f fs fun e => e = .l b ys) → fdSubs (putFd f (.l b xs) fs) = fdSubs fs
  | [], h => h.elim
  | (x, d) :: r, h => by
    unfold fdK at h
    unfold putFd
    by_cases z : x = f
    · rw [decide_eq_true z] at h
      have h : d = .l b ys := h
      subst h
      rw [if_pos z]; rfl
    · rw [decide_eq_false z] at h
      rw [if_neg z]
      cases d with
      | d y => exact putFd_subsA (fs := r) h
      | l c zs => exact congrArg (c :: ·) (putFd_subsA (fs := r) h)
@[simp] def sAppF (n : Str) (i : Nat) (f : Str) (te : TD) : TDS := fun DD env => ownO n env i fun _ fs0 => fdK f fs0 fun e0 => match e0 with
  | .l b0 _ => te env fun d env1 => ownO n env1 i fun fr fs => fdK f fs fun e => (match e with
    | .l b xs => b = b0 ∧ xs.length < sizeLine ∧ putK f (.l b (xs ++ [d])) fs fun fs' => setC i (.own fr (.obj n fs')) env1 DD.nx
    | .d _ => False)
  | .d _ => False
theorem ds_appF {i : Nat} {ce : Expr} {pos' : Pos} (hC : X.mg n = some (.ref C)) (c : Cls X.K C) (na : NoAttr X.K C f) (p : PE X ce (tBM X.kw "list" rAppend (tFld X.K (tVar i) f) (tCons (canE X.kw B te) tNil))) (hs' : swapsWith ce none pos'.line X.env = pure false := by rfl) :
    DS X B (.Expr ce pos') (sAppF n i f te) := by
  refine ⟨_, ps_expr p hs', fun F H σ env DD DH R ht l => ?_⟩
  obtain ⟨fr0, fs0, e0, ht⟩ := ownO_of ht
  obtain ⟨a, C', dx, vs, s, h0, h1, h2, nd⟩ := own_readO R e0
  have h0' : X.mg n = some (.ref C') := h0
  rw [hC] at h0'; cases h0'
  obtain ⟨v, hv, ⟨_, _, q⟩ | ⟨b, ws, xs, rfl, mb, hb, rb, q⟩⟩ := h2.get ht
  · exact q.elim
  refine ⟨_, s, a, C, dx, vs, .ref b, rfl, h1, c, na, hv, .inl ⟨rfl, _, SqL.of hb⟩, F, env, _, R, q, fun d env1 v F1 H1 q s1 R1 r1 => ?_⟩
  obtain ⟨fr, fs, e1, q⟩ := ownO_of q
  obtain ⟨a1, C1, dx1, vs1, t1, g0, g1, g2, gd⟩ := own_readO R1 e1
  rw [s] at t1; cases t1
  obtain ⟨ee, q, hat⟩ := fdK_at q
  obtain ⟨v1, hv1, ⟨_, _, z⟩ | ⟨b1, ws1, xs1, rfl, mb1, hb1, rb1, z⟩⟩ := g2.get hat
  · subst z; exact q.elim
  subst z
  obtain ⟨rfl, q1, q2⟩ := q
  refine ⟨b1, ws1, v, rfl, rfl, hb1, by rw [rb1.length]; exact q1, ?_⟩
  have q2 := setC_of (putK_of (k := fun fs' => setC i (.own fr (.obj n fs')) env1 DD.nx) q2)
  obtain ⟨n1, n2⟩ := List.nodup_cons.mp gd
  have nb : b1 ≠ a := fun z => n1 (by rw [← z]; exact mb1)
  have ss := putFd_subsA (f := f) (b := b1) (xs := xs1 ++ [d]) hat
  refine l.nx _ σ F1 _ q2 s1 (R1.writeC e1 s (fun x m _ => upd_ne fun z => m (by rw [z]; exact List.mem_cons_of_mem _ mb1)) ⟨C1, dx1, vs1, g0, by rw [upd_ne nb.symm]; exact g1, g2.app upd_same (rb1.append (.one r1)) hat n2 fun c _ nc => upd_ne nc⟩ ?_ (fun x m => ?_) fun x m => .inl ?_)
  · show (a :: fdSubs _).Nodup
    rw [ss]; exact gd
  · by_cases z : x = b1
    · rw [z, upd_same]; simp
    · rw [upd_ne z]
      rcases List.mem_cons.mp (show x ∈ a :: fdSubs fs from m) with y | y
      · rw [y, g1]; simp
      · exact g2.there x y
  · have m : x ∈ fdSubs (putFd f (.l b1 (xs1 ++ [d])) fs) := m
    rw [ss] at m; exact m
/-! ### methods -/
/-- e.m(..), e an instance that stays -/
@[simp] def qMeth (n m : Str) (spec : FSpec) (k : Nat) (te : TD) (tr : TDR) : TD := fun env Q => te env fun d env1 => match d with
  | .ins c fs => (match decide (c = n), noF m fs with
    | true, true => tr env1 fun as env2 => (match callOk k (.d (.ins c fs) :: as) with
      | true => spec (.val (.ins c fs) :: handIn env2 as) fun d cs => putC env2 as cs.tail fun env3 => Q d env3
      | false => False)
    | _, _ => False)
  | _ => False
/-- x.m(..), x an instance of one's own -/
@[simp] def qMethO (n m : Str) (spec : FSpec) (k i : Nat) (tr : TDR) : TD := fun env Q => ownO n env i fun _ fs => match noFd m fs with
  | true => tr env fun as env1 => (match callOk k (.s i :: as) with
    | true => spec (handIn env1 (.s i :: as)) fun d cs => putC env1 (.s i :: as) cs fun env2 => Q d env2
    | false => False)
  | false => False
@[simp] def fMeth (n m : Str) (spec : FSpecO) (k : Nat) (te : TD) (tr : TDR) : TDF := fun env Q => te env fun d env1 => match d with
  | .ins c fs => (match decide (c = n), noF m fs with
    | true, true => tr env1 fun as env2 => (match callOk k (.d (.ins c fs) :: as) with
      | true => spec (.val (.ins c fs) :: handIn env2 as) fun d cs => putC env2 as cs.tail fun env3 => Q d env3
      | false => False)
    | _, _ => False)
  | _ => False
@[simp] def fMethO (n m : Str) (spec : FSpecO) (k i : Nat) (tr : TDR) : TDF := fun env Q => ownO n env i fun _ fs => match noFd m fs with
  | true => tr env fun as env1 => (match callOk k (.s i :: as) with
    | true => spec (handIn env1 (.s i :: as)) fun d cs => putC env1 (.s i :: as) cs fun env2 => Q d env2
    | false => False)
  | false => False
theorem de_meth {k k' : Nat} {g : Addr} {fd : FuncData} {ps : List Str} {spec : FSpec} {pl : Sem Bool} (he : DE X B o te) (hC : X.mg n = some (.ref C)) (c : Cls X.K C) (hm : Meth X.K C m g) (G : Fk X.prog X.w X.kw X.mg X.base k g fd ps (spD X.kw k' spec)) (hr : Rm k X.A) (hb : Binds X.kw fd ps []) (ha : DR X B (e :: es) tr)
    (hst : starEach (e :: es) X.env = (false, eval e X.env) :: starEach es X.env := by rfl) (hpl : (backTo pos (starEach es X.env)).any (·.1) = false := by rfl)
    (ht : eval (.Call (.Attribute o m apos) (e :: es) [] pos) X.env = (do
      let ov ← eval o X.env
      standAt apos.atName
      let (f, first) ← holding [ov] (getMethod ov m pl)
      callWith pos f first (backTo pos (starEach (e :: es) X.env)) (backToKw pos (keywordEach [] X.env))) := by rfl) :
    DE X B (.Call (.Attribute o m apos) (e :: es) [] pos) (qMeth n m spec k' te tr) := by
  obtain ⟨t0, p0, h0⟩ := he.ex
  obtain ⟨t1, p1, h1⟩ := ha.ex
  refine ⟨_, pk_meth (pl := pl) p0 c hm G hr hb lets0 p1 hst hpl ht, fun F H σ env Q Q' R ht k => ?_⟩
  refine h0 F H σ env _ _ R ht fun d env1 v F1 H1 q s1 R1 r1 => ?_
  cases r1 with
  | @ins cn a C' dx vs ds hm1 hf rf =>
    have qq : (match decide (cn = n), noF m ds with
      | true, true => tr env1 fun as env2 => (match callOk k' (.d (.ins cn ds) :: as) with
        | true => spec (.val (.ins cn ds) :: handIn env2 as) fun d cs => putC env2 as cs.tail fun env3 => Q d env3
        | false => False)
      | _, _ => False) := q
    clear q
    have q := qq
    clear qq
    cases e1 : decide (cn = n) with
    | false => rw [e1] at q; exact q.elim
    | true =>
    cases e2 : noF m ds with
    | false => rw [e1, e2] at q; exact q.elim
    | true =>
      rw [e1, e2] at q
      obtain rfl : cn = n := of_decide_eq_true e1
      have hm1' : X.mg cn = some (.ref C') := hm1
      rw [hC] at hm1'; cases hm1'
      refine ⟨a, dx, vs, rfl, R1.sub _ _ hf, rf.none (noF_of e2), ?_⟩
      refine h1 F1 H1 σ env1 _ _ R1 q fun as env2 us F2 H2 q2 s2 R2 ra => ?_
      have ra' : ArgsR X.kw F2 σ (.ref a :: us) (.d (.ins cn ds) :: as) := .cons (Rp.mono s2 (.ins hm1 hf rf)) ra
      have q2 : callOk k' (.d (.ins cn ds) :: as) = true ∧ spec (.val (.ins cn ds) :: handIn env2 as) fun d cs => putC env2 as cs.tail fun env3 => Q d env3 := by
        split at q2
        · rename_i hc; exact ⟨hc, q2⟩
        · exact q2.elim
      obtain ⟨hc, hs⟩ := q2
      obtain ⟨hn, nd⟩ := callOk_ok hc

      refine ⟨F2, HandM σ env2 (.d (.ins cn ds) :: as), HandS σ env2 (.d (.ins cn ds) :: as), handIn env2 (.d (.ins cn ds) :: as), by rw [Paired.length ra', hn], R2.handed ra' nd, _, hs, fun d cs v F' H' q s' R' r' => ?_⟩
      exact k d _ v F' H' (putC_of (as := .d (.ins cn ds) :: as) q) ((s1.trans s2).trans s') (take_put (cs := cs) nd ▸ R2.taken ra' s' R') r'
  | _ => exact q.elim
theorem df_meth {k k' : Nat} {g : Addr} {fd : FuncData} {ps : List Str} {spec : FSpecO} {pl : Sem Bool} (he : DE X B o te) (hC : X.mg n = some (.ref C)) (c : Cls X.K C) (hm : Meth X.K C m g) (G : Fk X.prog X.w X.kw X.mg X.base k g fd ps (spO X.kw k' spec)) (hr : Rm k X.A) (hb : Binds X.kw fd ps []) (ha : DR X B (e :: es) tr)
    (hst : starEach (e :: es) X.env = (false, eval e X.env) :: starEach es X.env := by rfl) (hpl : (backTo pos (starEach es X.env)).any (·.1) = false := by rfl)
    (ht : eval (.Call (.Attribute o m apos) (e :: es) [] pos) X.env = (do
      let ov ← eval o X.env
      standAt apos.atName
      let (f, first) ← holding [ov] (getMethod ov m pl)
      callWith pos f first (backTo pos (starEach (e :: es) X.env)) (backToKw pos (keywordEach [] X.env))) := by rfl) :
    DF X B (.Call (.Attribute o m apos) (e :: es) [] pos) (fMeth n m spec k' te tr) := by
  obtain ⟨t0, p0, h0⟩ := he.ex
  obtain ⟨t1, p1, h1⟩ := ha.ex
  refine ⟨_, pk_meth (pl := pl) p0 c hm G hr hb lets0 p1 hst hpl ht, fun F H σ env Q Q' R ht k => ?_⟩
  refine h0 F H σ env _ _ R ht fun d env1 v F1 H1 q s1 R1 r1 => ?_
  cases r1 with
  | @ins cn a C' dx vs ds hm1 hf rf =>
    have qq : (match decide (cn = n), noF m ds with
      | true, true => tr env1 fun as env2 => (match callOk k' (.d (.ins cn ds) :: as) with
        | true => spec (.val (.ins cn ds) :: handIn env2 as) fun d cs => putC env2 as cs.tail fun env3 => Q d env3
        | false => False)
      | _, _ => False) := q
    clear q
    have q := qq
    clear qq
    cases e1 : decide (cn = n) with
    | false => rw [e1] at q; exact q.elim
    | true =>
    cases e2 : noF m ds with
    | false => rw [e1, e2] at q; exact q.elim
    | true =>
      rw [e1, e2] at q
      obtain rfl : cn = n := of_decide_eq_true e1
      have hm1' : X.mg cn = some (.ref C') := hm1
      rw [hC] at hm1'; cases hm1'
      refine ⟨a, dx, vs, rfl, R1.sub _ _ hf, rf.none (noF_of e2), ?_⟩
      refine h1 F1 H1 σ env1 _ _ R1 q fun as env2 us F2 H2 q2 s2 R2 ra => ?_
      have ra' : ArgsR X.kw F2 σ (.ref a :: us) (.d (.ins cn ds) :: as) := .cons (Rp.mono s2 (.ins hm1 hf rf)) ra
      have q2 : callOk k' (.d (.ins cn ds) :: as) = true ∧ spec (.val (.ins cn ds) :: handIn env2 as) fun d cs => putC env2 as cs.tail fun env3 => Q d env3 := by
        split at q2
        · rename_i hc; exact ⟨hc, q2⟩
        · exact q2.elim
      obtain ⟨hc, hs⟩ := q2
      obtain ⟨hn, nd⟩ := callOk_ok hc

      refine ⟨F2, HandM σ env2 (.d (.ins cn ds) :: as), HandS σ env2 (.d (.ins cn ds) :: as), handIn env2 (.d (.ins cn ds) :: as), by rw [Paired.length ra', hn], R2.handed ra' nd, _, hs, fun d cs v F' H' q s' R' oc hF hH ap => ?_⟩
      obtain ⟨n1, n2, n3, _⟩ := R2.newp hH
      refine k d _ v F' H' (putC_of (as := .d (.ins cn ds) :: as) q) ((s1.trans s2).trans s') (take_put (cs := cs) nd ▸ R2.taken ra' s' R') oc hF n2 n3 ⟨?_, ap.2.1, fun b m => ?_⟩
      · exact take_put (cs := cs) nd ▸ R2.takenApart ra' hH ap.1
      · obtain ⟨b1, b2, _, b4⟩ := ap.2.2 b m
        have b2 : H2 b = none := b2
        obtain ⟨_, m2, m3, _⟩ := R2.newp b2
        exact ⟨b1, m2, m3, take_put (cs := cs) nd ▸ R2.takenApart ra' b2 b4⟩
  | _ => exact q.elim
theorem de_methO {k k' i : Nat} {g : Addr} {fd : FuncData} {ps : List Str} {spec : FSpec} {pl : Sem Bool} (he : PE X o (tVar i)) (hC : X.mg n = some (.ref C)) (c : Cls X.K C) (hm : Meth X.K C m g) (G : Fk X.prog X.w X.kw X.mg X.base k g fd ps (spD X.kw k' spec)) (hr : Rm k X.A) (hb : Binds X.kw fd ps []) (ha : DR X B (e :: es) tr)
    (hst : starEach (e :: es) X.env = (false, eval e X.env) :: starEach es X.env := by rfl) (hpl : (backTo pos (starEach es X.env)).any (·.1) = false := by rfl)
    (ht : eval (.Call (.Attribute o m apos) (e :: es) [] pos) X.env = (do
      let ov ← eval o X.env
      standAt apos.atName
      let (f, first) ← holding [ov] (getMethod ov m pl)
      callWith pos f first (backTo pos (starEach (e :: es) X.env)) (backToKw pos (keywordEach [] X.env))) := by rfl) :
    DE X B (.Call (.Attribute o m apos) (e :: es) [] pos) (qMethO n m spec k' i tr) := by
  obtain ⟨t1, p1, h1⟩ := ha.ex
  refine ⟨_, pk_meth (pl := pl) he c hm G hr hb lets0 p1 hst hpl ht, fun F H σ env Q Q' R ht k => ?_⟩
  obtain ⟨fr, fs, e0, q⟩ := ownO_of ht
  obtain ⟨a, C', dx, vs, s, h0, g1, g2, _⟩ := own_readO R e0
  have h0' : X.mg n = some (.ref C') := h0
  rw [hC] at h0'; cases h0'
  cases e2 : noFd m fs with
  | false => rw [e2] at q; exact q.elim
  | true =>
  rw [e2] at q
  refine ⟨_, s, a, dx, vs, rfl, g1, g2.noF e2, ?_⟩
  refine h1 F H σ env _ _ R q fun as env2 us F2 H2 q2 s2 R2 ra => ?_
  have ra' : ArgsR X.kw F2 σ (.ref a :: us) (.s i :: as) := .cons s ra
  have q2 : callOk k' (.s i :: as) = true ∧ spec (handIn env2 (.s i :: as)) fun d cs => putC env2 (.s i :: as) cs fun env3 => Q d env3 := by
    split at q2
    · rename_i hc; exact ⟨hc, q2⟩
    · exact q2.elim
  obtain ⟨hc, hs⟩ := q2
  obtain ⟨hn, nd⟩ := callOk_ok hc

  refine ⟨F2, HandM σ env2 (.s i :: as), HandS σ env2 (.s i :: as), handIn env2 (.s i :: as), by rw [Paired.length ra', hn], R2.handed ra' nd, _, hs, fun d cs v F' H' q s' R' r' => ?_⟩
  exact k d _ v F' H' (putC_of (as := .s i :: as) q) (s2.trans s') (take_put (cs := cs) nd ▸ R2.taken ra' s' R') r'
theorem df_methO {k k' i : Nat} {g : Addr} {fd : FuncData} {ps : List Str} {spec : FSpecO} {pl : Sem Bool} (he : PE X o (tVar i)) (hC : X.mg n = some (.ref C)) (c : Cls X.K C) (hm : Meth X.K C m g) (G : Fk X.prog X.w X.kw X.mg X.base k g fd ps (spO X.kw k' spec)) (hr : Rm k X.A) (hb : Binds X.kw fd ps []) (ha : DR X B (e :: es) tr)
    (hst : starEach (e :: es) X.env = (false, eval e X.env) :: starEach es X.env := by rfl) (hpl : (backTo pos (starEach es X.env)).any (·.1) = false := by rfl)
    (ht : eval (.Call (.Attribute o m apos) (e :: es) [] pos) X.env = (do
      let ov ← eval o X.env
      standAt apos.atName
      let (f, first) ← holding [ov] (getMethod ov m pl)
      callWith pos f first (backTo pos (starEach (e :: es) X.env)) (backToKw pos (keywordEach [] X.env))) := by rfl) :
    DF X B (.Call (.Attribute o m apos) (e :: es) [] pos) (fMethO n m spec k' i tr) := by
  obtain ⟨t1, p1, h1⟩ := ha.ex
  refine ⟨_, pk_meth (pl := pl) he c hm G hr hb lets0 p1 hst hpl ht, fun F H σ env Q Q' R ht k => ?_⟩
  obtain ⟨fr, fs, e0, q⟩ := ownO_of ht
  obtain ⟨a, C', dx, vs, s, h0, g1, g2, _⟩ := own_readO R e0
  have h0' : X.mg n = some (.ref C') := h0
  rw [hC] at h0'; cases h0'
  cases e2 : noFd m fs with
  | false => rw [e2] at q; exact q.elim
  | true =>
  rw [e2] at q
  refine ⟨_, s, a, dx, vs, rfl, g1, g2.noF e2, ?_⟩
  refine h1 F H σ env _ _ R q fun as env2 us F2 H2 q2 s2 R2 ra => ?_
  have ra' : ArgsR X.kw F2 σ (.ref a :: us) (.s i :: as) := .cons s ra
  have q2 : callOk k' (.s i :: as) = true ∧ spec (handIn env2 (.s i :: as)) fun d cs => putC env2 (.s i :: as) cs fun env3 => Q d env3 := by
    split at q2
    · rename_i hc; exact ⟨hc, q2⟩
    · exact q2.elim
  obtain ⟨hc, hs⟩ := q2
  obtain ⟨hn, nd⟩ := callOk_ok hc

  refine ⟨F2, HandM σ env2 (.s i :: as), HandS σ env2 (.s i :: as), handIn env2 (.s i :: as), by rw [Paired.length ra', hn], R2.handed ra' nd, _, hs, fun d cs v F' H' q s' R' oc hF hH ap => ?_⟩
  obtain ⟨n1, n2, n3, _⟩ := R2.newp hH
  refine k d _ v F' H' (putC_of (as := .s i :: as) q) (s2.trans s') (take_put (cs := cs) nd ▸ R2.taken ra' s' R') oc hF n2 n3 ⟨?_, ap.2.1, fun b m => ?_⟩
  · exact take_put (cs := cs) nd ▸ R2.takenApart ra' hH ap.1
  · obtain ⟨b1, b2, _, b4⟩ := ap.2.2 b m
    have b2 : H2 b = none := b2
    obtain ⟨_, m2, m3, _⟩ := R2.newp b2
    exact ⟨b1, m2, m3, take_put (cs := cs) nd ▸ R2.takenApart ra' b2 b4⟩
end
end L2.DL

namespace L2.DL
open PySem PySem.Spec PyProof.Rows
/-! ### a new instance -/
section
variable {K : KW} {B : Bd} {F F' H H' : Hp} {σ : St} {env : DEnv} {c : OC} {p : Addr}
theorem Rep.push (R : Rep K B F H σ env) (h : OcOk K F H p c) (hF : F p = none) (h0 : B.H0 p = none) (hP : B.P p = none) (ap : Apt B F p c σ env) : Rep K B F H (σ ++ [some (.ref p)]) (env ++ [.own true c]) := by
  have pa : ∀ b, Apart b σ env → Apart b (σ ++ List.replicate 1 none) (env ++ List.replicate 1 .none) := fun b a i cl e m => by
    by_cases hl : i < env.length
    · rw [List.getElem?_append_left hl] at e
      rw [List.getElem?_append_left (by rw [← R.len]; exact hl)] at m
      exact a i cl e m
    · rw [List.getElem?_append_right (by omega), List.getElem?_replicate] at e
      split at e
      · cases e; rw [foot_none] at m; cases m
      · cases e
  have R2 := (R.pad 1).setOwn env.length h hF h0 hP (ap.sub pa)
  have e1 : (env ++ List.replicate 1 Cell.none).set env.length (.own true c) = env ++ [.own true c] := by
    rw [List.set_append_right _ _ (Nat.le_refl _), Nat.sub_self]; rfl
  have e2 : (σ ++ List.replicate 1 (none : Option V)).set env.length (some (.ref p)) = σ ++ [some (.ref p)] := by
    rw [R.len, List.set_append_right _ _ (Nat.le_refl _), Nat.sub_self]; rfl
  rw [e1, e2] at R2
  exact R2
theorem Rep.front {τ : St} {ev : DEnv} (R : Rep K B F H (σ ++ τ) (env ++ ev)) (hl : env.length = σ.length) : Rep K B F H σ env where
  len := hl
  sub := R.sub
  fix := R.fix
  gro := R.gro
  new := R.new
  mf := R.mf
  mh := R.mh
  m0 := R.m0
  pin := R.pin
  mp := R.mp
  pf := R.pf
  cells := fun i c e => by
    have hi := (List.getElem?_eq_some_iff.mp e).1
    have := R.cells i c (by rw [List.getElem?_append_left hi]; exact e)
    rw [List.getElem?_append_left (by rw [← hl]; exact hi)] at this
    exact this
  dis := fun i j b c c' e1 e2 s1 s2 => by
    have hi := (List.getElem?_eq_some_iff.mp e1).1
    have hj := (List.getElem?_eq_some_iff.mp e2).1
    exact R.dis i j b c c' (by rw [List.getElem?_append_left hi]; exact e1) (by rw [List.getElem?_append_left hj]; exact e2) (by rw [List.getElem?_append_left (by rw [← hl]; exact hi)]; exact s1) (by rw [List.getElem?_append_left (by rw [← hl]; exact hj)]; exact s2)
theorem Rep.pop (R : Rep K B F H (σ ++ [some (.ref p)]) (env ++ [.own true c])) (hl : env.length = σ.length) : Rep K B F H σ env ∧ OcOk K F H p c ∧ F p = none ∧ B.H0 p = none ∧ B.P p = none ∧ Apt B F p c σ env := by
  have e : (env ++ [Cell.own true c])[env.length]? = some (.own true c) := by rw [List.getElem?_append_right (Nat.le_refl _), Nat.sub_self]; rfl
  have s : (σ ++ [some (V.ref p)])[env.length]? = some (some (.ref p)) := by rw [hl, List.getElem?_append_right (Nat.le_refl _), Nat.sub_self]; rfl
  obtain ⟨a, s', oc, hF, h0, hP, ap⟩ := R.aptAt e
  rw [s] at s'; cases s'
  refine ⟨R.front hl, oc, hF, h0, hP, ap.sub fun b q i cl ei m => ?_⟩
  have hi := (List.getElem?_eq_some_iff.mp ei).1
  refine q i cl ?_ ?_
  · rw [List.getElem?_set_ne (by omega), List.getElem?_append_left hi]; exact ei
  · rw [List.getElem?_append_left (by rw [← hl]; exact hi)]; exact m
theorem putBack_len : ∀ (as : List Arg) (cs : List Cell) (env : DEnv), (putBack env as cs).length = env.length
  | [], _, _ => rfl
  | .d _ :: as, cs, env => putBack_len as cs.tail env
  | .s i :: as, cs, env => by
    show (putBack (env.set i _) as cs.tail).length = _
    rw [putBack_len as cs.tail, List.length_set]
theorem putBack_app (x : Cell) : ∀ (as : List Arg) (cs : List Cell) (env : DEnv), (∀ i, i ∈ slotsOf as → i < env.length) → putBack (env ++ [x]) as cs = putBack env as cs ++ [x]
  | [], _, _, _ => rfl
  | .d _ :: as, cs, env, h => putBack_app x as cs.tail env h
  | .s i :: as, cs, env, h => by
    have hi : i < env.length := h i List.mem_cons_self
    show putBack ((env ++ [x]).set i ((((env ++ [x])[i]?).getD .none).take (cs.headD .none))) as cs.tail = putBack (env.set i ((env[i]?.getD .none).take (cs.headD .none))) as cs.tail ++ [x]
    rw [List.getElem?_append_left hi, List.set_append_left _ _ hi]
    exact putBack_app x as cs.tail _ fun j m => by rw [List.length_set]; exact h j (List.mem_cons_of_mem _ m)
end
section
variable {X : Cx} {B : Bd} {e o : Expr} {te : TD} {tr : TDR} {es : List Expr} {pos p1 apos : Pos} {n f m : Str} {C : Addr}
@[simp] def fNew (n : Str) (spec : FSpec) (k : Nat) (tr : TDR) : TDF := fun env Q => tr env fun as env1 => match callOk k (.d .non :: as) with
  | true => spec (.own false (.obj n []) :: handIn env1 as) fun d cs => (match d, cs with
    | .non, .own false (.obj m fs) :: cs' => putC env1 as cs' fun env2 => Q (.obj m fs) env2
    | _, _ => False)
  | false => False
theorem df_new {k k' : Nat} {g : Addr} {fd : FuncData} {ps : List Str} {spec : FSpec} {x : Str} {p : Pos} (M : Mk X.K C g) (G : Fk X.prog X.w X.kw X.mg X.base k g fd ps (spD X.kw k' spec)) (hr : Rm (k + 1) X.A) (hg : Gl X x) (hm : X.mg x = some (.ref C)) (hn : X.mg n = some (.ref C)) (hb : Binds X.kw fd ps []) (ha : DR X B (e :: es) tr)
    (hdb : (x == ("__debug__" : Str)) = false := by decide) (he : starEach (e :: es) X.env = (false, eval e X.env) :: starEach es X.env := by rfl) (hpl : (backTo pos (starEach es X.env)).any (·.1) = false := by rfl) :
    DF X B (.Call (.Name x p) (e :: es) [] pos) (fNew n spec k' tr) := by
  obtain ⟨t1, p1, h1⟩ := ha.ex
  refine ⟨_, pk_make M G hr hg hm hb lets0 p1 hdb he hpl, fun F H σ env Q Q' R ht k => ?_⟩
  refine h1 F H σ env _ _ R ht fun as env1 us F1 H1 q1 s1 R1 ra => ?_
  have q1 : callOk k' (.d .non :: as) = true ∧ spec (.own false (.obj n []) :: handIn env1 as) fun d cs => (match d, cs with
    | .non, .own false (.obj m fs) :: cs' => putC env1 as cs' fun env2 => Q (.obj m fs) env2
    | _, _ => False) := by
    split at q1
    · rename_i hc; exact ⟨hc, q1⟩
    · exact q1.elim
  obtain ⟨hc, hs⟩ := q1
  obtain ⟨hl, nd⟩ := callOk_ok hc
  have nd : (slotsOf as).Nodup := nd
  intro a dx hx hdx ne

  have nx : (upd H1 dx (.own a)) a = none := by rw [upd_ne ne.symm]; exact hx
  have R2 : Rep X.kw B F1 (upd (upd H1 dx (.own a)) a (.ins C dx [])) σ env1 := (R1.junk hdx).junk nx
  obtain ⟨f1, f2, f3, f4⟩ := R1.newp hx
  have oc : OcOk X.kw F1 (upd (upd H1 dx (.own a)) a (.ins C dx [])) a (.obj n []) := ⟨C, dx, [], hn, upd_same, .nil⟩
  have R3 := R2.push oc f1 f2 f3 (apt f4)
  have L : env1.length = σ.length := R1.len
  have slots : ∀ i, i ∈ slotsOf as → i < σ.length := fun i m => by
    obtain ⟨j, hj, e⟩ := List.getElem_of_mem (mem_slots.mp m)
    obtain ⟨v, _, rv⟩ := args_get ra (k := j) (a := .s i) (by rw [List.getElem?_eq_getElem hj, e])
    exact (List.getElem?_eq_some_iff.mp (show σ[i]? = some (some v) from rv)).1
  have up : ∀ {vs : List V} {as : List Arg}, ArgsR X.kw F1 σ vs as → ArgsR X.kw F1 (σ ++ [some (.ref a)]) vs as := by
    intro vs as r
    induction r with
    | nil => exact .nil
    | @cons v x _ _ r _ ih =>
      refine .cons ?_ ih
      cases x with
      | d y => exact r
      | s i =>
        have r : σ[i]? = some (some v) := r
        show (σ ++ [some (.ref a)])[i]? = _
        rw [List.getElem?_append_left (List.getElem?_eq_some_iff.mp r).1]; exact r
  have ra2 : ArgsR X.kw F1 (σ ++ [some (.ref a)]) (.ref a :: us) (.s env1.length :: as) := .cons (by show (σ ++ [some (V.ref a)])[env1.length]? = _; rw [L, List.getElem?_append_right (Nat.le_refl _), Nat.sub_self]; rfl) (up ra)
  have nd2 : (slotsOf (.s env1.length :: as)).Nodup := List.nodup_cons.mpr ⟨fun m => by have := slots _ m; omega, nd⟩
  have hin : handIn (env1 ++ [.own true (.obj n [])]) (.s env1.length :: as) = .own false (.obj n []) :: handIn env1 as := by
    have h0 : ∀ bs : List Arg, (∀ i, i ∈ slotsOf bs → i < env1.length) → handIn (env1 ++ [.own true (.obj n [])]) bs = handIn env1 bs := by
      intro bs
      induction bs with
      | nil => intro _; rfl
      | cons b r ih =>
        intro h
        cases b with
        | d y =>
          show _ :: _ = _ :: _
          rw [show List.map _ r = handIn (env1 ++ [.own true (.obj n [])]) r from rfl, ih h]; rfl
        | s i =>
          have hi : i < env1.length := h i List.mem_cons_self
          show (((env1 ++ [Cell.own true (.obj n [])])[i]?).getD .none).hand :: handIn (env1 ++ [.own true (.obj n [])]) r = (env1[i]?.getD .none).hand :: handIn env1 r
          rw [List.getElem?_append_left hi, ih fun j m => h j (List.mem_cons_of_mem _ m)]
    show (((env1 ++ [Cell.own true (.obj n [])])[env1.length]?).getD .none).hand :: handIn (env1 ++ [.own true (.obj n [])]) as = _
    rw [List.getElem?_append_right (Nat.le_refl _), Nat.sub_self, h0 as fun i m => by have := slots i m; omega]; rfl
  refine ⟨F1, HandM (σ ++ [some (.ref a)]) (env1 ++ [.own true (.obj n [])]) (.s env1.length :: as), HandS (σ ++ [some (.ref a)]) (env1 ++ [.own true (.obj n [])]) (.s env1.length :: as), _, ?_, R3.handed ra2 nd2, _, by rw [hin]; exact hs, fun d cs v F' H' q s' R' r' => ?_⟩
  · rw [Paired.length ra2]; exact hl
  · have RT := R3.taken ra2 s' R'
    rw [take_put nd2] at RT
    split at q
    · rename_i m fs cs'
      cases r'
      refine ⟨rfl, ?_⟩
      have q := putC_of q
      have pe : putBack (env1 ++ [.own true (.obj n [])]) (.s env1.length :: as) (.own false (.obj m fs) :: cs') = putBack env1 as cs' ++ [.own true (.obj m fs)] := by
        show putBack ((env1 ++ [Cell.own true (.obj n [])]).set env1.length ((((env1 ++ [Cell.own true (.obj n [])])[env1.length]?).getD .none).take (.own false (.obj m fs)))) as cs' = _
        rw [List.getElem?_append_right (Nat.le_refl _), Nat.sub_self, List.set_append_right _ _ (Nat.le_refl _), Nat.sub_self]
        exact putBack_app _ as cs' env1 fun i m => by have := slots i m; omega
      rw [pe] at RT
      obtain ⟨R5, oc5, g1, g2, g3, ap5⟩ := RT.pop (by rw [putBack_len]; exact L)
      exact k (.obj m fs) _ a F' H' q (s1.trans s') R5 oc5 g1 g2 g3 ap5
    · exact q.elim
end
end L2.DL

namespace L2.DL
open PySem PySem.Spec PyProof.Rows
/-! ### the law's own promise, with no name table in it -/
def spLaw (K : PySem.W.Frag) : Sp := fun vs H Q _ => ∃ (a : Addr) (ns : List Int), vs = [.ref a] ∧ SqL K H a (ns.map V.int) ∧ ns.length ≤ 63 ∧ ∀ v H', v = V.bl true → Q v H'
theorem law_weak {P : Program} {w : World} {K : PySem.W.Frag} {mg : Str → Option Value} {base : Heap} {k : Nat} {f : Addr} {fd : FuncData} {ps : List Str} {spec : FSpec} (G : Fk P w K mg base k f fd ps (spD ⟨K, P, w, mg⟩ 1 spec))
    (h : ∀ ns : List Int, ns.length ≤ 63 → spec [.val (.scr (ns.map D.int))] fun d _ => d = .bl true) : Fk P w K mg base k f fd ps (spLaw K) :=
  G.imp fun vs H Q E ⟨a, ns, e, hS, hl, hq⟩ => by
    subst e
    obtain ⟨F, M, ms, cs, l, R, Qd, hs, k⟩ := law_start (K := ⟨K, P, w, mg⟩) (E := E) hS (h ns hl)
    exact ⟨F, M, ms, cs, l, R, Qd, hs, fun d cs' v F' H' q s R' r => hq v H' (k d cs' v F' H' q s R' r)⟩
end L2.DL

namespace L2.DL
open PySem PySem.Spec PyProof.Rows
/-! ### x >= y of tuples of whole numbers -/
def geI (ns ms : List Int) : Bool := Ob.lexAt (fun j => decide (ns.getD j 0 = ms.getD j 0)) (fun j => decide (ms.getD j 0 ≤ ns.getD j 0)) (decide (ns.length ≥ ms.length)) 0 (min ns.length ms.length)
def rGeT (K : PySem.W.Frag) : R2 := fun x y H Q => ∃ (a b : Addr) (ns ms : List Int), x = .ref a ∧ y = .ref b ∧ SqT K H a (ns.map V.int) ∧ SqT K H b (ms.map V.int) ∧ Q (.bl (geI ns ms)) H
theorem op_geT {X : Cx} (hu : X.A.units < cLine) : OpR X (compareOp .GtE) (rGeT X.K) := by
  intro pins s σ H x y v u Q I rx ry h
  obtain ⟨a, b, ns, ms, rfl, rfl, ha, hb, q⟩ := h
  cases rx
  cases ry
  obtain ⟨its, r1, p1, _⟩ := I.tuple ha
  obtain ⟨its2, r2, p2, _⟩ := I.tuple hb
  have i1 : IntsAre its ns := Vals.ints r1
  have i2 : IntsAre its2 ms := Vals.ints r2
  have e1 : its.toArray.size = ns.length := by rw [List.size_toArray]; exact i1.length
  have e2 : its2.toArray.size = ms.length := by rw [List.size_toArray]; exact i2.length
  have at1 : ∀ j (h1 : j < its.toArray.size), ∃ t, its.toArray[j] = .int (ns.getD j 0) t := fun j h1 => PyProof.Rows.IntsAre.int_at i1 _ _ (by simp at h1; simp [h1])
  have at2 : ∀ j (h1 : j < its2.toArray.size), ∃ t, its2.toArray[j] = .int (ms.getD j 0) t := fun j h1 => PyProof.Rows.IntsAre.int_at i2 _ _ (by simp at h1; simp [h1])
  have R := Ob.RcOp.tuples_ge (A := X.A) (s := s) (e := fun j => decide (ns.getD j 0 = ms.getD j 0)) (r := fun j => decide (ms.getD j 0 ≤ ns.getD j 0)) p1 p2 hu (fun j h1 h2 => by
    obtain ⟨t, et⟩ := at1 j h1
    obtain ⟨t', et'⟩ := at2 j h2
    rw [et, et']
    have z : (ns.getD j 0 == ms.getD j 0) = decide (ns.getD j 0 = ms.getD j 0) := by
      by_cases q : ns.getD j 0 = ms.getD j 0
      · rw [decide_eq_true q]; exact beq_iff_eq.mpr q
      · rw [decide_eq_false q]; exact beq_eq_false_iff_ne.mpr q
    rw [← z]
    exact SeqAt.EqAt.int_int _ _ _ _) (fun j h1 h2 _ => by
    obtain ⟨t, et⟩ := at1 j h1
    obtain ⟨t', et'⟩ := at2 j h2
    rw [et, et']
    exact Ob.RcOp.ge_int _ _ _ _)
  rw [e1, e2] at R
  have z : wpAny (model X.prog X.w) X.A (compareOp .GtE (.ref a) (.ref b)) (EP X pins σ Q) X.xe s := R X.prog X.w X.xe (EP X pins σ Q) ⟨.bl _, H, I, rfl, q⟩
  exact z
@[simp] def geT : S2 := fun d e Q => match d, e with
  | .tup xs, .tup ys => ∃ ns ms : List Int, xs = ns.map D.int ∧ ys = ms.map D.int ∧ Q (.bl (geI ns ms))
  | _, _ => False
theorem o_geT {X : Cx} (hu : X.A.units < cLine) : DOp X (compareOp .GtE) geT := by
  refine ⟨_, op_geT hu, fun F H x y d e Q Q' s rx ry h k => ?_⟩
  cases rx with
  | tup h1 r1 =>
    cases ry with
    | tup h2 r2 =>
      obtain ⟨ns, ms, rfl, rfl, q⟩ := h
      have e1 := RpA.of_ints r1
      have e2 := RpA.of_ints r2
      subst e1; subst e2
      exact ⟨_, _, ns, ms, rfl, rfl, same_sqT s h1, same_sqT s h2, k _ _ F H q .nil (.bl _)⟩
    | _ => exact h.elim
  | _ => exact h.elim
/-! ### {k: v}, k a tuple -/
section
variable {X : Cx} {B : Bd} {pos : Pos} {ke ve : Expr} {tk tv : TE} {qk qv : TD}
def tDisp1 (K : KW) (tk tv : TE) : TE := fun σ H Q => ∀ p o, H p = none → tk σ (upd H p (NdO K.w p o [])) fun x H1 => tv σ H1 fun y H2 => ∃ b κ, x = .ref b ∧ H2 p = some (NdO K.w p o []) ∧ NKy K H2 x κ [] ∧ ∀ o', Q (.ref p) (upd H2 p (NdO K.w p o' (ndPut [] κ b y)))
theorem pe_disp1 (hu : X.A.units + 64 < cLine) (hk : PE X ke tk) (hv : PE X ve tv) : PE X (.Dict [some ke] [ve] pos) (tDisp1 X.kw tk tv) := by
  refine ⟨fun pins s σ H Q I q => ?_⟩
  have hn := I.hok.fresh (Nat.le_refl s.heap.objs.size)
  obtain ⟨o, new⟩ := nd_empty (P := X.prog) (w := X.w) (H := H) s.heap I.big
  have I1 := I.laid (a := s.heap.objs.size) (o := NdO X.w s.heap.objs.size o []) (h' := s.heap.push { cls := .type "dict", data := .dict #[] }) (t' := s.toks) (fun _ _ q => Heap.get?_push_of_some _ q) (Nat.le_refl _) new
  have P := (pps_cons (pos := pos) hk hv pps_nil).run pins _ σ _ (fun ps H2 => match ps with
    | [(x, y)] => ∃ b κ, x = .ref b ∧ H2 s.heap.objs.size = some (NdO X.w s.heap.objs.size o []) ∧ NKy X.kw H2 x κ [] ∧ ∀ o', Q (.ref s.heap.objs.size) (upd H2 s.heap.objs.size (NdO X.w s.heap.objs.size o' (ndPut [] κ b y)))
    | _ => False) I1 (q _ o hn)
  have hz := zip_pairTrees [some ke] [ve] X.env pos rfl rfl
  have hlen := pairTrees_length [some ke] [ve] X.env pos rfl rfl
  have hl1 : (pairTrees [some ke] [ve] X.env pos).length = 1 := hlen
  have h0 : pairTrees [some ke] [ve] X.env pos ≠ [] := fun e => by rw [e] at hl1; cases hl1
  rw [arm_eval_Dict, hz, dictDisplay_pairs _ h0 (by rw [hl1]; exact Nat.le_of_ble_eq_true rfl)]
  refine wpAny_bind (wpAny_standAt (wpAny_bind (wpAny_subDictH (knd := nestedKind X.prog X.w) (Q := fun d s' => wpAny (model X.prog X.w) X.A (pure (Value.ref d)) (EP X pins σ Q) X.xe s') (by show X.A.units + 8 < cLine; omega) (by rw [hl1]; exact Nat.le_of_ble_eq_true rfl) ?_)))
  refine wpAny_mono P (fun vs s1 h1 => ?_) fun _ _ e => e
  obtain ⟨ps, H2, I2, rel, h2⟩ := h1
  split at h2
  · rename_i x y
    obtain ⟨b, κ, rfl, e, ⟨F, ds, d, sF, rN, rd, hk2, hd⟩, q2⟩ := h2
    cases rel with
    | cons r1 r2 =>
      cases r2
      obtain ⟨r1, ry⟩ := r1
      rename_i u
      obtain ⟨u1, u2⟩ := u
      have r1 : u1 = Value.ref b := r1
      subst r1
      obtain ⟨zz, hs2, xs, rl, dd⟩ := nd_rd I2 sF e rN
      cases rl
      have ik : NestedIs s1.heap κ (.ref b) := nk_is I2 sF d κ _ _ hk2 rd rfl
      refine ⟨[(κ, b, u2)], ⟨rfl, rfl, ⟨ik, hd⟩, trivial⟩, dd, fun h' tk' dd' hs => wpAny_pure ?_⟩
      have he : ∃ q, h'.get? s.heap.objs.size = some q := let ⟨q, _, _, hq, _⟩ := dd'; ⟨q, hq⟩
      obtain ⟨o', new'⟩ := nd_ok (P := X.prog) (H' := fun o' => upd H2 s.heap.objs.size (NdO X.w s.heap.objs.size o' (ndPut [] κ b y))) (show (ndPut [] κ b y).length ≤ sizeLine by have := ndPut_len [] κ b y; rw [sizeLine_eq]; have z : ([] : List (NestedKey × Addr × V)).length = 0 := rfl; omega) hs2 (nd_put ry .nil) dd'
      exact ⟨.ref s.heap.objs.size, _, d_write I2 (by rw [e]; exact True.intro) hs he new', rfl, q2 o'⟩
  · exact h2.elim
@[simp] def fDispN (tk tv : TD) : TDF := fun env Q => tk env fun k env1 => tv env1 fun d env2 => KeyOk k ∧ Q (.dcn [(k, d)]) env2
theorem df_dispN (hu : X.A.units + 64 < cLine) (hk : ∀ P, DE X (B.withP P) ke qk) (hv : ∀ P, DE X (B.withP P) ve qv) : DF X B (.Dict [some ke] [ve] pos) (fDispN qk qv) := by
  refine ⟨_, pe_disp1 hu (xe' fun P => (hk P).pe) (xe' fun P => (hv P).pe), fun F H σ env Q Q' R hq k => ?_⟩
  intro p o hp
  obtain ⟨n1, n2, n4, n3⟩ := R.newp hp
  have R1 := (R.junk (o := NdO X.w p o []) hp).pinned upd_same n1 n2 n3
  refine ⟨_, F, env, _, R1, hq, fun dk env1 v1 F1 H1 q1 s1 R2 r1 => ?_⟩
  refine ⟨_, F1, env1, _, R2, q1, fun dv env2 v2 F2 H2 q2 s2 R3 r2 => ?_⟩
  obtain ⟨hkey, q2⟩ := q2
  obtain ⟨b, κ, rfl, k1, k2⟩ := hkey.ref r1
  obtain ⟨R4, hD, fD, ap⟩ := Rep.unpinned n4 R3
  refine ⟨b, κ, rfl, hD, ⟨F2, [], dk, R4.sub, .nil, r1.mono s2, k1, k2⟩, fun o' => ?_⟩
  exact k _ env2 p F2 _ q2 (s1.trans s2) (R4.poke hD fD n2 n4 ap) ⟨_, ⟨o', upd_same⟩, RpN.put k1 k2 (r1.mono s2) r2 .nil⟩ fD n2 n4 (apt ap)
end
end L2.DL
namespace L2.DL
theorem hu0 {k : Nat} {A : PySem.Around} (hr : L2.Room k A) : A.units < PySem.cLine := by have := hr.un; omega
end L2.DL

namespace L2.DL
open PySem PySem.Spec PyProof.Rows
/-! ### sorted(..) of tuples of any depth -/
abbrev srtD (ds : List D) : List D := ds.mergeSort (PySem.W.dataLe false D.py)
def rSortD (K : KW) : List V → Hp → VK → Prop := fun vs H Q => ∃ (a : Addr) (xs : List V) (ds : List D) (G : V → D → Prop), vs = [V.ref a] ∧ SqL K H a xs ∧ PySem.W.EachIs G xs ds ∧ (∀ x d, G x d → (∃ t, x = V.ref t) ∧ Dp K H x d.py) ∧
  PySem.W.AllAlike (ds.map D.py) ∧ PySem.W.Sortable (ds.map D.py) ∧ (∀ d ∈ ds, d.py.depth ≤ 60) ∧ ∀ zs p, PySem.W.EachIs G zs (srtD ds) → H p = none → Q (.ref p) (upd H p (.lst zs))
section
variable {X : Cx}
theorem sd_its {pins : List (Addr × Obj)} {s : Shared} {σ : St} {H : Hp} {G : V → D → Prop} (I : Inv X pins σ H s) (hG : ∀ x d, G x d → (∃ t, x = V.ref t) ∧ Dp X.K H x d.py) : ∀ {xs : List V} {ds : List D} {its : List Value}, PySem.W.EachIs G xs ds → Vals xs its →
    PySem.W.EachIs (fun v d => ∃ t, v = Value.ref t ∧ G (.ref t) d) its ds ∧ PySem.W.EachIs (fun v d => ∃ as, Reads s.heap v (D.py d) as) its ds
  | _, _, _, .nil, .nil => ⟨.nil, .nil⟩
  | _, _, _, .cons g r, .cons rv rr => by
    obtain ⟨h1, h2⟩ := sd_its I hG r rr
    obtain ⟨⟨t, rfl⟩, hd⟩ := hG _ _ g
    have hr := Dp.reads I _ _ _ hd rv
    cases rv
    exact ⟨.cons ⟨_, rfl, g⟩ h1, .cons hr h2⟩
theorem sd_of {G : V → D → Prop} : ∀ {out : List Value} {ds : List D}, PySem.W.EachIs (fun v d => ∃ t, v = Value.ref t ∧ G (.ref t) d) out ds → PySem.W.EachIs G (out.map backV) ds ∧ ∀ u ∈ out, ∃ a, u = Value.ref a
  | _, _, .nil => ⟨.nil, fun _ m => by cases m⟩
  | _, _, .cons ⟨t, e, q⟩ r => by
    obtain ⟨h1, h2⟩ := sd_of r
    subst e
    refine ⟨.cons q h1, fun u m => ?_⟩
    rcases List.mem_cons.mp m with e | m
    · exact ⟨t, e⟩
    · exact h2 u m
theorem cr_sortD (hu : X.A.units + 64 < cLine) : CallR X (.builtin "sorted") (rSortD X.kw) := by
  intro pins s σ H vs us Q I r h
  obtain ⟨a, xs, ds, G, rfl, hs, hx, hG, al, so, dp, q⟩ := h
  obtain ⟨its, rv, hl, hz⟩ := I.list hs
  obtain ⟨u, rfl, ru⟩ := vals1 r
  obtain rfl : u = Value.ref a := ru
  obtain ⟨h1, h2⟩ := sd_its I hG hx rv
  refine PySem.W.sorted_data hl.isList h1 h2 al so (by rw [← h1.length, ← rv.length]; exact hz) (fun d m => by have := dp d m; omega) fun out ho eo => ?_
  obtain ⟨h3, h5⟩ := sd_of eo
  obtain ⟨n, hn⟩ := sortedAll_at s.heap its out.toArray
  refine ⟨.ref (s.heap.objs.size + 1), upd H (s.heap.objs.size + 1) (.lst (out.map backV)), I.laid (t' := s.toks) (fun _ _ => sortedAll_old) (Nat.le_succ _) ⟨?_, out, n, vals_back h5, hn⟩, rfl, q _ _ h3 (I.hok.fresh (Nat.le_succ _))⟩
  rw [List.length_map, ho, ← h1.length, ← rv.length]; exact hz
end
theorem RpA.each {K : KW} {F : Hp} : ∀ {ds : List D} {vs : List V}, RpA K F vs ds → PySem.W.EachIs (fun x d => d ∈ ds ∧ Rp K F x d) vs ds
  | [], _, .nil => .nil
  | d :: r, _, .cons h t => .cons ⟨List.mem_cons_self, h⟩ (PySem.W.EachIs.mono (fun _ _ q => ⟨List.mem_cons_of_mem _ q.1, q.2⟩) (RpA.each t))
theorem each_rpa {K : KW} {F F' : Hp} {P : D → Prop} (s : Same F F') : ∀ {vs : List V} {ds : List D}, PySem.W.EachIs (fun x d => P d ∧ Rp K F x d) vs ds → RpA K F' vs ds
  | _, _, .nil => .nil
  | _, _, .cons h t => .cons (Rp.mono s h.2) (each_rpa s t)
/-- what can be sorted: tuples alike -/
structure SrtOk (ds : List D) : Prop where
  tu : ∀ d ∈ ds, ∃ es, d = .tup es
  pl : ∀ d ∈ ds, d.pl = true
  al : PySem.W.AllAlike (ds.map D.py)
  so : PySem.W.Sortable (ds.map D.py)
  dp : ∀ d ∈ ds, d.py.depth ≤ 60
abbrev onL_sortedD : SN := onLst fun ds Q => SrtOk ds ∧ Q (.lst (srtD ds))
theorem c_sortedD {X : Cx} (hu : X.A.units + 64 < cLine) : DCl X (.builtin "sorted") onL_sortedD :=
  lst_run (cr_sortD hu) fun F H a vs ds Q Q' s hs ra h k => by
    obtain ⟨ok, h⟩ := h
    refine ⟨a, vs, ds, fun x d => d ∈ ds ∧ Rp X.kw F x d, rfl, hs, ra.each, fun x d r => ⟨?_, dp_of s d x r.2 (ok.pl d r.1)⟩, ok.al, ok.so, ok.dp, fun zs p hz hp => k _ _ _ _ h (.new hp) (.lst upd_same (each_rpa (same_upd (s.free hp)) hz))⟩
    obtain ⟨es, rfl⟩ := ok.tu d r.1
    cases r.2 with
    | tup h1 ra => exact ⟨_, rfl⟩
section
variable {X : Cx} {B : Bd} {e ce : Expr} {te : TD}
@[simp] def fSrtD (te : TD) : TDF := fun env Q => te env fun d env1 => match d with
  | .lst ds => SrtOk ds ∧ Q (.lst (srtD ds)) env1
  | _ => False
theorem df_srtD (he : DE X B e te) (p : ∀ {t : TE}, PE X e t → PE X ce (tCB (rSortD X.kw) (tCons t tNil))) : DF X B ce (fSrtD te) := by
  obtain ⟨ts, q, h⟩ := he.ex
  refine ⟨_, p q, fun F H σ env Q Q' R ht k => ?_⟩
  refine h F H σ env _ _ R ht fun d env1 v F1 H1 q s1 R1 r1 => ?_
  cases r1 with
  | lst hd ra =>
    obtain ⟨ok, q⟩ := q
    refine ⟨_, _, _, fun x d => d ∈ _ ∧ Rp X.kw F1 x d, rfl, .of (R1.sub _ _ hd), ra.each, fun x d r => ⟨?_, dp_of R1.sub d x r.2 (ok.pl d r.1)⟩, ok.al, ok.so, ok.dp, fun zs p hz hp => ?_⟩
    · obtain ⟨es, rfl⟩ := ok.tu d r.1
      cases r.2 with
      | tup h1 ra => exact ⟨_, rfl⟩
    · obtain ⟨n1, n2, n4, n3⟩ := R1.newp hp
      exact k _ env1 p F1 _ q s1 (R1.junk hp) ⟨_, upd_same, each_rpa (Same.refl _) hz⟩ n1 n2 n4 (apt n3)
  | scr hd ra => exact q.elim
  | _ => exact q.elim
end
end L2.DL

namespace L2.DL
open PySem PySem.Spec PyProof.Rows
/-! ### a dict of lists, all one's own -/
def dget : List (D × Addr × List D) → D → Option (Addr × List D)
  | [], _ => none
  | p :: r, k => if nkey p.1 = nkey k then some p.2 else dget r k
def dset (k : D) (ys : List D) : List (D × Addr × List D) → List (D × Addr × List D)
  | [] => []
  | p :: r => if nkey p.1 = nkey k then (p.1, p.2.1, ys) :: r else p :: dset k ys r
abbrev dsubs (kvs : List (D × Addr × List D)) : List Addr := kvs.map fun p => p.2.1
theorem dset_subs (k : D) (ys : List D) : ∀ kvs : List (D × Addr × List D), dsubs (dset k ys kvs) = dsubs kvs
  | [] => rfl
  | p :: r => by
    rw [dset]
    split
    · rfl
    · rw [show dsubs (p :: dset k ys r) = p.2.1 :: dsubs (dset k ys r) from rfl, dset_subs k ys r]; rfl
theorem dget_mem {k : D} {b : Addr} {xs : List D} : ∀ {kvs : List (D × Addr × List D)}, dget kvs k = some (b, xs) → b ∈ dsubs kvs
  | [], h => by cases h
  | p :: r, h => by
    rw [dget] at h
    split at h
    · have e := congrArg Prod.fst (Option.some.inj h)
      exact List.mem_cons.mpr (.inl e.symm)
    · exact List.mem_cons_of_mem _ (dget_mem h)
section
variable {K : KW} {F H H' : Hp} {k0 : D} {κ : NestedKey}
theorem DlOk.length : ∀ {vs : List (NestedKey × Addr × V)} {kvs : List (D × Addr × List D)}, DlOk K F H vs kvs → vs.length = kvs.length
  | _, _, .nil => rfl
  | _, _, .cons _ _ _ _ t => congrArg (· + 1) (DlOk.length t)
theorem DlOk.at (hk : nkey k0 = some κ) : ∀ {vs : List (NestedKey × Addr × V)} {kvs : List (D × Addr × List D)}, DlOk K F H vs kvs → (∀ b xs, dget kvs k0 = some (b, xs) → ∃ ws, ndAt vs κ = some (.ref b) ∧ H b = some (.lst ws) ∧ RpA K F ws xs) ∧ (dget kvs k0 = none → ndAt vs κ = none)
  | _, _, .nil => ⟨fun b xs h => (nomatch h), fun _ => rfl⟩
  | _, _, .cons (k := k) (d := d) (ws := ws) q h g r t => by
    obtain ⟨i1, i2⟩ := DlOk.at hk t
    rw [dget]
    unfold ndAt at i1 i2 ⊢
    by_cases z : k = κ
    · have z2 : nkey d = nkey k0 := by rw [q.1, hk, z]
      rw [if_pos z2, List.find?_cons_of_pos (by simpa using z)]
      exact ⟨fun b xs e => by cases e; exact ⟨ws, rfl, g, r⟩, fun e => by cases e⟩
    · have z2 : ¬ nkey d = nkey k0 := by rw [q.1, hk]; exact fun h => z (Option.some.inj h)
      rw [if_neg z2, List.find?_cons_of_neg (by simpa using z)]
      exact ⟨i1, i2⟩
theorem DlOk.snoc (hk : nkey k0 = some κ) (hd : κ.depth ≤ 8) {a b : Addr} {ws : List V} {xs : List D} (ra : Rp K F (.ref a) k0) (hb : H b = some (.lst ws)) (rb : RpA K F ws xs) : ∀ {vs : List (NestedKey × Addr × V)} {kvs : List (D × Addr × List D)}, DlOk K F H vs kvs → DlOk K F H (vs ++ [(κ, a, .ref b)]) (kvs ++ [(k0, b, xs)])
  | _, _, .nil => .cons ⟨hk, hd⟩ ra hb rb .nil
  | _, _, .cons q h g r t => .cons q h g r (DlOk.snoc hk hd ra hb rb t)
theorem DlOk.put {b : Addr} {ws : List V} {ys : List D} (hb : H' b = some (.lst ws)) (rb : RpA K F ws ys) : ∀ {vs : List (NestedKey × Addr × V)} {kvs : List (D × Addr × List D)} {xs : List D}, DlOk K F H vs kvs → dget kvs k0 = some (b, xs) → (dsubs kvs).Nodup → (∀ c, c ∈ dsubs kvs → c ≠ b → H' c = H c) → DlOk K F H' vs (dset k0 ys kvs)
  | _, _, _, .nil, h, _, _ => by cases h
  | _, _, xs, .cons (d := d) (c := c) (ws := ws0) q h g r t, e, nd, kp => by
    obtain ⟨n1, n2⟩ := List.nodup_cons.mp nd
    rw [dget] at e
    rw [dset]
    split at e
    · rename_i z
      cases e
      rw [if_pos z]
      exact .cons q h hb rb (t.mono (Same.refl _) fun x m => kp x (List.mem_cons_of_mem _ m) fun y => n1 (by rw [← y]; exact m))
    · rename_i z
      rw [if_neg z]
      have m := dget_mem e
      exact .cons q h (by rw [kp _ List.mem_cons_self fun y => n1 (by rw [y]; exact m)]; exact g) r (DlOk.put hb rb t e n2 fun x mx nx => kp x (List.mem_cons_of_mem _ mx) nx)
end
section
variable {X : Cx} {B : Bd} {e a b ce : Expr} {te tk tx : TD} {pos p1 : Pos} {F H : Hp}
@[simp] def ownD (env : DEnv) (i : Nat) (k : Bool → List (D × Addr × List D) → Prop) : Prop := match env[i]? with
  | some (.own fr (.dl kvs)) => k fr kvs
  | _ => False
theorem ownD_of {env : DEnv} {i : Nat} {k : Bool → List (D × Addr × List D) → Prop} (h : ownD env i k) : ∃ fr kvs, env[i]? = some (.own fr (.dl kvs)) ∧ k fr kvs := by
  unfold ownD at h
  split at h
  · rename_i fr kvs e
    exact ⟨fr, kvs, e, h⟩
  · exact h.elim
@[simp] def valC (env : DEnv) (j : Nat) (k : D → Prop) : Prop := match env[j]? with
  | some (.val d) => k d
  | _ => False
theorem valC_of {env : DEnv} {j : Nat} {k : D → Prop} (h : valC env j k) : ∃ d, env[j]? = some (.val d) ∧ k d := by
  unfold valC at h
  split at h
  · rename_i d e
    exact ⟨d, e, h⟩
  · exact h.elim
theorem own_readD {K : KW} {σ : St} {env : DEnv} {i : Nat} {fr : Bool} {kvs : List (D × Addr × List D)} (R : Rep K B F H σ env) (h : env[i]? = some (.own fr (.dl kvs))) :
    ∃ a ws, σ[i]? = some (some (.ref a)) ∧ (∃ o, H a = some (NdO K.w a o ws)) ∧ DlOk K F H ws kvs ∧ (a :: dsubs kvs).Nodup := by
  obtain ⟨a, s, ⟨ws, h1, h2⟩, _, _, _, nd, _⟩ := R.cells i _ h
  exact ⟨a, ws, s, h1, h2, nd⟩
/-- {} that is to hold lists -/
@[simp] def fDlN : TDF := fun env Q => Q (.dl []) env
theorem df_dlN : DF X B (.Dict [] [] pos) fDlN := by
  refine ⟨_, pe_dnewN, fun F H σ env Q Q' R ht k => ?_⟩
  intro p o hp
  obtain ⟨n1, n2, n4, n3⟩ := R.newp hp
  exact k _ env p F _ ht (Same.refl _) (R.junk hp) ⟨[], ⟨o, upd_same⟩, .nil⟩ n1 n2 n4 (apt n3)
/-- x[k].append(e), x a dict of lists of one's own, k a name -/
@[simp] def sDlApp (i j : Nat) (te : TD) : TDS := fun DD env => ownD env i fun _ kvs0 => valC env j fun k => KeyOk k ∧ ∃ b0 xs0, dget kvs0 k = some (b0, xs0) ∧ te env fun d env1 => ownD env1 i fun fr kvs => ∃ xs, dget kvs k = some (b0, xs) ∧ xs.length < sizeLine ∧ setC i (.own fr (.dl (dset k (xs ++ [d]) kvs))) env1 DD.nx
theorem ds_dlApp {i j : Nat} {ce : Expr} {pos' : Pos} (p : PE X ce (tBM X.kw "list" rAppend (fun σ H Q => tVar i σ H fun x H1 => tVar j σ H1 fun y H2 => rIxN X.kw x y H2 Q) (tCons (canE X.kw B te) tNil))) (hs' : swapsWith ce none pos'.line X.env = pure false := by rfl) :
    DS X B (.Expr ce pos') (sDlApp i j te) := by
  refine ⟨_, ps_expr p hs', fun F H σ env DD DH R ht l => ?_⟩
  obtain ⟨fr0, kvs0, e0, ht⟩ := ownD_of ht
  obtain ⟨k, ek, hk, b0, xs0, g0, ht⟩ := valC_of ht
  obtain ⟨a, ws, s, ho, h2, nd⟩ := own_readD R e0
  obtain ⟨kv, sk, rk⟩ := R.cells j _ ek
  obtain ⟨kb, κ, rfl, k1, k2⟩ := hk.ref rk
  obtain ⟨vs0, at0, hb0, _⟩ := (h2.at k1).1 b0 xs0 g0
  refine ⟨_, s, _, sk, a, kb, κ, ws, .ref b0, rfl, rfl, ho, ⟨H, _, k, Same.refl _, h2.view R.sub, rk.mono R.sub, k1, k2⟩, at0, .inl ⟨rfl, _, SqL.of hb0⟩, F, env, _, R, ht, fun d env1 v F1 H1 q s1 R1 r1 => ?_⟩
  obtain ⟨fr, kvs, e1, xs, g1, hl, q⟩ := ownD_of q
  obtain ⟨a1, ws1, t1, ho1, h21, nd1⟩ := own_readD R1 e1
  rw [s] at t1; cases t1
  obtain ⟨vs1, at1, hb1, rb1⟩ := (h21.at k1).1 b0 xs g1
  refine ⟨b0, vs1, v, rfl, rfl, hb1, by rw [rb1.length]; exact hl, ?_⟩
  have mb : b0 ∈ dsubs kvs := dget_mem g1
  obtain ⟨n1, n2⟩ := List.nodup_cons.mp nd1
  have nb : b0 ≠ a := fun z => n1 (by rw [← z]; exact mb)
  have ss : (OC.dl (dset k (xs ++ [d]) kvs)).subs = dsubs kvs := dset_subs _ _ _
  obtain ⟨o1, ho1⟩ := ho1
  refine l.nx _ σ F1 _ (setC_of q) s1 (R1.writeC e1 s (fun x m _ => upd_ne fun z => m (by rw [z]; exact List.mem_cons_of_mem _ mb)) ⟨ws1, ⟨o1, by rw [upd_ne nb.symm]; exact ho1⟩, h21.put upd_same (rb1.append (.one r1)) g1 n2 fun c _ nc => upd_ne nc⟩ ?_ (fun x m => ?_) fun x m => .inl ?_)
  · rw [ss]; exact nd1
  · by_cases z : x = b0
    · rw [z, upd_same]; simp
    · rw [upd_ne z]
      rcases List.mem_cons.mp (show x ∈ a :: dsubs kvs from m) with y | y
      · rw [y, ho1]; simp
      · exact h21.there x y
  · rw [ss] at m; exact m
/-- x[k] = a new list, x a dict of lists of one's own, k a name, not in it yet -/
@[simp] def sDlNew (i j : Nat) (tf : TDF) : TDS := fun DD env => tf env fun o env1 => match o with
  | .lst xs => ownD env1 i fun fr kvs => valC env1 j fun k => KeyOk k ∧ kvs.length < sizeLine ∧ dget kvs k = none ∧ ∀ b : Addr, setC i (.own fr (.dl (kvs ++ [(k, b, xs)]))) env1 DD.nx
  | _ => False
theorem ds_dlNew {i j : Nat} {tg : Expr} {tf : TDF} (he : DF X B e tf) (hg : PG X tg (gSub (tVar i) (tVar j) (rSetN X.kw))) (hs : swapsWithSole [tg] e pos.line X.env = pure false := by rfl) (hw : swappedStores [tg] e X.env = pure none := by rfl)
    (h1 : (assignEach [tg] X.env).map (·.2) = [assign tg X.env] := by rfl) : DS X B (.Assign [tg] e pos) (sDlNew i j tf) := by
  obtain ⟨ts, pe, h⟩ := he.ex
  refine ⟨_, ps_asg pe hg hs hw h1, fun F H σ env DD DH R ht l => ?_⟩
  refine h F H σ env _ _ R ht fun oc env1 b F1 H1 q s1 R1 oc1 hF h0b hP ap => ?_
  cases oc with
  | lst xs =>
    obtain ⟨ws, hb, rb⟩ := oc1
    obtain ⟨fr, kvs, e1, q⟩ := ownD_of q
    obtain ⟨k, ek, hk, hl, hn, q⟩ := valC_of q
    have q := q b
    obtain ⟨a, vs, s, ⟨o, ho⟩, h2, nd⟩ := own_readD R1 e1
    obtain ⟨kv, sk, rk⟩ := R1.cells j _ ek
    obtain ⟨kb, κ, rfl, k1, k2⟩ := hk.ref rk
    have an := (h2.at k1).2 hn
    refine ⟨_, s, _, sk, a, kb, κ, vs, rfl, rfl, ⟨o, ho⟩, ⟨H1, _, k, Same.refl _, h2.view R1.sub, rk.mono R1.sub, k1, k2⟩, by rw [h2.length]; exact hl, fun o' => ?_⟩
    have ep : ndPut vs κ kb (.ref b) = vs ++ [(κ, kb, .ref b)] := by unfold ndPut; rw [an]; rfl
    rw [ep]
    obtain ⟨n1, n2⟩ := List.nodup_cons.mp nd
    have ft : ∀ c, c ∈ a :: dsubs kvs → c ∈ foot σ[i]? (.own fr (.dl kvs)) := fun c m => by rw [s]; exact m
    have nb : b ∉ a :: dsubs kvs := fun m => ap.1 i _ e1 (ft b m)
    have nba : b ≠ a := fun z => nb (by rw [z]; exact List.mem_cons_self)
    have nbs : b ∉ dsubs kvs := fun z => nb (List.mem_cons_of_mem _ z)
    have ss : (OC.dl (kvs ++ [(k, b, xs)])).subs = dsubs kvs ++ [b] := by show (kvs ++ [(k, b, xs)]).map _ = _; rw [List.map_append]; rfl
    refine l.nx _ σ F1 _ (setC_of q) s1 (R1.writeC e1 s (fun x m _ => upd_ne fun z => m (by rw [z]; exact List.mem_cons_self)) ⟨_, ⟨o', upd_same⟩, ?_⟩ ?_ (fun x m => ?_) fun c m => ?_)
    · refine DlOk.snoc k1 k2 rk (by rw [upd_ne nba]; exact hb) rb (h2.mono (Same.refl _) fun x m => upd_ne fun z => n1 (by rw [← z]; exact m))
    · rw [ss]
      refine List.nodup_cons.mpr ⟨fun m => ?_, ?_⟩
      · rcases List.mem_append.mp m with m | m
        · exact n1 m
        · exact nba (List.mem_singleton.mp m).symm
      · rw [List.nodup_append]
        exact ⟨n2, by simp, fun x m y n e => by rw [List.mem_singleton.mp n] at e; exact nbs (by rw [← e]; exact m)⟩
    · rcases List.mem_cons.mp (show x ∈ a :: dsubs kvs from m) with z | z
      · rw [z, upd_same]; simp
      · rw [upd_ne fun y => n1 (by rw [← y]; exact z)]; exact h2.there x z
    · rw [ss] at m
      rcases List.mem_append.mp m with m | m
      · exact .inl m
      · rw [List.mem_singleton.mp m]
        refine .inr ⟨hF, h0b, hP, fun j c' ej mj => ?_⟩
        by_cases y : i = j
        · subst y
          rw [List.getElem?_set_self (List.getElem?_eq_some_iff.mp e1).1] at ej
          cases ej; rw [foot_none] at mj; cases mj
        · rw [List.getElem?_set_ne y] at ej
          exact ap.1 j c' ej mj
  | _ => exact q.elim
end
end L2.DL

namespace L2.DL
open PySem PySem.Spec PyProof.Rows

/-! ### the head by one run: what is looked at behind the top -/
mutual
def relD (K : PySem.W.Frag) : D → Value → Bool
  | .non, u => (match u with
    | .none => true
    | _ => false)
  | .bl b, u => (match u with
    | .bool c => b == c
    | _ => false)
  | .int i, u => (match u with
    | .int j _ => decide (i = j)
    | _ => false)
  | .str x, u => (match u with
    | .str y _ => decide (x = y)
    | _ => false)
  | .tup ds, u => (match u with
    | .ref a => (match K.lookup a with
      | some ⟨.type c, _, .seq its _, _⟩ => decide (c = "tuple") && (decide (its.size ≤ sizeLine) && relDs K ds its.toList)
      | _ => false)
    | _ => false)
  | .atm _, _ => false
  | .lst _, _ => false
  | .dct _, _ => false
  | .scr _, _ => false
  | .dcn _, _ => false
  | .ins _ _, _ => false
def relDs (K : PySem.W.Frag) : List D → List Value → Bool
  | [], us => us.isEmpty
  | d :: ds, us => (match us with
    | [] => false
    | u :: us => relD K d u && relDs K ds us)
end
abbrev Shown (K : PySem.W.Frag) (u : Value) (d : D) : Prop := ∃ v, RelV v u ∧ ∀ (P : Program) (w : World) (m : Str → Option Value) F, Rp ⟨K, P, w, m⟩ F v d
abbrev ShownA (K : PySem.W.Frag) (us : List Value) (ds : List D) : Prop := ∃ vs, Vals vs us ∧ ∀ (P : Program) (w : World) (m : Str → Option Value) F, RpA ⟨K, P, w, m⟩ F vs ds
mutual
theorem relD_ok {K : PySem.W.Frag} : ∀ {d : D} {u : Value}, relD K d u = true → Shown K u d
  | .non, u, h => by
    cases u with
    | none => exact ⟨.non, rfl, fun _ _ _ _ => .non⟩
    | _ => cases h
  | .bl b, u, h => by
    cases u with
    | bool c =>
      have e : b = c := eq_of_beq (show (b == c) = true from h)
      exact ⟨.bl b, by rw [e]; rfl, fun _ _ _ _ => .bl b⟩
    | _ => cases h
  | .int i, u, h => by
    cases u with
    | int j t =>
      have e : i = j := of_decide_eq_true h
      exact ⟨.int i, ⟨t, by rw [e]⟩, fun _ _ _ _ => .int i⟩
    | _ => cases h
  | .str x, u, h => by
    cases u with
    | str y t =>
      have e : x = y := of_decide_eq_true h
      exact ⟨.str x, ⟨t, by rw [e]⟩, fun _ _ _ _ => .str x⟩
    | _ => cases h
  | .tup ds, u, h => by
    cases u with
    | ref a =>
      have h : (match K.lookup a with
        | some ⟨.type c, _, .seq its _, _⟩ => decide (c = "tuple") && (decide (its.size ≤ sizeLine) && relDs K ds its.toList)
        | _ => false) = true := h
      split at h
      · rename_i c od its n sl q
        obtain ⟨h1, h2⟩ := Bool.and_eq_true_iff.mp h
        obtain ⟨h3, h4⟩ := Bool.and_eq_true_iff.mp h2
        obtain ⟨vs, r, p⟩ := relDs_ok h4
        exact ⟨.ref a, rfl, fun P w m F => .tup (.inr ⟨_, its, n, q, congrArg Value.type (of_decide_eq_true h1), rfl, of_decide_eq_true h3, r⟩) (p P w m F)⟩
      · cases h
    | _ => cases h
  | .atm _, _, h => by cases h
  | .lst _, _, h => by cases h
  | .dct _, _, h => by cases h
  | .scr _, _, h => by cases h
  | .dcn _, _, h => by cases h
  | .ins _ _, _, h => by cases h
theorem relDs_ok {K : PySem.W.Frag} : ∀ {ds : List D} {us : List Value}, relDs K ds us = true → ShownA K us ds
  | [], us, h => by
    cases us with
    | nil => exact ⟨[], .nil, fun _ _ _ _ => .nil⟩
    | cons _ _ => cases h
  | d :: ds, us, h => by
    cases us with
    | nil => cases h
    | cons u us =>
      obtain ⟨h1, h2⟩ := Bool.and_eq_true_iff.mp (show (relD K d u && relDs K ds us) = true from h)
      obtain ⟨v, r, p⟩ := relD_ok h1
      obtain ⟨vs, rs, ps⟩ := relDs_ok h2
      exact ⟨v :: vs, .cons r rs, fun P w m F => .cons (p P w m F) (ps P w m F)⟩
end
/-- a fact that the head must give -/
inductive Fz where
  | fa (f : He.Fa)
  | con (x : Str) (d : D)
  | tab (x : Str) (yes : List (Str × D)) (no : List Str)
  | xcc (x : Str)
  | kit (x y : Str) (b : Bool)
  | kitT (x : Str) (T : String) (b : Bool)
def tabYes (K : PySem.W.Frag) (a : Addr) (yes : List (Str × D)) : Bool := yes.all fun p => match PySem.W.nsIn K a p.1 with
  | some (some u) => relD K p.2 u
  | _ => false
def Fz.ok (K : PySem.W.Frag) : Fz → Bool
  | .fa f => f.ok K
  | .con x d => (match PySem.W.nsIn K mainGlobals x with
    | some (some u) => relD K d u
    | _ => false)
  | .tab x yes no => He.eqO (PySem.W.nsIn K mainGlobals x) (some (some (.ref (He.ga K x)))) && (tabYes K (He.ga K x) yes && no.all fun z => He.eqO (PySem.W.nsIn K (He.ga K x) z) (some none))
  | .xcc x => He.eqO (PySem.W.findIn K (.ref (He.ga K x)) "__getattribute__") (some (some (.builtin "BaseException.__getattribute__"))) && (He.eqO (PySem.W.findIn K (.ref (He.ga K x)) "__getattr__") (some none) && (decide (PySem.W.subIn K (.ref (He.ga K x)) (.type "BaseException") = some true) && (PySem.W.hasDictIn K (He.ga K x) &&
      (He.eqO (PySem.W.findIn K (.ref (He.ga K x)) "__class__") (some (some (.builtin "object.__class__"))) && (He.eqO (PySem.W.specialIn K (.builtin "object.__class__") "__get__") (some (some (.builtin "getset_descriptor.__get__"))) && (decide (PySem.W.takesIn K (.builtin "object.__class__") = some true) && decide (PySem.W.mroIn K (He.ga K x) (.type "object") = some true)))))))
  | .kit x y b => decide (PySem.W.kitOne K (.ref (He.ga K x)) (.ref (He.ga K y)) = some b)
  | .kitT x T b => decide (PySem.W.kitOne K (.ref (He.ga K x)) (.type T) = some b)
theorem xcc_ok {K : PySem.W.Frag} {x : Str} (c : (Fz.xcc x).ok K = true) : ExcC K (He.ga K x) := by
  obtain ⟨c1, c⟩ := He.ba c
  obtain ⟨c2, c⟩ := He.ba c
  obtain ⟨c3, c⟩ := He.ba c
  obtain ⟨c4, c⟩ := He.ba c
  obtain ⟨c5, c⟩ := He.ba c
  obtain ⟨c6, c⟩ := He.ba c
  obtain ⟨c7, c8⟩ := He.ba c
  exact ⟨He.eqO_ok c1, He.eqO_ok c2, of_decide_eq_true c3, c4, He.eqO_ok c5, He.eqO_ok c6, of_decide_eq_true c7, of_decide_eq_true c8⟩
theorem kit_ok {K : PySem.W.Frag} {x y : Str} {b : Bool} (c : (Fz.kit x y b).ok K = true) : PySem.W.kitOne K (.ref (He.ga K x)) (.ref (He.ga K y)) = some b := of_decide_eq_true c
theorem kitT_ok {K : PySem.W.Frag} {x : Str} {T : String} {b : Bool} (c : (Fz.kitT x T b).ok K = true) : PySem.W.kitOne K (.ref (He.ga K x)) (.type T) = some b := of_decide_eq_true c
section
variable {K : PySem.W.Frag} {h : Heap} {mg : Str → Option Value} {w : World}
theorem con_ok (X : K.In h) (G : h.Ns mainGlobals mg) {x : Str} {d : D} (c : (Fz.con x d).ok K = true) : GlobD K mg x d := by
  have c : (match PySem.W.nsIn K mainGlobals x with
    | some (some u) => relD K d u
    | _ => false) = true := c
  split at c
  · rename_i u q
    obtain ⟨v, r, p⟩ := relD_ok c
    exact ⟨⟨u, v, PySem.W.mg_of X G q, r, p⟩⟩
  · cases c
theorem tab_ok (X : K.In h) (G : h.Ns mainGlobals mg) {x : Str} {yes : List (Str × D)} {no : List Str} (t : ∃ es n, KDict K w (He.ga K x) es n) (c : (Fz.tab x yes no).ok K = true) : KTabD K w mg x yes no := by
  obtain ⟨c1, c2⟩ := He.ba c
  obtain ⟨c2, c3⟩ := He.ba c2
  obtain ⟨es, n, kd⟩ := t
  refine ⟨⟨He.ga K x, es, n, PySem.W.mg_of X G (He.eqO_ok c1), kd, fun p m => ?_, fun z m => He.eqO_ok (List.all_eq_true.mp c3 z m)⟩⟩
  have c4 := List.all_eq_true.mp c2 p m
  split at c4
  · rename_i u q
    obtain ⟨v, r, p⟩ := relD_ok c4
    exact ⟨u, v, q, r, p⟩
  · cases c4
end
/-- the part of the heap: the main module's names, then all from lo on -/
def kindO (o : Obj) : Nat := match o.data with
  | .func _ => 0
  | .fields _ => 1
  | _ => 2
/-- the defs first, then their code objects: what is looked up most stands ahead -/
def sortR (K : PySem.W.Frag) : PySem.W.Frag := (K.filter fun p => kindO p.2 == 0) ++ ((K.filter fun p => kindO p.2 == 1) ++ K.filter fun p => kindO p.2 == 2)
def fragR (g : Addr → Option Obj) (lo n : Nat) : PySem.W.Frag := He.frG g [mainGlobals] ++ sortR (He.frG g (List.range' lo n))
theorem frG_memR {g : Addr → Option Obj} {as : List Addr} {p : Addr × Obj} (h : p ∈ He.frG g as) : g p.1 = some p.2 := by
  obtain ⟨b, _, e⟩ := List.mem_filterMap.mp h
  cases hb : g b with
  | none => rw [hb] at e; cases e
  | some u => rw [hb] at e; cases e; exact hb
theorem lookR {g : Addr → Option Obj} {a : Addr} {o : Obj} : ∀ {K : PySem.W.Frag}, (∀ p ∈ K, g p.1 = some p.2) → K.lookup a = some o → g a = some o
  | [], _, e => by cases e
  | (b, u) :: r, m, e => by
    rw [List.lookup_cons] at e
    split at e
    · rename_i q
      cases e
      rw [beq_iff_eq.mp q]; exact m _ List.mem_cons_self
    · exact lookR (fun p q => m p (List.mem_cons_of_mem _ q)) e
theorem fragR_in {h : Heap} {lo n : Nat} : (fragR h.get? lo n).In h := fun a o e => lookR (g := h.get?) (fun p q => by
  rcases List.mem_append.mp q with q | q
  · exact frG_memR q
  · unfold sortR at q
    rcases List.mem_append.mp q with q | q
    · exact frG_memR (List.mem_filter.mp q).1
    · rcases List.mem_append.mp q with q | q
      · exact frG_memR (List.mem_filter.mp q).1
      · exact frG_memR (List.mem_filter.mp q).1) e
abbrev AlZ : Type := Bool × List He.FnV × List (Option (List (Option (Str × Int))))
def obsZ (fa : List Fz) (fn : List He.FnD) (ts : List He.Tab) (K : PySem.W.Frag) : AlZ := ((fa.all fun f => f.ok K) && fn.all fun d => (He.Fa.code d.at_ d.qual).ok K, fn.map fun d => He.fnObs K d.at_, ts.map fun t => He.dicW K (t.1 K))
def valZ (fn : List He.FnD) (ts : List He.Tab) (w : World) : AlZ := (true, fn.map He.FnD.val, ts.map fun t => some (He.keysIn w.params t.2))
def SaysZ (fa : List Fz) (fn : List He.FnD) (ts : List He.Tab) (w : World) (K : PySem.W.Frag) : Prop := obsZ fa fn ts K = valZ fn ts w
def hookZ (lo n : Nat) (fa : List Fz) (fn : List He.FnD) (ts : List He.Tab) : PySem.W.Hook where
  α := AlZ
  obs := fun s => obsZ fa fn ts (fragR s.heap.get? lo n)
  val := fun w => valZ fn ts w
  says := fun w h => ∃ K : PySem.W.Frag, K.In h ∧ SaysZ fa fn ts w K
  of := fun _ _ e => ⟨_, fragR_in, e⟩
  keeps := fun _ _ _ ⟨K, hK, c⟩ k => ⟨K, PySem.W.Frag.In.keeps hK k, c⟩
/-- a list made whole ahead of its use -/
def frL {α β : Type} : List α → (List α → β) → β
  | [], k => k []
  | a :: r, k => frL r fun r' => k (a :: r')
theorem frL_eq {α β : Type} : ∀ (l : List α) (k : List α → β), frL l k = k l
  | [], _ => rfl
  | a :: r, k => (frL_eq r _).trans rfl
/-- what is looked at, in two parts (each part a run of its own: the kernel's memory) -/
def obA (lo n : Nat) (fa : List Fz) (s : PySem.W.SharedT) : Bool := frL (fragR (HandSHeadRun.getT s) lo n) fun K => fa.all fun f => f.ok K
def obB (lo n : Nat) (fb : List Fz) (fn : List He.FnD) (ts : List He.Tab) (s : PySem.W.SharedT) : AlZ := frL (fragR (HandSHeadRun.getT s) lo n) fun K => obsZ fb fn ts K
def obZ (lo n : Nat) (fa fb : List Fz) (fn : List He.FnD) (ts : List He.Tab) (s : PySem.W.SharedT) : AlZ := (obA lo n fa s && (obB lo n fb fn ts s).1, (obB lo n fb fn ts s).2)
theorem obZ_eq (lo n : Nat) (fa fb : List Fz) (fn : List He.FnD) (ts : List He.Tab) (s : PySem.W.SharedT) : obZ lo n fa fb fn ts s = (hookZ lo n (fa ++ fb) fn ts).obs s.abs := by
  unfold obZ obA obB
  rw [frL_eq, frL_eq]
  have e : HandSHeadRun.getT s = s.abs.heap.get? := funext (HandSHeadRun.getT_eq s)
  rw [e]
  show _ = obsZ (fa ++ fb) fn ts _
  unfold obsZ
  rw [List.all_append, Bool.and_assoc]
open HandSHeadRun in
theorem run_of {r : PySem.W.OpenRow} {q : Program} {lo n M : Nat} {fa fb : List Fz} {fn : List He.FnD} {ts : List He.Tab} {loose : List Str} {w : World}
    (h1 : ∀ os : OsState, (endF (stepQ (denQ tabQ) r.prog w) M r.prog w os).map (fun s => (looksF r.prog (PySem.W.boot_heap w.params) s.abs, seenQ q loose (importedModules r.prog.main.body) (fun s => PySem.W.xlAt q [] s && PySem.W.recOk r.toRowW.records s) s.abs)) = some (true, PySem.W.openGood q loose))
    (h2 : ∀ os : OsState, (endF (stepQ (denQ tabQ) r.prog w) M r.prog w os).map (obA lo n fa) = some true)
    (h3 : ∀ os : OsState, (endF (stepQ (denQ tabQ) r.prog w) M r.prog w os).map (obB lo n fb fn ts) = some (valZ fn ts w)) :
    RunEq r q (hookZ lo n (fa ++ fb) fn ts) (obZ lo n fa fb fn ts) M loose w := fun os => by
  have a1 := h1 os
  have a2 := h2 os
  have a3 := h3 os
  cases e : endF (stepQ (denQ tabQ) r.prog w) M r.prog w os with
  | none => rw [e] at a1; cases a1
  | some s =>
    rw [e] at a1 a2 a3
    have b1 := Option.some.inj a1
    have b2 : obA lo n fa s = true := Option.some.inj a2
    have b3 : obB lo n fb fn ts s = valZ fn ts w := Option.some.inj a3
    have c1 : looksF r.prog (PySem.W.boot_heap w.params) s.abs = true := congrArg Prod.fst b1
    have c2 : seenQ q loose (importedModules r.prog.main.body) (fun s => PySem.W.xlAt q [] s && PySem.W.recOk r.toRowW.records s) s.abs = PySem.W.openGood q loose := congrArg Prod.snd b1
    show some (_, _, obZ lo n fa fb fn ts s) = _
    rw [c1, c2]
    unfold obZ
    rw [b2, b3]
    rfl
section
variable {fa : List Fz} {fn : List He.FnD} {ts : List He.Tab} {w : World} {K : PySem.W.Frag}
theorem SaysZ.fz (c : SaysZ fa fn ts w K) (i : Nat) {f : Fz} (h : fa[i]? = some f := by rfl) : f.ok K = true := by
  have c1 := (He.ba (show ((fa.all fun f => f.ok K) && fn.all fun d => (He.Fa.code d.at_ d.qual).ok K) = true from congrArg (fun z : AlZ => z.1) c)).1
  exact List.all_eq_true.mp c1 f (List.mem_of_getElem? h)
theorem SaysZ.fact (c : SaysZ fa fn ts w K) (i : Nat) {f : He.Fa} (h : fa[i]? = some (.fa f) := by rfl) : f.ok K = true := c.fz i h
theorem SaysZ.tab (c : SaysZ fa fn ts w K) (i : Nat) {t : He.Tab} (h : ts[i]? = some t := by rfl) : ∃ es n, KDict K w (t.1 K) es n := by
  have e : ts.map (fun t => He.dicW K (t.1 K)) = ts.map fun t => some (He.keysIn w.params t.2) := congrArg (fun z : AlZ => z.2.2) c
  have e2 : (ts.map fun t => He.dicW K (t.1 K))[i]? = (ts.map fun t => some (He.keysIn w.params t.2))[i]? := by rw [e]
  rw [List.getElem?_map, List.getElem?_map, h] at e2
  exact He.dicW_ok (Option.some.inj e2)
theorem SaysZ.def_ (c : SaysZ fa fn ts w K) (i : Nat) {d : He.FnD} {st : Stmt} (h : fn[i]? = some d) (h1 : d.params = defArgs st) (h2 : d.body = defBody st) (h3 : d.scope = defScope st) : ∃ fd, Fun K d.name d.qual st (He.fAd K d.at_) fd := by
  have c2 := (He.ba (show ((fa.all fun f => f.ok K) && fn.all fun d => (He.Fa.code d.at_ d.qual).ok K) = true from congrArg (fun z : AlZ => z.1) c)).2
  have e : fn.map (fun d => He.fnObs K d.at_) = fn.map He.FnD.val := congrArg (fun z : AlZ => z.2.1) c
  have e2 : (fn.map fun d => He.fnObs K d.at_)[i]? = (fn.map He.FnD.val)[i]? := by rw [e]
  rw [List.getElem?_map, List.getElem?_map, h] at e2
  obtain ⟨oc, od, osl, kV, doc, pm, an, cdv, ct, l, q⟩ := He.fn_ok (Option.some.inj e2) (List.all_eq_true.mp c2 d (List.mem_of_getElem? h))
  rw [h1, h2, h3] at l
  refine ⟨_, fun_mk l q ?_⟩
  unfold PySem.W.keepIn
  show (match K.lookup (He.fAd K d.at_) with
    | some ⟨_, _, .func _, _⟩ => true
    | some ⟨_, _, .cls _, _⟩ => _
    | _ => false) = true
  rw [l] <;> rfl
end
end L2.DL
namespace L2.DL
open PySem PySem.Spec PyProof.Rows
/-! ### the law's own call -/
section
variable {P : Program} {w : World} {K : PySem.W.Frag} {mg mb : Str → Option Value} {k : Nat} {fa a : Addr} {fd : FuncData} {x : Str} {sp : Sp} {z : Shared} {vs : List Value} {ns : List Int}
/-- from a heap in which nothing but the script may be tracked -/
theorem law_from {H : Hp} (KX : K.In z.heap) (hns : z.heap.Ns mainGlobals mg) (hb : z.heap.Ns builtinsNs mb) (hbb : ∀ x : Str, x ≠ "__name__" → mb x = bootBuiltins x) (hlim : z.heap.NoLimit) (hg : z.gens = #[])
    (ha : z.heap.get? a = some { cls := .type "list", data := .seq vs.toArray }) (room : Rm k callerA) (G : ∀ base : Heap, K.In base → base.Ns mainGlobals mg → Fk P w K mg base k fa fd [x] sp)
    (bind : ∀ (s : Shared) (u : Value), BindsTo s fd ⟨[u], []⟩ [(x, u)]) (only : Only H) (ok : HOk P w H z.heap) (hA : ∀ b, H b ≠ none → b = a) (hK : H a ≠ none → K.lookup a = none)
    (q : sp [.ref a] H (fun v _ => v = .bl true) fun _ _ _ => False) :
    codeAny (model P w) callerA (.call (.ref fa) ⟨[.ref a], []⟩) (fun r z' => r = .ok (.ret (.bool true)) ∧ OldK z.heap z'.heap ∧ z'.os = z.os ∧ AllBare z'.gens) z := by
  have low : ∀ {b : Addr} {o : Obj}, z.heap.get? b = some o → H b = none → (hidT z.heap H).get? b = some o := fun e n => hidT_get e n
  have noDict : ∀ {b : Addr} {o : Obj} {es : Array DictEntry} {ep : Nat}, z.heap.get? b = some o → o.data = .dict es ep → H b = none := by
    intro b o es ep e d
    by_cases n : H b = none
    · exact n
    · have eb := hA b n
      rw [eb, ha] at e
      cases e
      exact absurd (show Data.seq vs.toArray _ = Data.dict es ep from d) (fun y => by cases y)
  have nsLow : ∀ {b : Addr} {m : Str → Option Value}, z.heap.Ns b m → (hidT z.heap H).Ns b m := by
    rintro b m ⟨o, es, ep, e, d, r⟩
    exact ⟨o, es, ep, low e (noDict e d), d, r⟩
  have KL : K.In (hidT z.heap H) := by
    intro b o e
    refine low (KX b o e) ?_
    by_cases n : H b = none
    · exact n
    · have eb := hA b n
      subst eb
      rw [hK n] at e
      cases e
  have md : Mod K mg (hidT z.heap H) := by
    obtain ⟨mc, l1, l2⟩ := hlim
    exact ⟨KL, nsLow hns, ⟨mb, nsLow hb, hbb⟩, ⟨mc, nsLow l1, l2⟩⟩
  have e0 : Env0 P w K mg (hidT z.heap H) callerA [] z H := ⟨rfl, md, fun b o e => of_hidT e, Nat.le_of_eq (hidT_size _ _), trivial, (fun b m => by cases (show b ∈ ([] : List Addr) from m)), ok, .of_eq hg⟩
  refine codeAny_mono ((G _ KL (nsLow hns)).runs (us := [.ref a]) (vs := [.ref a]) room e0 (bind z (.ref a)) (.cons rfl .nil) q) fun r z' y => ?_
  match r, y with
  | .error u, y =>
    obtain ⟨_, _, _, _, _, _, _, _, _, _, _, _, no⟩ := y
    cases no
  | .ok (.ret u), ⟨v, H', os, bare, un, ok', rv, ev⟩ =>
    have ev : v = .bl true := ev
    subst ev
    obtain rfl : u = Value.bool true := rv
    refine ⟨rfl, OldK.of_keep fun b o e => ?_, os, bare⟩
    cases h : H b with
    | none => exact un.keep b o e h (fun m => by cases (show b ∈ ([] : List Addr) from m)) (fun m => by cases m)
    | some u =>
      rcases only b with n | ⟨ob, xs, n⟩
      · rw [h] at n; cases n
      · obtain ⟨y1, _⟩ := ok b _ n
        obtain ⟨y2, _⟩ := ok' b _ (un.frzs b ob _ n)
        rw [e] at y1; cases y1
        exact y2
theorem law_fk (KX : K.In z.heap) (hns : z.heap.Ns mainGlobals mg) (hb : z.heap.Ns builtinsNs mb) (hbb : ∀ x : Str, x ≠ "__name__" → mb x = bootBuiltins x) (hlim : z.heap.NoLimit) (hg : z.gens = #[])
    (ha : z.heap.get? a = some { cls := .type "list", data := .seq vs.toArray }) (hi : IntsAre vs ns) (hl : ns.length ≤ sizeLine) (room : Rm k callerA) (G : ∀ base : Heap, K.In base → base.Ns mainGlobals mg → Fk P w K mg base k fa fd [x] sp)
    (bind : ∀ (s : Shared) (u : Value), BindsTo s fd ⟨[u], []⟩ [(x, u)]) (q : ∀ H : Hp, Only H → SqL K H a (ns.map V.int) → sp [.ref a] H (fun v _ => v = .bl true) fun _ _ _ => False) :
    codeAny (model P w) callerA (.call (.ref fa) ⟨[.ref a], []⟩) (fun r z' => r = .ok (.ret (.bool true)) ∧ OldK z.heap z'.heap ∧ z'.os = z.os ∧ AllBare z'.gens) z := by
  have rv := vals_ints hi
  have ln := hi.length
  by_cases hk : K.lookup a = none
  · let H : Hp := fun b => if b = a then some (.frz { cls := .type "list", data := .seq vs.toArray } (.lst (ns.map V.int))) else none
    have at_ : H a = some (.frz { cls := .type "list", data := .seq vs.toArray } (.lst (ns.map V.int))) := if_pos rfl
    have off : ∀ {b : Addr}, b ≠ a → H b = none := fun n => if_neg n
    have only : Only H := fun b => by
      by_cases n : b = a
      · rw [n]; exact .inr ⟨_, _, at_⟩
      · exact .inl (off n)
    refine law_from (H := H) KX hns hb hbb hlim hg ha room G bind only ?_ (fun b n => ?_) (fun _ => hk) (q H only (.inl (.inr ⟨_, at_⟩)))
    · intro b u e
      by_cases n : b = a
      · subst n
        rw [at_] at e
        cases e
        exact ⟨ha, by rw [List.length_map]; exact hl, vs, _, rv, ha⟩
      · rw [off n] at e; cases e
    · by_cases n' : b = a
      · exact n'
      · exact absurd (off n') n
  · obtain ⟨o, e⟩ : ∃ o, K.lookup a = some o := by
      cases e : K.lookup a with
      | none => exact absurd e hk
      | some o => exact ⟨o, rfl⟩
    have y := KX a o e
    rw [ha] at y
    cases y
    have only : Only fun _ => none := fun _ => .inl rfl
    exact law_from (H := fun _ => none) KX hns hb hbb hlim hg ha room G bind only (fun b u e => by cases (show (none : Option HO) = some u from e)) (fun b n => absurd rfl n) (fun n => absurd rfl n)
      (q _ only (.inr ⟨_, vs.toArray, _, e, rfl, rfl, rfl, by rw [List.size_toArray, ln]; exact hl, by simpa using rv⟩))
end
theorem walk_fk {l : PySem.W.OpenLaw} {n k : Nat} {q : Program} {loose : List Str} {XP : (Str → Option Value) → Heap → Prop} {YP : World → Heap → Prop} {d : DefRec} {x : Str} (hn : l.most = some n) (hn2 : n ≤ sizeLine) (hdf : d.params.defaults = []) (room : Rm k callerA)
    (F : ∀ (w : World) (mg : Str → Option Value) (fa : Addr) (h : Heap), YP w h → h.Ns mainGlobals mg → mg d.name = some (.ref fa) → ∃ (K : PySem.W.Frag) (fd : FuncData) (sp : Sp), K.In h ∧ (∀ (s : Shared) (u : Value), BindsTo s fd ⟨[u], []⟩ [(x, u)]) ∧
      (∀ (H : Hp) (a : Addr) (ns : List Int), ns.length ≤ n → Only H → SqL K H a (ns.map V.int) → sp [.ref a] H (fun v _ => v = .bl true) fun _ _ _ => False) ∧ ∀ base : Heap, K.In base → base.Ns mainGlobals mg → Fk l.prog w K mg base k fa fd [x] sp) :
    PySem.W.WalkO q loose XP YP l.row.toRowW d [] (fun f vs => PySem.call f vs) := by
  refine Att.attach_call hn hdf fun w z0 z mg mb fa o pm cd doc a vs ns G Y ho hd hcd hmg hobj hints hlen hg => ?_
  obtain ⟨K, fd, sp, KX, hb, hsp, hF⟩ := F w mg fa _ Y G.T.g hmg
  exact law_fk KX G.T.g G.T.b G.T.builtins G.T.nolimit hg hobj hints (Nat.le_trans hlen hn2) room hF hb fun H hO hS => hsp H a ns hlen hO hS
end L2.DL

namespace L2.DL
open PySem PySem.Spec PyProof.Rows

/-! ### repr of tuples and lists, where no repr is under way -/
mutual
theorem pl_noDict : ∀ d : D, d.pl = true → d.py.hasDict = false
  | .non, _ => by simp [D.py, PyData.hasDict]
  | .bl _, _ => by simp [D.py, PyData.hasDict]
  | .int _, _ => by simp [D.py, PyData.hasDict]
  | .str _, _ => by simp [D.py, PyData.hasDict]
  | .tup xs, h => by rw [D.py, PyData.hasDict]; exact pls_noDict xs (by rw [D.pl] at h; exact h)
  | .lst xs, h => by rw [D.py, PyData.hasDict]; exact pls_noDict xs (by rw [D.pl] at h; exact h)
  | .scr xs, h => by rw [D.py, PyData.hasDict]; exact pls_noDict xs (by rw [D.pl] at h; exact h)
  | .atm _, h => by rw [D.pl] at h; cases h
  | .dct _, h => by rw [D.pl] at h; cases h
  | .dcn _, h => by rw [D.pl] at h; cases h
  | .ins _ _, h => by rw [D.pl] at h; cases h
theorem pls_noDict : ∀ ds : List D, D.pls ds = true → PyData.hasDictAll (D.pys ds) = false
  | [], _ => by simp [D.pys, PyData.hasDictAll]
  | d :: r, h => by
    rw [D.pls] at h
    obtain ⟨h1, h2⟩ := Bool.and_eq_true_iff.mp h
    rw [D.pys, PyData.hasDictAll, pl_noDict d h1, pls_noDict r h2]
    rfl
end
/-- what can be shown: no dict within, numbers that are not too long, not too deep, not too long in all -/
structure ShowOk (d : D) : Prop where
  sq : (∃ xs, d = .tup xs) ∨ ∃ xs, d = .lst xs
  pl : d.pl = true
  sh : d.py.showable = true
  dp : d.py.depth ≤ 60
  ln : d.py.shown.length ≤ sizeLine
def rReprD (K : KW) : List V → Hp → VK → Prop := fun vs H Q => ∃ (a : Addr) (d : D), vs = [.ref a] ∧ Dp K H (.ref a) d.py ∧ ShowOk d ∧ Q (.str d.py.shown) H
theorem cr_repr {X : Cx} {k : Nat} (room : Rm k X.A) : CallR X (.builtin "repr") (rReprD X.kw) := by
  intro pins s σ H vs us Q I r h
  obtain ⟨a, d, rfl, hd, ok, q⟩ := h
  obtain ⟨u, rfl, ru⟩ := vals1 r
  obtain rfl : u = Value.ref a := ru
  obtain ⟨as, rd⟩ := Dp.reads I _ _ _ hd rfl
  have un := room.units
  have dp := ok.dp
  exact repr_of_reads' rd ok.sh (PyData.noDict_hsm (pl_noDict d ok.pl)) room.gd (by omega) (fun _ _ e => e) (fun h' u tk hk => ⟨.str d.py.shown, H, I.kept hk, ⟨u, rfl⟩, q⟩) ok.ln
@[simp] def reprD : D → (D → Prop) → Prop := fun d Q => ShowOk d ∧ Q (.str d.py.shown)
theorem c_repr {X : Cx} {k : Nat} (room : Rm k X.A) : DCl X (.builtin "repr") (n1 reprD) := by
  refine ⟨_, cr_repr room, fun F H xs ds Q Q' s r h k => ?_⟩
  obtain ⟨d, rfl, ok, h⟩ := n1_of h
  obtain ⟨v, rfl, r1⟩ := rpa1 r
  have hd := dp_of s d v r1 ok.pl
  obtain ⟨a, rfl⟩ : ∃ a, v = .ref a := by
    rcases ok.sq with ⟨xs, rfl⟩ | ⟨xs, rfl⟩ <;> cases r1 <;> exact ⟨_, rfl⟩
  exact ⟨a, d, rfl, hd, ok, k _ _ F H h .nil (.str _)⟩
end L2.DL

namespace L2.DL
open PySem PySem.Spec PyProof.Rows

/-! ### exceptions: what is raised, by its class's name and its fields -/
structure Ex where
  n : Str
  fs : List (Str × D) := []
abbrev XQ := Ex → DEnv → Prop
def ExOk (K : KW) (B : Bd) (F H : Hp) (cls : Value) (dd : Option Addr) (x : Ex) : Prop := (∃ C, K.mg x.n = some (.ref C) ∧ cls = .ref C) ∧
  ((x.fs = [] ∧ dd = none) ∨ x.fs ≠ [] ∧ ∃ a vs, dd = some a ∧ H a = some (.xd vs) ∧ F a = none ∧ B.H0 a = none ∧ B.P a = none ∧ RpF K F vs x.fs)
/-- what is wished of an exception, by what the names hold, is taken -/
structure XT (X : Cx) (B : Bd) (xq : XQ) : Prop where
  ex : ∃ W : WX, Takes X W ∧ ∀ (F H : Hp) (σ : St) (env : DEnv) (x : Ex) (cls : Value) (dd : Option Addr), Rep X.kw B F H σ env → xq x env → ExOk X.kw B F H cls dd x → W cls dd σ H
abbrev FSpecX := List Cell → (D → List Cell → Prop) → (Ex → List Cell → Prop) → Prop
def spX (K : KW) (n : Nat) (spec : FSpecX) : Sp := fun vs H Q E => ∃ (F : Hp) (M : Addr → Prop) (ms : Nat → Addr → Prop) (cs : List Cell), vs.length = n ∧ Rep K ⟨M, H, F, vs, fun _ => none, ms⟩ F H (vs.map some) cs ∧
  ∃ Qd Qx, spec cs Qd Qx ∧ (∀ d cs' v F' H', Qd d cs' → Same F F' → Rep K ⟨M, H, F, vs, fun _ => none, ms⟩ F' H' (vs.map some) cs' → Rp K F' v d → Q v H') ∧
    ∀ x cs' cls dd F' H', Qx x cs' → Same F F' → Rep K ⟨M, H, F, vs, fun _ => none, ms⟩ F' H' (vs.map some) cs' → ExOk K ⟨M, H, F, vs, fun _ => none, ms⟩ F' H' cls dd x → E cls dd H'
def fnX (n : Nat) (Qx : Ex → List Cell → Prop) : XQ := fun x env => ∃ cs', cs'.length = n ∧ Outs env cs' ∧ Qx x cs'
section
variable {P : Program} {w : World} {K : PySem.W.Frag} {mg : Str → Option Value} {base : Heap}
/-- THE RULE for a def that may raise -/
theorem okX {x qual : Str} {st : Stmt} {f : Addr} {fd : FuncData} {N ps : List Str} {k : Nat} {spec : FSpecX} (F : Fun K x qual st f fd) (S : FnScope N ps (defScope st))
    (hbody : ∀ (cdv : Value) (A : Around) (outer : List Env) (s : Shared) (H : Hp) (E : XK) (B : Bd) (cs : List Cell) (Q : D → List Cell → Prop) (Qx : Ex → List Cell → Prop), Rm k (A.deeper (envOfC qual (defScope st) s.heap.objs.size f cdv)) → cs.length = ps.length → spec cs Q Qx →
      XT (cxOf (L2.CX P w) P w K mg base N qual (defScope st) f cdv A outer s H E) B (fnX ps.length Qx) → (∀ X, X = cxOf (L2.CX P w) P w K mg base N qual (defScope st) f cdv A outer s H E → PassesOwn (model X.prog X.w) X.A X.env X.xe) →
      ∃ t, DSs (cxOf (L2.CX P w) P w K mg base N qual (defScope st) f cdv A outer s H E) B (defBody st) t ∧ t (fnEnds ps.length Q) (cs ++ List.replicate (N.length - ps.length) .none)) :
    Fk P w K mg base (k + 1) f fd ps (spX ⟨K, P, w, mg⟩ ps.length spec) := by
  refine F.fk S (fun vs H Q E h => ?_) (fun cdv A outer s H vs Q E hr h => ?_)
  · obtain ⟨_, _, _, _, h, _⟩ := h; exact h
  · obtain ⟨F0, M, ms, cs, hl, R, Qd, Qx, hs, hq, hx⟩ := h
    have hcs : cs.length = ps.length := by rw [R.len, List.length_map, hl]
    have xt : XT (cxOf (L2.CX P w) P w K mg base N qual (defScope st) f cdv A outer s H E) ⟨M, H, F0, vs, fun _ => none, ms⟩ (fnX ps.length Qx) :=
      ⟨⟨fun cls d _ H => E cls d H, takes_of rfl rfl rfl rfl, fun F1 H1 σ env x cls dd R1 ⟨cs', l', o', q'⟩ ok => hx x cs' cls dd F1 H1 q' R1.gro (R1.outs rfl (l'.trans hl.symm) o') ok⟩⟩
    obtain ⟨t, d, ht⟩ := hbody cdv A outer s H E ⟨M, H, F0, vs, fun _ => none, ms⟩ cs _ _ hr hcs hs xt (fun X e => by subst e; exact passes_of rfl)
    obtain ⟨ts, p, h⟩ := d.ex
    refine ⟨ts, p, ?_⟩
    have R0 := R.pad (N.length - ps.length)
    have e0 : start N vs = vs.map some ++ List.replicate (N.length - ps.length) none := by unfold start; rw [hl]
    rw [e0]
    refine h F0 H _ _ _ _ R0 ht ⟨?_, ?_, fun _ _ _ _ q => q.elim, fun _ _ _ _ q => q.elim, fun _ _ _ _ _ _ q => q.elim⟩
    · rintro env' σ' F' H' ⟨cs', l', o', q'⟩ s' R'
      exact hq _ _ .non F' H' q' s' (R'.outs rfl (l'.trans hl.symm) o') .non
    · rintro d env' v σ' F' H' ⟨cs', l', o', q'⟩ s' R' r'
      exact hq _ _ v F' H' q' s' (R'.outs rfl (l'.trans hl.symm) o') r'
end
section
variable {X : Cx} {B : Bd} {e : Expr} {es : List Expr} {pos : Pos} {tr : TDR} {xq : XQ}
/-- f(..) of a def that may raise -/
@[simp] def qCallX (spec : FSpecX) (n : Nat) (xq : XQ) (tr : TDR) : TD := fun env Q => tr env fun as env1 => match callOk n as with
  | true => spec (handIn env1 as) (fun d cs => putC env1 as cs fun env2 => Q d env2) fun x cs => putC env1 as cs fun env2 => xq x env2
  | false => False
theorem ExOk.back {K : KW} {σ : St} {env : DEnv} {as : List Arg} {F H F' H' : Hp} {vs : List V} {cls : Value} {dd : Option Addr} {x : Ex} (R : Rep K B F H σ env) (h : ExOk K (handB σ env as H F vs) F' H' cls dd x) : ExOk K B F' H' cls dd x := by
  obtain ⟨h1, h2⟩ := h
  refine ⟨h1, h2.imp id ?_⟩
  rintro ⟨ne, a, ws, e1, e2, e3, e4, _, e6⟩
  obtain ⟨_, n2, n3, _⟩ := R.newp (show H a = none from e4)
  exact ⟨ne, a, ws, e1, e2, e3, n2, n3, e6⟩
theorem de_callX {k n : Nat} {f : Addr} {fd : FuncData} {ps : List Str} {spec : FSpecX} {x : Str} {p : Pos} (xt : XT X B xq) (G : Fk X.prog X.w X.kw X.mg X.base k f fd ps (spX X.kw n spec)) (hr : Rm k X.A) (hg : Gl X x) (hm : X.mg x = some (.ref f)) (hk : PySem.W.keepIn X.kw (.ref f) = true) (hb : Binds X.kw fd ps [])
    (ha : DR X B (e :: es) tr) (hdb : (x == ("__debug__" : Str)) = false := by decide) (he : starEach (e :: es) X.env = (false, eval e X.env) :: starEach es X.env := by rfl) (hpl : (backTo pos (starEach es X.env)).any (·.1) = false := by rfl) :
    DE X B (.Call (.Name x p) (e :: es) [] pos) (qCallX spec n xq tr) := by
  obtain ⟨te, q, h⟩ := ha.ex
  obtain ⟨W, tk, lift⟩ := xt.ex
  refine ⟨_, pk_call (E := WE W) G hr hg hm hk hb (fun σ => passAt tk σ) q hdb he hpl, fun F H σ env Q Q' R ht k => ?_⟩
  refine h F H σ env _ _ R ht fun as env1 vs F1 H1 q1 s1 R1 ra => ?_
  have q1 : callOk n as = true ∧ spec (handIn env1 as) (fun d cs => putC env1 as cs fun env2 => Q d env2) fun x cs => putC env1 as cs fun env2 => xq x env2 := by
    split at q1
    · rename_i hc; exact ⟨hc, q1⟩
    · exact q1.elim
  obtain ⟨hc, hs⟩ := q1
  obtain ⟨hn, nd⟩ := callOk_ok hc
  refine ⟨F1, HandM σ env1 as, HandS σ env1 as, handIn env1 as, by rw [Paired.length ra, hn], R1.handed ra nd, _, _, hs, fun d cs v F' H' q s' R' r' => ?_, fun x cs cls dd F' H' q s' R' ok => ?_⟩
  · exact k d _ v F' H' (putC_of q) (s1.trans s') (take_put (cs := cs) nd ▸ R1.taken ra s' R') r'
  · exact lift F' H' σ _ x cls dd (take_put (cs := cs) nd ▸ R1.taken ra s' R') (putC_of q) (ok.back R1)
/-- raise C('m') -/
@[simp] def sRaise (xq : XQ) (x : Ex) : TDS := fun _ env => xq x env
structure ExCls (K : PySem.W.Frag) (C : Addr) : Prop where
  ex : PySem.W.excIn K C He.veBase "ValueError.__new__" = true ∧ PySem.W.keepIn K (.ref C) = true ∧ PySem.W.subIn K (.ref C) (.type "BaseException") = some true ∧ PySem.W.typeIn K (.ref C) = some (.type "type")
theorem ds_raise {x m : Str} {j : Nat} {p p2 pos' : Pos} {C : Addr} (hc : X.calm = true) (xt : XT X B xq) (c : ExCls X.K C) (gC : X.mg x = some (.ref C)) (hg : Gl X x) (hdb : (x == ("__debug__" : Str)) = false := by decide) :
    DS X B (.Raise (some (.Call (.Name x p) [.Constant (.str m) j p2] [] pos)) none pos') (sRaise xq ⟨x, []⟩) := by
  obtain ⟨W, tk, lift⟩ := xt.ex
  obtain ⟨c1, c2, c3, c4⟩ := c.ex
  refine ⟨_, ps_raise hc tk (pmk_own PySem.F.excBase_ValueError c1 gC c2 (raises_own c3 c4) hg hdb), fun F H σ env DD DH R ht l => ?_⟩
  exact lift F H σ env _ _ _ R ht ⟨⟨C, gC, rfl⟩, .inl ⟨rfl, rfl⟩⟩
end
/-! ### try -/
/-- what stands at the start counts as what was there -/
abbrev Bd.at_ (B : Bd) (F : Hp) : Bd := { B with F0 := F }
theorem CellOk.reB {K : KW} {B B' : Bd} {F H : Hp} {o : Option (Option V)} {i : Nat} (e1 : B'.M = B.M) (e2 : B'.H0 = B.H0) (e3 : B'.par = B.par) (e4 : B'.P = B.P) (e5 : B'.ms = B.ms) : ∀ {c : Cell}, CellOk K B F H o i c → CellOk K B' F H o i c := by
  have key : ∀ {fr : Bool} {c : OC}, OwnOk K B F H o i fr c → OwnOk K B' F H o i fr c := by
    rintro fr c ⟨a, h1, h2, h3, h4, h5, h6, h7⟩
    refine ⟨a, h1, h2, h3, by rw [e4]; exact h4, by rw [e1, e2, e3]; exact h5, h6, fun b m => ?_⟩
    rw [e1, e2, e4, e5]
    exact h7 b m
  intro c h
  cases c with
  | none => trivial
  | val d => exact h
  | own fr c => exact key h
  | opq fr φ => obtain ⟨c, h1, h2, h3⟩ := h; exact ⟨c, h1, h2, key h3⟩
theorem Rep.at_ {K : KW} {B : Bd} {F H : Hp} {σ : St} {env : DEnv} (R : Rep K B F H σ env) : Rep K (B.at_ F) F H σ env :=
  { R with gro := Same.refl _, new := fun b e n => absurd e n, cells := fun i c e => (R.cells i c e).reB rfl rfl rfl rfl rfl }
theorem Rep.of_at {K : KW} {B : Bd} {F H F' H' : Hp} {σ σ' : St} {env env' : DEnv} (R : Rep K B F H σ env) (R' : Rep K (B.at_ F) F' H' σ' env') : Rep K B F' H' σ' env' :=
  { R' with
    gro := R.gro.trans R'.gro
    new := fun b e n => by
      by_cases q : F b = none
      · exact R'.new b q n
      · exact R.new b e q
    cells := fun i c e => (R'.cells i c e).reB rfl rfl rfl rfl rfl }
theorem Lk.at_ {K : KW} {B : Bd} {F F1 H : Hp} {σ : St} {env : DEnv} {DD : DEnds} {DH : Ends} (R : Rep K B F H σ env) (l : Lk K B F1 DD DH) : Lk K (B.at_ F) F1 DD DH :=
  ⟨fun a b c d e f g => l.nx a b c d e f (R.of_at g), fun a b c d e f g h i j => l.rt a b c d e f g h (R.of_at i) j, fun a b c d e f g => l.bk a b c d e f (R.of_at g), fun a b c d e f g => l.ct a b c d e f (R.of_at g),
    fun a b c d e f g h i j k m n o => l.ro a b c d e f g h (R.of_at i) j k m n o⟩
/-- a body, a suite as a term of the layer below -/
def canS (K : KW) (t : TDS) : TS := fun DH σ H => ∃ (B : Bd) (F : Hp) (env : DEnv) (DD : DEnds), Rep K B F H σ env ∧ t DD env ∧ Lk K B F DD DH
def canX (K : KW) (tb : XQ → TDS) (W : WX) : TS := fun DH σ H => ∃ (B : Bd) (F : Hp) (env : DEnv) (DD : DEnds) (xq : XQ), Rep K B F H σ env ∧ tb xq DD env ∧ Lk K B F DD DH ∧
  ∀ (F' H' : Hp) (σ' : St) (env' : DEnv) (x : Ex) (cls : Value) (dd : Option Addr), Rep K B F' H' σ' env' → xq x env' → ExOk K B F' H' cls dd x → W cls dd σ' H'
theorem pss_canS {X : Cx} {sts : List Stmt} {t : TDS} (h : ∀ B, DSs X B sts t) : PSs X sts (canS X.kw t) :=
  ⟨fun pins s σ H DH I ⟨B, F, env, DD, R, ht, l⟩ => by
    obtain ⟨ts, p, k⟩ := (h B).ex
    exact p.run pins s σ H DH I (k F H σ env DD DH R ht l)⟩
theorem pss_canX {X : Cx} {sts : List Stmt} {tb : XQ → TDS} {W : WX} (tk : Takes X W) (h : ∀ B xq, XT X B xq → DSs X B sts (tb xq)) : PSs X sts (canX X.kw tb W) :=
  ⟨fun pins s σ H DH I ⟨B, F, env, DD, xq, R, ht, l, lift⟩ => by
    obtain ⟨ts, p, k⟩ := (h B xq ⟨⟨W, tk, lift⟩⟩).ex
    exact p.run pins s σ H DH I (k F H σ env DD DH R ht l)⟩
/-- which class is under which -/
abbrev ExTab := List ((Str × Str) × Bool)
def isSub (tab : ExTab) (x c : Str) : Option Bool := (tab.find? fun p => decide (p.1 = (x, c))).map (·.2)
def ExTab.Ok (K : PySem.W.Frag) (mg : Str → Option Value) (tab : ExTab) : Prop := ∀ p ∈ tab, ∃ C D, mg p.1.1 = some (.ref C) ∧ mg p.1.2 = some (.ref D) ∧ PySem.W.exmOne K (.ref C) (.ref D) = some p.2
theorem ExTab.Ok.get {K : PySem.W.Frag} {mg : Str → Option Value} {tab : ExTab} (h : tab.Ok K mg) {x c : Str} {b : Bool} (e : isSub tab x c = some b) : ∃ C D, mg x = some (.ref C) ∧ mg c = some (.ref D) ∧ PySem.W.exmOne K (.ref C) (.ref D) = some b := by
  unfold isSub at e
  cases q : tab.find? fun p => decide (p.1 = (x, c)) with
  | none => rw [q] at e; cases e
  | some p =>
    rw [q] at e
    cases e
    have h1 : p.1 = (x, c) := of_decide_eq_true (by simpa using List.find?_some q)
    obtain ⟨C, D, h2, h3, h4⟩ := h p (List.mem_of_find?_eq_some q)
    rw [h1] at h2 h3
    exact ⟨C, D, h2, h3, h4⟩
def catchM (tab : ExTab) (DD : DEnds) (xq : XQ) : List (Str × TDS) → XQ
  | [] => xq
  | (c, ts) :: r => fun x env => match isSub tab x.n c with
    | some true => ts DD env
    | some false => catchM tab DD xq r x env
    | none => False
@[simp] def sTryM (tab : ExTab) (tb : XQ → TDS) (l : List (Str × TDS)) (xq : XQ) : TDS := fun DD env => tb (catchM tab DD xq l) DD env
/-- the clauses, without names -/
inductive DHds (X : Cx) : List ExceptHandler → List (Str × TDS) → Prop
  | nil : DHds X [] []
  | cons {x : Str} {C : Addr} {ts : TDS} {b₀ : Stmt} {suite : List Stmt} {np pos' : Pos} {hds : List ExceptHandler} {l : List (Str × TDS)} (hg : Gl X x) (hm : X.mg x = some (.ref C))
      (hsu : ∀ (a : Addr) (oe : Obj) (pn : List (Addr × Obj)) (B : Bd), DSs (X.suite a ((a, oe) :: pn)) B (b₀ :: suite) ts) (r : DHds X hds l) (hdb : (x == ("__debug__" : Str)) = false := by decide) : DHds X (.ExceptHandler (some (.Name x np)) none (b₀ :: suite) pos' :: hds) ((x, ts) :: l)
section
variable {X : Cx} {B : Bd} {xq : XQ}
theorem DHds.ok {hds : List ExceptHandler} {l : List (Str × TDS)} (h : DHds X hds l) : ∃ l' : List (Value × (Addr → Value → Option Addr → TS)), HdsOk X hds l' ∧ l' = l.map (fun p => ((X.mg p.1).getD .none, fun _ _ _ => canS X.kw p.2)) := by
  induction h with
  | nil => exact ⟨[], .nil, rfl⟩
  | @cons x C ts b₀ suite np pos' hds l hg hm hsu r hdb ih =>
    obtain ⟨l', h1, h2⟩ := ih
    refine ⟨_, .cons (c := .ref C) (ts := fun _ _ _ => canS X.kw ts) ⟨hg, hdb, .inl hm⟩ (fun a oe cls d pn _ _ => pss_canS fun B => hsu a oe pn B) h1, ?_⟩
    rw [h2, List.map_cons, hm]
    rfl
theorem ds_tryM {body : List Stmt} {h₀ : ExceptHandler} {hds : List ExceptHandler} {pos : Pos} {tb : XQ → TDS} {l : List (Str × TDS)} {tab : ExTab} (hs : X.stack = X.env :: X.outer) (hf : X.env.frame = some X.env.locals) (xt : XT X B xq) (tb_ok : tab.Ok X.K X.mg)
    (hb : ∀ (pn : List (Addr × Obj)) (xe : Value → Shared → Prop) (B : Bd) (xq : XQ), XT (X.tr pn xe) B xq → PassesOwn (model X.prog X.w) X.A X.env xe → DSs (X.tr pn xe) B body (tb xq)) (hh : DHds X (h₀ :: hds) l) :
    DS X B (.Try body (h₀ :: hds) [] [] pos) (sTryM tab tb l xq) := by
  obtain ⟨W, tk, lift⟩ := xt.ex
  obtain ⟨l', hk, el⟩ := hh.ok
  refine ⟨_, ps_try_many (tb := fun W => canX X.kw tb W) hs hf tk (fun W pn xe tk' pw => show PSs (X.tr pn xe) _ (canX X.kw tb W) from pss_canX (X := X.tr pn xe) (tb := tb) tk' fun B xq xt => hb pn xe B xq xt pw) hk, fun F H σ env DD DH R ht lk => ?_⟩
  refine ⟨B.at_ F, F, env, DD, _, R.at_, ht, lk.at_ R, fun F' H' σ' env' x cls dd R' q ok => ?_⟩
  have R2 := R.of_at R'
  have ok2 : ExOk X.kw B F' H' cls dd x := ok
  have sm : Same F F' := R'.gro
  subst el
  clear hh hk ht
  induction l with
  | nil => exact lift F' H' σ' env' x cls dd R2 q ok2
  | cons p r ih =>
    obtain ⟨c, ts⟩ := p
    have q : (match isSub tab x.n c with
      | some true => ts DD env'
      | some false => catchM tab DD xq r x env'
      | none => False) := q
    obtain ⟨⟨C0, m0, e0⟩, _⟩ := id ok2
    cases e : isSub tab x.n c with
    | none => rw [e] at q; exact q.elim
    | some b =>
      rw [e] at q
      obtain ⟨C, D, m1, m2, m3⟩ := tb_ok.get e
      have m0 : X.mg x.n = some (.ref C0) := m0
      rw [m0] at m1
      cases m1
      subst e0
      have ec : (X.mg c).getD .none = .ref D := by rw [m2]; rfl
      refine ⟨b, ?_, ?_, ?_⟩
      · show PySem.W.exmOne X.K (.ref C0) ((X.mg c).getD .none) = some b
        rw [ec]; exact m3
      · rintro rfl a _
        exact ⟨B, F', env', DD, R2, q, lk.mono sm⟩
      · rintro rfl
        exact ih q
end
end L2.DL

namespace L2.DL
open PySem PySem.Spec PyProof.Rows

/-! ### an exception that is caught and kept: try .. except C as e: v = e -/
theorem Inv.adopt {X : Cx} {pins : List (Addr × Obj)} {σ : St} {H : Hp} {s : Shared} {a : Addr} {oe : Obj} (I : Inv X ((a, oe) :: pins) σ H s) (new : ∀ o, X.s_0.heap.get? a ≠ some o) (off : ∀ p ∈ X.pn ++ pins, p.1 ≠ a) : Inv X pins σ (upd H a (stays a oe)) s := by
  obtain ⟨at_, none_, nl, nf, ncell⟩ := I.pin (a, oe) (by simp)
  have at_ : s.heap.get? a = some oe := at_
  have none_ : H a = none := none_
  have ne : ∀ {b : Addr} {o : HO}, H b = some o → b ≠ a := fun e z => by rw [z, none_] at e; cases e
  have hok : HOk X.prog X.w (upd H a (stays a oe)) s.heap := fun b o e => by
    by_cases q : b = a
    · subst q
      rw [upd_same] at e
      cases e
      exact ⟨at_, ⟨oe, at_⟩, fun h1 h2 p k => k _ p⟩
    · rw [upd_ne q] at e
      exact (I.hok b o e).stay (fun _ _ _ z => z) (fun c z => by rw [upd_ne (ne z)]; exact z) fun c xs z => by rw [upd_ne (ne z)]; exact z
  refine ⟨I.ok, I.os, I.bare, ⟨I.base.keep, I.base.slot, fun b o e n x => ?_, I.base.there, fun b xs e => ?_, fun b o u e => ?_, fun b ps e => ?_⟩, I.loc, I.cell, ?_, fun x c e => ?_, fun p m => ?_, hok, I.len⟩
  · have q : b ≠ a := fun z => new o (by rw [← z]; exact e)
    rw [upd_ne q]; exact I.base.free b o e n x
  · have z := I.base.tups b xs e
    rw [upd_ne (ne z)]; exact z
  · have z := I.base.frzs b o u e
    rw [upd_ne (ne z)]; exact z
  · obtain ⟨more, z⟩ := I.base.tbls b ps e
    exact ⟨more, by rw [upd_ne (ne z)]; exact z⟩
  · rw [upd_ne (Ne.symm nl)]; exact I.free
  · obtain ⟨v, o, z, d⟩ := I.cell x c e
    have q : c ≠ a := fun y => by
      rw [y, at_] at z
      cases z
      exact ncell v d
    rw [upd_ne q]; exact I.freeC x c e
  · have q := off p m
    obtain ⟨p1, p2, p3⟩ := I.pin p (by
      rcases List.mem_append.mp m with m | m
      · exact List.mem_append_left _ m
      · exact List.mem_append_right _ (List.mem_cons_of_mem _ m))
    exact ⟨p1, by rw [upd_ne q]; exact p2, p3⟩
theorem Inv.suiteOff {X : Cx} {pins pins' : List (Addr × Obj)} {σ : St} {H : Hp} {s : Shared} {a : Addr} {q : Addr × Obj} (I : Inv (X.suite a (q :: (X.pn ++ pins))) pins' σ H s) (ok : X.Ok) : Inv X (q :: pins) σ H s :=
  ⟨ok, I.os, I.bare, I.base, I.loc, I.cell, I.free, I.freeC, fun p m => I.pin p (List.mem_append_left _ (by
    rcases List.mem_append.mp m with m | m
    · exact List.mem_cons_of_mem _ (List.mem_append_left _ m)
    · rcases List.mem_cons.mp m with m | m
      · rw [m]; exact List.mem_cons_self
      · exact List.mem_cons_of_mem _ (List.mem_append_right _ m))), I.hok, I.len⟩
def wKeep (K : PySem.W.Frag) (c : Value) (i j : Nat) (Wout : WX) (D : Ends) : WX := fun cls d σ H => ∃ b, PySem.W.exmOne K cls c = some b ∧
  (b = true → ∀ a o, H a = none → o.cls = cls → o.dict = d → (∃ vs, o.data = .fields vs) → D.nx (((σ.set i (some (.ref a))).set j (some (.ref a))).set i none) (upd H a (stays a o))) ∧ (b = false → Wout cls d σ H)
section
variable {X : Cx} {x n v : Str} {c : Value} {i j : Nat} {body : List Stmt} {np pos pos' p1 p2 p3 : Pos} {tb : WX → TS} {Wout : WX}
set_option maxHeartbeats 1000000 in
theorem ps_try_keep (hs : X.stack = X.env :: X.outer) (hf : X.env.frame = some X.env.locals) (hex : X.ex = []) (hN : X.N.Nodup) (hi : X.N[i]? = some n) (hln : X.env.kindOf n = some .local) (names : Names X x c) (tk : Takes X Wout)
    (store : ∀ (a : Addr) (pn : List (Addr × Obj)), PS (X.suite a pn) (.Assign [.Name v p1] (.Name n p2) p3) (tAsg (tVar i) (gName j)))
    (hb : ∀ (W : WX) (pn : List (Addr × Obj)) (xe : Value → Shared → Prop), Takes (X.tr pn xe) W → PassesOwn (model X.prog X.w) X.A X.env xe → PSs (X.tr pn xe) body (tb W)) :
    PS X (.Try body [.ExceptHandler (some (.Name x np)) (some n) [.Assign [.Name v p1] (.Name n p2) p3] pos'] [] [] pos) (fun D σ H => tb (wKeep X.K c i j Wout D) D σ H) where
  run := by
    intro pins s σ H D I h
    have ok := I.ok
    have frames : X.A.frames = some (X.env :: X.outer) := ok.frames.trans (by rw [hs])
    have caught : ∀ (u : Value) (s1 : Shared), XE (X.tr (X.pn ++ pins) (fun e s₁ => wpAny (model X.prog X.w) X.A (noteFrame e X.env) (fun _ s₂ => wpAny (model X.prog X.w) X.A (setFlight e none) (fun _ s₃ =>
        wpAny (model X.prog X.w) X.A (handleBy e X.env [.ExceptHandler (some (.Name x np)) (some n) [.Assign [.Name v p1] (.Name n p2) p3] pos']) (SP X pins D) X.xe s₃) X.xe s₂) X.xe s₁)) (wKeep X.K c i j Wout D) u s1 →
        wpAny (model X.prog X.w) X.A (noteFrame u X.env) (fun _ s₂ => wpAny (model X.prog X.w) X.A (setFlight u none) (fun _ s₃ => wpAny (model X.prog X.w) X.A (handleBy u X.env [.ExceptHandler (some (.Name x np)) (some n) [.Assign [.Name v p1] (.Name n p2) p3] pos']) (SP X pins D) X.xe s₃) X.xe s₂) X.xe s1 := by
      rintro u s1 ⟨a, G, s0, pins0, σ1, H1, cls, d, rfl, J0, ground, up, sky, free, os, bare, b, test, yes, no⟩
      have J : Inv X pins σ1 H1 s0 := J0.ofTry ok
      have sky : Sky G (X.env :: X.outer) a (Zc cls d) X.env.locals s1.heap := by rw [← hs]; exact sky
      refine Sky.land Zc.steady frames hf sky fun h3 fly3 up3 => ?_
      have J3 : Inv X pins σ1 H1 { s1 with heap := h3 } := J.landed ground fly3.1 (up.trans up3) os bare
      obtain ⟨o3, vs3, e3, z3, d3⟩ := fly3.there
      have apart : a ∉ frs (X.env :: X.outer) := fun m => by
        obtain ⟨_, o, e, nf⟩ := fly3.2.2.1.mem m
        rw [e3] at e
        cases e
        exact nf _ d3
      have nL : a ≠ X.env.locals := fun z => apart (List.mem_filterMap.mpr ⟨X.env, List.mem_cons_self, by rw [hf, z]⟩)
      have nF : a ∉ X.fs := fun m => by
        obtain ⟨e, he, q⟩ := List.mem_filterMap.mp m
        exact apart (List.mem_filterMap.mpr ⟨e, List.mem_cons_of_mem _ he, q⟩)
      have older : ∀ {b : Addr} {o : Obj}, s0.heap.get? b = some o → b ≠ a := fun {b o} e z => by
        have q := ground b o e (by rw [hs, z]; exact apart)
        rw [z, fly3.2.1] at q
        cases q
      have new : ∀ o, X.s_0.heap.get? a ≠ some o := fun o e => by
        obtain ⟨o', e'⟩ := J.base.there a o e (by rw [hex]; simp)
        exact older e' rfl
      have off : ∀ p ∈ X.pn ++ pins, p.1 ≠ a := fun p m => older (J.pin p m).1
      have S3 := J3.suite e3 d3 free nL nF
      refine wpAny_handleBy_cons (codeAny_handlers_test ?_) (fun z => by cases z)
      have tyOf : PySem.W.Looks (model X.prog X.w) h3 (typeOf (.ref a)) cls := fun A Q E s k q => wpAny_typeOf_ref (k _ _ e3) (by rw [z3.1]; exact q)
      have looks := PySem.W.exm_one (M := model X.prog X.w) J3.kIn tyOf test
      have named : ∀ {Q : Value → Shared → Prop} {E : Value → Shared → Prop}, Q c { s1 with heap := h3 } → wpAny (model X.prog X.w) (X.A.mark (some (.ref a))) (eval (.Name x np) X.env) Q E { s1 with heap := h3 } := by
        intro Q E q
        obtain ⟨hg, hd, m | ⟨m, hv, hnn⟩⟩ := names
        · exact ld_glob (X := X.suite a ((a, o3) :: (X.pn ++ pins))) S3 hg m q hd
        · exact ld_blt (X := X.suite a ((a, o3) :: (X.pn ++ pins))) S3 hg m hv q hnn hd
      refine named (looks.here ?_)
      cases b with
      | true =>
        refine codeAny_handlers_suite_as (HandSPX.lands_againZ fly3 fun h4 fly4 up4 => ?_)
        have J4 : Inv X pins σ1 H1 { s1 with heap := h4 } := J.landed ground fly4.1 ((up.trans up3).trans up4) os bare
        obtain ⟨o4, vs4, e4, z4, d4⟩ := fly4.there
        have S4 := J4.suite e4 d4 free nL nF
        refine store_ok (X := X.suite a ((a, o4) :: (X.pn ++ pins))) (v := .ref a) S4 hN hi (.inl hln) rfl (fun s5 S5 => ?_) (.inr hln)
        have il : i < σ1.length := by rw [J.len]; exact (List.getElem?_eq_some_iff.mp hi).1
        let D5 : Ends := { nx := fun σ6 H6 => σ6 = (σ1.set i (some (.ref a))).set j (some (.ref a)) ∧ H6 = H1, rt := fun _ _ => False, bk := fun _ _ => False, ct := fun _ _ => False }
        refine wpAny_mono ((pss_one (store a ((a, o4) :: (X.pn ++ pins)))).run [] s5 _ H1 D5 S5 ⟨.ref a, by rw [List.getElem?_set_self il], rfl, rfl⟩) (fun fl s6 q => ?_) (fun _ _ z => z.elim)
        cases fl with
        | next =>
          obtain ⟨σ6, H6, S6, e6, eH⟩ := q
          subst e6 eH
          have S7 : Inv X ((a, o4) :: pins) _ H6 s6 := Inv.suiteOff S6 ok
          exact gone_ok S7 hN hi hln fun s7 J7 => ⟨_, _, Inv.adopt J7 new off, yes rfl a o4 free z4.1 z4.2 ⟨_, d4⟩⟩
        | brk => obtain ⟨_, _, _, z⟩ := q; exact z.elim
        | cont => obtain ⟨_, _, _, z⟩ := q; exact z.elim
        | ret u => obtain ⟨_, _, _, _, _, z⟩ := q; exact z.elim
      | false =>
        refine wpAny_handleBy_nil ?_
        obtain ⟨_, _, _, o, vs, T, oT, ts, he, hz, hd, h1, hr⟩ := id fly3
        unfold PySem.passOn
        refine wpAny_bind (wpAny_field he hd h1 ?_)
        rw [if_neg (show ¬ ((Value.ref T == Value.none) = true) from by simp)]
        have out : wpAny (model X.prog X.w) X.A (setFlight (.ref a) X.env.frame) (fun _ s4 => wpAny (model X.prog X.w) X.A (throw (.ref a) : Sem Flow) (SP X pins D) X.xe s4) X.xe { s1 with heap := h3 } := by
          rw [hf]
          exact HandSPX.setFlight_upZ fly3 fun h4 held up4 => wpAny_throw (tk _ _ ⟨a, G, s0, pins, σ1, H1, cls, d, rfl, J, ground, (up.trans up3).trans up4, .inr (.inr (by rw [hs]; exact held)), free, os, bare, no rfl⟩)
        first
          | exact wpAny_bind (wpAny_pure (wpAny_bind out))
          | exact wpAny_bind out
    refine wpAny_Try_except (wpAny_mono ((hb (wKeep X.K c i j Wout D) (X.pn ++ pins) _ caught PassesOwn.looking).run [] s σ H D (I.toTry _) h) (fun fl s1 q => ?_) fun _ _ z => z)
    cases fl with
    | next => obtain ⟨σ1, H1, J, q⟩ := q; exact wpAny_execs_nil ⟨σ1, H1, J.ofTry ok, q⟩
    | brk => obtain ⟨σ1, H1, J, q⟩ := q; exact ⟨σ1, H1, J.ofTry ok, q⟩
    | cont => obtain ⟨σ1, H1, J, q⟩ := q; exact ⟨σ1, H1, J.ofTry ok, q⟩
    | ret u => obtain ⟨y, σ1, H1, J, r, q⟩ := q; exact ⟨y, σ1, H1, J.ofTry ok, r, q⟩
end
end L2.DL

namespace L2.DL
open PySem PySem.Spec PyProof.Rows

/-! ### try: body, except C as e: v = e -/
theorem Rep.setAny {K : KW} {B : Bd} {F H : Hp} {σ : St} {env : DEnv} (R : Rep K B F H σ env) (i : Nat) (x : Option V) : Rep K B F H (σ.set i x) (env.set i .none) where
  len := by rw [List.length_set, List.length_set]; exact R.len
  sub := R.sub
  fix := R.fix
  gro := R.gro
  new := R.new
  mf := R.mf
  mh := R.mh
  m0 := R.m0
  pin := R.pin
  mp := R.mp
  pf := R.pf
  cells := fun j c e => by
    by_cases q : i = j
    · subst q
      have hl : i < env.length := by
        have := (List.getElem?_eq_some_iff.mp e).1
        rw [List.length_set] at this; exact this
      rw [List.getElem?_set_self hl] at e
      cases e; trivial
    · rw [List.getElem?_set_ne q] at e ⊢
      exact R.cells j c e
  dis := fun j k a c c' e1 e2 s1 s2 => by
    have off : ∀ {j : Nat} {c : Cell}, (env.set i .none)[j]? = some c → a ∈ foot (σ.set i x)[j]? c → env[j]? = some c ∧ a ∈ foot σ[j]? c := by
      intro j c e s
      by_cases q : i = j
      · subst q
        have hl : i < env.length := by
          have := (List.getElem?_eq_some_iff.mp e).1
          rw [List.length_set] at this; exact this
        rw [List.getElem?_set_self hl] at e
        cases e; rw [foot_none] at s; cases s
      · rw [List.getElem?_set_ne q] at e s
        exact ⟨e, s⟩
    obtain ⟨x1, y1⟩ := off e1 s1
    obtain ⟨x2, y2⟩ := off e2 s2
    exact R.dis j k a c c' x1 x2 y1 y2
@[simp] def sTryK (tab : ExTab) (tb : XQ → TDS) (c : Str) (i j : Nat) (xq : XQ) : TDS := fun DD env => tb (fun x env' => match isSub tab x.n c with
  | some true => x.fs = [] ∧ ∀ a, setC j (.own true (.exn x.n a)) env' fun e1 => setC i .none e1 DD.nx
  | some false => xq x env'
  | none => False) DD env
section
variable {X : Cx} {B : Bd} {xq : XQ}
theorem ds_tryK {body : List Stmt} {x n v : Str} {np pos pos' p1 p2 p3 : Pos} {i j : Nat} {C : Addr} {tb : XQ → TDS} {tab : ExTab} (hs : X.stack = X.env :: X.outer) (hf : X.env.frame = some X.env.locals) (hex : X.ex = []) (hN : X.N.Nodup) (ij : i ≠ j) (hi : X.N[i]? = some n) (hln : X.env.kindOf n = some .local)
    (hg : Gl X x) (hm : X.mg x = some (.ref C)) (xt : XT X B xq) (tab_ok : tab.Ok X.K X.mg)
    (store : ∀ (a : Addr) (pn : List (Addr × Obj)), PS (X.suite a pn) (.Assign [.Name v p1] (.Name n p2) p3) (tAsg (tVar i) (gName j)))
    (hb : ∀ (pn : List (Addr × Obj)) (xe : Value → Shared → Prop) (B : Bd) (xq : XQ), XT (X.tr pn xe) B xq → PassesOwn (model X.prog X.w) X.A X.env xe → DSs (X.tr pn xe) B body (tb xq)) (hdb : (x == ("__debug__" : Str)) = false := by decide) :
    DS X B (.Try body [.ExceptHandler (some (.Name x np)) (some n) [.Assign [.Name v p1] (.Name n p2) p3] pos'] [] [] pos) (sTryK tab tb x i j xq) := by
  obtain ⟨W, tk, lift⟩ := xt.ex
  refine ⟨_, ps_try_keep (tb := fun W => canX X.kw tb W) hs hf hex hN hi hln ⟨hg, hdb, .inl hm⟩ tk store (fun W pn xe tk' pw => show PSs (X.tr pn xe) _ (canX X.kw tb W) from pss_canX (X := X.tr pn xe) (tb := tb) tk' fun B xq xt => hb pn xe B xq xt pw), fun F H σ env DD DH R ht lk => ?_⟩
  refine ⟨B.at_ F, F, env, DD, _, R.at_, ht, lk.at_ R, fun F' H' σ' env' y cls dd R' q ok => ?_⟩
  have R2 := R.of_at R'
  have sm : Same F F' := R'.gro
  have ok2 : ExOk X.kw B F' H' cls dd y := ok
  obtain ⟨⟨C0, m0, e0⟩, m1⟩ := id ok2
  have m0 : X.mg y.n = some (.ref C0) := m0
  subst e0
  have q : (match isSub tab y.n x with
    | some true => y.fs = [] ∧ ∀ a, setC j (.own true (.exn y.n a)) env' fun e1 => setC i .none e1 DD.nx
    | some false => xq y env'
    | none => False) := q
  cases e : isSub tab y.n x with
  | none => rw [e] at q; exact q.elim
  | some b =>
    rw [e] at q
    obtain ⟨C1, D1, n1, n2, n3⟩ := tab_ok.get e
    rw [m0] at n1
    cases n1
    rw [hm] at n2
    cases n2
    refine ⟨b, n3, ?_, ?_⟩
    · rintro rfl a o free oc od ov
      obtain ⟨qf, q⟩ := q
      have dn : dd = none := by
        rcases m1 with ⟨_, z⟩ | ⟨ne, _⟩
        · exact z
        · exact absurd qf ne
      obtain ⟨n1, n2, n3, n4⟩ := R2.newp free
      have R3 := (R2.junk (o := stays a o) free).setOwn (c := .exn y.n a) (p := a) j ⟨rfl, C0, o, m0, upd_same, oc, od.trans dn, ov⟩ n1 n2 n3 (apt n4)
      have R4 := R3.setAny i none
      have es : ((σ'.set i (some (V.ref a))).set j (some (V.ref a))).set i none = (σ'.set j (some (V.ref a))).set i none := by
        rw [List.set_comm _ _ ij, List.set_set]
      rw [es]
      exact lk.nx _ _ F' _ (setC_of (setC_of (q a))) sm R4
    · rintro rfl
      exact lift F' H' σ' env' y _ dd R2 q ok2
end
/-! ### a name that may hold a kept exception: x is None, isinstance(x, C), isinstance(x, (C, ..)) -/
@[simp] def viewC : Cell → Option D
  | .val d => some d
  | .own _ c => some c.frz
  | _ => none
theorem cell_view {K : KW} {B : Bd} {F H : Hp} {σ : St} {env : DEnv} {i : Nat} {c : Cell} {d : D} (R : Rep K B F H σ env) (e : env[i]? = some c) (h : viewC c = some d) : ∃ v G, σ[i]? = some (some v) ∧ Same F G ∧ Same G H ∧ Rp K G v d := by
  cases c with
  | val x => cases h; obtain ⟨v, h1, h2⟩ := R.cells i _ e; exact ⟨v, F, h1, Same.refl _, R.sub, h2⟩
  | own fr c => cases h; obtain ⟨a, G, h1, h2, h3, h4⟩ := own_view R e; exact ⟨_, G, h1, h2, h3, h4⟩
  | none => cases h
  | opq _ _ => cases h
@[simp] def viewAt (env : DEnv) (i : Nat) (k : D → Prop) : Prop := match env[i]? with
  | some (.val d) => k d
  | some (.own _ c) => k c.frz
  | _ => False
theorem viewAt_of {env : DEnv} {i : Nat} {k : D → Prop} (h : viewAt env i k) : ∃ c d, env[i]? = some c ∧ viewC c = some d ∧ k d := by
  unfold viewAt at h
  split at h
  · rename_i d e; exact ⟨_, d, e, rfl, h⟩
  · rename_i fr c e; exact ⟨_, c.frz, e, rfl, h⟩
  · exact h.elim
@[simp] def qIsNonV (i : Nat) : TDT := fun env Q => viewAt env i fun d => isN d fun b => Q b env
theorem dt_isNonV {X : Cx} {B : Bd} {i : Nat} {x : Str} {p p2 pos : Pos} {j : Nat} (ha : PE X (.Name x p) (tVar i)) : DT X B (.Compare (.Name x p) [.Is] [.Constant .none j p2] pos) (qIsNonV i) := by
  refine ⟨_, pt_cmpR op_isN ha pe_non (nomark _), fun F H σ env Q Q' R ht k => ?_⟩
  obtain ⟨c, d, e, hv, ht⟩ := viewAt_of ht
  obtain ⟨v, G, h1, h2, h3, r⟩ := cell_view R e hv
  exact ⟨_, h1, rfl, _, rfl, k _ env F H (isN_rp (Q := fun b => Q b env) r ht) (Same.refl _) R⟩
inductive CN where
  | own (x : Str) | bt (T : String)
abbrev KiTab := List ((Str × CN) × Bool)
instance : DecidableEq CN := fun a b => match a, b with
  | .own x, .own y => if h : x = y then .isTrue (by rw [h]) else .isFalse (fun e => h (by cases e; rfl))
  | .bt x, .bt y => if h : x = y then .isTrue (by rw [h]) else .isFalse (fun e => h (by cases e; rfl))
  | .own _, .bt _ => .isFalse (fun e => by cases e)
  | .bt _, .own _ => .isFalse (fun e => by cases e)
def kiOne (tab : KiTab) (n : Str) (c : CN) : Option Bool := (tab.find? fun p => decide (p.1 = (n, c))).map (·.2)
def kiAny (tab : KiTab) (n : Str) : List CN → Option Bool
  | [] => some false
  | c :: r => match kiOne tab n c with
    | some true => some true
    | some false => kiAny tab n r
    | none => none
/-- the value of a class's name -/
def CnV (X : Cx) (c : CN) (v : V) : Prop := match c with
  | .own x => ∃ C, X.mg x = some (.ref C) ∧ v = .ref C
  | .bt T => v = .ty T
def KiTab.Ok (K : PySem.W.Frag) (mg : Str → Option Value) (tab : KiTab) : Prop := ∀ p ∈ tab, ∃ D, mg p.1.1 = some (.ref D) ∧ ExcC K D ∧ match p.1.2 with
  | .own y => ∃ C, mg y = some (.ref C) ∧ PySem.W.kitOne K (.ref D) (.ref C) = some p.2
  | .bt T => PySem.W.kitOne K (.ref D) (.type T) = some p.2
theorem CnV.val {X : Cx} {c : CN} {v : V} (h : CnV X c v) : ∃ cv : Value, (∀ u, RelV v u → u = cv) ∧ ∀ {tab : KiTab} {n : Str} {b : Bool}, tab.Ok X.K X.mg → kiOne tab n c = some b → ∃ D, X.mg n = some (.ref D) ∧ ExcC X.K D ∧ PySem.W.kitOne X.K (.ref D) cv = some b := by
  have look : ∀ {tab : KiTab} {n : Str} {b : Bool}, kiOne tab n c = some b → ∃ p ∈ tab, p.1 = (n, c) ∧ p.2 = b := by
    intro tab n b e
    unfold kiOne at e
    cases q : tab.find? fun p => decide (p.1 = (n, c)) with
    | none => rw [q] at e; cases e
    | some p => rw [q] at e; cases e; exact ⟨p, List.mem_of_find?_eq_some q, of_decide_eq_true (by simpa using List.find?_some q), rfl⟩
  cases c with
  | own x =>
    obtain ⟨C, m, rfl⟩ := h
    refine ⟨.ref C, fun u r => r, fun {tab n b} ok e => ?_⟩
    obtain ⟨p, mp, e1, e2⟩ := look e
    obtain ⟨D, d1, d2, d3⟩ := ok p mp
    rw [e1] at d1 d3
    obtain ⟨C', c1, c2⟩ := d3
    have c1 : X.mg x = some (.ref C') := c1
    rw [m] at c1
    cases c1
    exact ⟨D, d1, d2, by rw [← e2]; exact c2⟩
  | bt T =>
    have h : v = .ty T := h
    subst h
    refine ⟨.type T, fun u r => r, fun {tab n b} ok e => ?_⟩
    obtain ⟨p, mp, e1, e2⟩ := look e
    obtain ⟨D, d1, d2, d3⟩ := ok p mp
    rw [e1] at d1 d3
    exact ⟨D, d1, d2, by rw [← e2]; exact d3⟩
def rIsX (K : PySem.W.Frag) : List V → Hp → VK → Prop := fun vs H Q => ∃ (a : Addr) (o : Obj) (D : Addr) (c : V) (b : Bool), vs = [.ref a, c] ∧ H a = some (stays a o) ∧ o.cls = .ref D ∧ o.dict = none ∧ (∃ fs, o.data = .fields fs) ∧ ExcC K D ∧
  ((∃ cv : Value, (∀ u, RelV c u → u = cv) ∧ PySem.W.kitOne K (.ref D) cv = some b) ∨ ∃ (p : Addr) (cs : List V) (cvs : List Value), c = .ref p ∧ SqT K H p cs ∧ (∀ us, Vals cs us → us = cvs) ∧ PySem.W.kitAny K (.ref D) cvs = some b) ∧ Q (.bl b) H
theorem cr_isX {X : Cx} : CallR X (.builtin "isinstance") (rIsX X.K) := by
  intro pins s σ H vs us Q I r h
  obtain ⟨a, o, D, c, b, rfl, ha, hc, hd, hf, ex, hk, q⟩ := h
  cases r with
  | cons r1 r2 =>
    rename_i u1 us1
    obtain ⟨u2, rfl, r3⟩ := vals1 r2
    obtain rfl : u1 = Value.ref a := r1
    obtain ⟨at_, _⟩ := I.hok a _ ha
    have J : PySem.W.InstAt s.heap a o D none := by
      obtain ⟨oc, od, dt, sl⟩ := o
      obtain ⟨fs, hf⟩ := hf
      cases hc; cases hd; cases hf
      exact ⟨at_, rfl, rfl, trivial⟩
    have Z := PySem.W.handS_kitx_exc (x := a) (ox := o) ex.hg ex.hk ex.hs ex.hd ex.ha ex.hn ex.ht ex.hm
    rcases hk with ⟨cv, hv, e⟩ | ⟨p, cs, cvs, rfl, hs, hv, e⟩
    · have ec := hv _ r3
      subst ec
      exact PySem.W.kia_one Z I.kIn J e (fun z => nomatch z) fun tk => ⟨.bl b, H, I.kept (t' := tk) fun _ _ z => z, rfl, q⟩
    · obtain rfl : u2 = Value.ref p := r3
      obtain ⟨its, rv, ⟨⟨oc, od, dt, sl⟩, ho, hcl, n, hdt⟩, _⟩ := I.tuple hs
      have ei := hv _ rv
      subst ei
      simp only at hcl hdt
      subst hcl hdt
      exact PySem.W.kia_tup Z I.kIn J ho e (fun z => nomatch z) fun tk => ⟨.bl b, H, I.kept (t' := tk) fun _ _ z => z, rfl, q⟩
@[simp] def qIsX (tab : KiTab) (i : Nat) (cs : List CN) : TD := fun env Q => match env[i]? with
  | some (.own _ (.exn n _)) => (match kiAny tab n cs with
    | some b => Q (.bl b) env
    | none => False)
  | _ => False
section
variable {X : Cx} {B : Bd} {i : Nat} {x z : Str} {p p2 pos : Pos} {tab : KiTab}
theorem isx_at {K : KW} {F H : Hp} {σ : St} {env : DEnv} {n : Str} {a : Addr} {fr : Bool} (R : Rep K B F H σ env) (e : env[i]? = some (.own fr (.exn n a))) : σ[i]? = some (some (.ref a)) ∧ ∃ C o, K.mg n = some (.ref C) ∧ H a = some (stays a o) ∧ o.cls = .ref C ∧ o.dict = none ∧ ∃ vs, o.data = .fields vs := by
  obtain ⟨a', s, ⟨h0, C, o, h1, h2, h3⟩, _⟩ := R.cells i _ e
  subst h0
  exact ⟨s, C, o, h1, h2, h3⟩
theorem isX_of {tab : KiTab} {env : DEnv} {cs : List CN} {Q : DK} (h : qIsX tab i cs env Q) : ∃ fr n a b, env[i]? = some (.own fr (.exn n a)) ∧ kiAny tab n cs = some b ∧ Q (.bl b) env := by
  unfold qIsX at h
  split at h
  · rename_i fr n a e
    split at h
    · rename_i b hb; exact ⟨fr, n, a, b, e, hb, h⟩
    · exact h.elim
  · exact h.elim
theorem de_isX1 {c : CN} {cv : V} (ok : tab.Ok X.K X.mg) (g : Gl X "isinstance") (m : X.mg "isinstance" = none) (ha : PE X (.Name x p) (tVar i)) (hc : PE X (.Name z p2) (tC cv)) (hv : CnV X c cv) (ps : Pos)
    (s1 : starEach [.Name x p, .Name z p2] X.env = (false, eval (.Name x p) X.env) :: starEach [.Name z p2] X.env := by rfl) (s2 : starEach [.Name z p2] X.env = (false, eval (.Name z p2) X.env) :: starEach [] X.env := by rfl) (hpl : (backTo pos (starEach [.Name z p2] X.env)).any (·.1) = false := by rfl) :
    DE X B (.Call (.Name "isinstance" ps) [.Name x p, .Name z p2] [] pos) (qIsX tab i [c]) := by
  refine ⟨_, pe_callB cr_isX g m (by decide +kernel) (pa_cons ha (pa_cons hc pa_nil s2) s1) (he := s1) (hpl := hpl), fun F H σ env Q Q' R ht k => ?_⟩
  obtain ⟨fr, n, a, b, e, hb, ht⟩ := isX_of ht
  obtain ⟨s, C, o, h1, h2, h3, h4, h5⟩ := isx_at R e
  obtain ⟨cw, v1, v2⟩ := hv.val
  have hb : kiOne tab n c = some b := by
    unfold kiAny at hb
    cases q : kiOne tab n c with
    | none => rw [q] at hb; cases hb
    | some y =>
      rw [q] at hb
      cases y with
      | true => exact hb
      | false => exact hb
  obtain ⟨D, d1, d2, d3⟩ := v2 ok hb
  have h1 : X.mg n = some (.ref C) := h1
  rw [h1] at d1
  cases d1
  exact ⟨_, s, a, o, C, cv, b, rfl, h2, h3, h4, h5, d2, .inl ⟨cw, v1, d3⟩, k _ env _ F H ht (Same.refl _) R (.bl b)⟩
/-- the names of classes, in a row -/
inductive CNs (X : Cx) : List Expr → List CN → Prop
  | nil : CNs X [] []
  | cons {z : Str} {p : Pos} {c : CN} {cv : V} {es : List Expr} {cs : List CN} (hc : PE X (.Name z p) (tC cv)) (hv : CnV X c cv) (r : CNs X es cs) (s : starEach (.Name z p :: es) X.env = (false, eval (.Name z p) X.env) :: starEach es X.env := by rfl) : CNs X (.Name z p :: es) (c :: cs)
theorem CNs.pa {es : List Expr} {cs : List CN} (h : CNs X es cs) : ∃ t, PA X es t ∧ ∃ (vs : List V) (cvs : List Value), (∀ (σ : St) (H : Hp) (Q : List V → Hp → Prop), Q vs H → t σ H Q) ∧ (∀ us, Vals vs us → us = cvs) ∧ vs.length = es.length ∧
    ∀ {tab : KiTab} {n : Str} {b : Bool}, tab.Ok X.K X.mg → kiAny tab n cs = some b → cs ≠ [] → ∃ D, X.mg n = some (.ref D) ∧ ExcC X.K D ∧ PySem.W.kitAny X.K (.ref D) cvs = some b := by
  induction h with
  | nil => exact ⟨_, pa_nil, [], [], fun _ _ _ q => q, fun us r => by cases r; rfl, rfl, fun _ _ n => absurd rfl n⟩
  | @cons z p c cv es cs hc hv r s ih =>
    obtain ⟨t, pt, vs, cvs, h1, h2, h3, h4⟩ := ih
    obtain ⟨cw, v1, v2⟩ := hv.val
    refine ⟨_, pa_cons hc pt s, cv :: vs, cw :: cvs, fun σ H Q q => h1 _ _ _ q, fun us r => ?_, by rw [List.length_cons, List.length_cons, h3], fun {tab n b} ok e _ => ?_⟩
    · cases r with
      | cons r1 r2 => rw [v1 _ r1, h2 _ r2]
    · unfold kiAny at e
      cases q : kiOne tab n c with
      | none => rw [q] at e; cases e
      | some y =>
        rw [q] at e
        obtain ⟨D, d1, d2, d3⟩ := v2 ok q
        refine ⟨D, d1, d2, ?_⟩
        show (match PySem.W.kitOne X.K (.ref D) cw with
          | some true => some true
          | some false => PySem.W.kitAny X.K (.ref D) cvs
          | none => none) = some b
        rw [d3]
        cases y with
        | true => exact e
        | false =>
          by_cases ne : cs = []
          · subst ne
            have e : some false = some b := e
            cases r
            have : cvs = [] := (h2 [] (by
              have : vs = [] := List.length_eq_zero_iff.mp (by rw [h3]; rfl)
              rw [this]; exact .nil)).symm
            rw [this]; exact e
          · obtain ⟨D', d1', _, d3'⟩ := h4 ok e ne
            rw [d1] at d1'
            cases d1'
            exact d3'
theorem de_isXs {es : List Expr} {cs : List CN} {cx : Nat} (ok : tab.Ok X.K X.mg) (ne : cs ≠ []) (g : Gl X "isinstance") (m : X.mg "isinstance" = none) (ha : PE X (.Name x p) (tVar i)) (hc : CNs X es cs) (hl : es.length ≤ sizeLine) (ps : Pos)
    (s1 : starEach [.Name x p, .Tuple es cx p2] X.env = (false, eval (.Name x p) X.env) :: starEach [.Tuple es cx p2] X.env := by rfl) (s2 : starEach [.Tuple es cx p2] X.env = (false, eval (.Tuple es cx p2) X.env) :: starEach [] X.env := by rfl) (hpl : (backTo pos (starEach [.Tuple es cx p2] X.env)).any (·.1) = false := by rfl) :
    DE X B (.Call (.Name "isinstance" ps) [.Name x p, .Tuple es cx p2] [] pos) (qIsX tab i cs) := by
  obtain ⟨t, pt, vs, cvs, h1, h2, h3, h4⟩ := hc.pa
  refine ⟨_, pe_callB cr_isX g m (by decide +kernel) (pa_cons ha (pa_cons (pe_tup pt) pa_nil s2) s1) (he := s1) (hpl := hpl), fun F H σ env Q Q' R ht k => ?_⟩
  obtain ⟨fr, n, a, b, e, hb, ht⟩ := isX_of ht
  obtain ⟨s, C, o, k1, k2, k3, k4, k5⟩ := isx_at R e
  obtain ⟨D, d1, d2, d3⟩ := h4 ok hb ne
  have k1 : X.mg n = some (.ref C) := k1
  rw [k1] at d1
  cases d1
  refine ⟨_, s, h1 _ _ _ ⟨by rw [h3]; exact hl, fun q hq => ?_⟩⟩
  have na : a ≠ q := fun z => by rw [z, hq] at k2; cases k2
  exact ⟨a, o, C, .ref q, b, rfl, by rw [upd_ne na]; exact k2, k3, k4, k5, d2, .inr ⟨q, vs, cvs, rfl, .inl (.inl upd_same), h2, d3⟩, k _ env _ F _ ht (Same.refl _) (R.junk hq) (.bl b)⟩
end
/-! ### where nothing is let out -/
def noX : XQ := fun _ _ => False
theorem xt0 {X : Cx} {B : Bd} : XT X B noX := ⟨⟨fun _ _ _ _ => False, takes0, fun _ _ _ _ _ _ _ _ h _ => h⟩⟩
end L2.DL

namespace L2.DL
open PySem PySem.Spec PyProof.Rows

/-! ### a, b, c = a list -/
section
variable {X : Cx} {B : Bd} {pos : Pos} {es : List Expr}
@[simp] def gLstD (n : Nat) (t : TDGs) : TDG := fun d env Q => match d with
  | .lst ds => ds.length = n ∧ t ds env Q
  | _ => False
theorem dg_lst {k : Nat} {t : TDGs} {n : Nat} {vs : List Nat} (hc : X.calm = true) (h : DGs X B es vs t)
    (hn : (assignEach es X.env).length = n := by rfl) (hst : (assignEach es X.env).findIdx? (·.1) = none := by rfl) : DG X B (.Tuple es k pos) vs (gLstD n t) := by
  obtain ⟨g, p, h⟩ := h.ex
  refine ⟨_, pg_lst hc p hn hst, fun F H σ env d v Q Q' R r ht kk => ?_⟩
  cases r with
  | lst q ra => exact ⟨_, _, rfl, .of (R.sub _ _ q), ra.length.trans ht.1, h F H σ env _ _ _ _ R ra ht.2 kk⟩
  | _ => exact ht.elim
end
end L2.DL

namespace L2.DL
open PySem PySem.Spec PyProof.Rows
/-! ### min(..) of tuples of any depth -/
def rMinT (K : KW) : List V → Hp → VK → Prop := fun vs H Q => ∃ (a : Addr) (xs : List V) (ds : List D) (G : V → D → Prop) (d0 : PyData) (r : List PyData), vs = [V.ref a] ∧ SqL K H a xs ∧ PySem.W.EachIs G xs ds ∧ (∀ x d, G x d → (∃ t, x = V.ref t) ∧ Dp K H x d.py) ∧
  ds.map D.py = d0 :: r ∧ PySem.W.AlikeAll (d0 :: r) ∧ PyData.depthAll (d0 :: r) ≤ 60 ∧ ∀ x d, d ∈ ds → G x d → d.py = PySem.W.minD d0 r → Q x H
theorem each_get {α β : Type} {R : α → β → Prop} : ∀ {as : List α} {bs : List β}, PySem.W.EachIs R as bs → ∀ (i : Nat) (a : α), as[i]? = some a → ∃ b, b ∈ bs ∧ R a b
  | _, _, .nil, i, a, h => by rw [List.getElem?_nil] at h; cases h
  | _, _, .cons h t, 0, a, e => by cases e; exact ⟨_, List.mem_cons_self, h⟩
  | _, _, .cons h t, i + 1, a, e => by
    obtain ⟨b, m, r⟩ := each_get t i a (by rw [List.getElem?_cons_succ] at e; exact e)
    exact ⟨b, List.mem_cons_of_mem _ m, r⟩
theorem each_both {α β : Type} {R S : α → β → Prop} : ∀ {as : List α} {bs : List β}, PySem.W.EachIs R as bs → PySem.W.EachIs S as bs → PySem.W.EachIs (fun a b => R a b ∧ S a b) as bs
  | _, _, .nil, _ => .nil
  | _, _, .cons h t, .cons h2 t2 => .cons ⟨h, h2⟩ (each_both t t2)
theorem cr_minT {X : Cx} (hc : X.calm = true) (hu : X.A.units + 64 < cLine) : CallR X (.builtin "min") (rMinT X.kw) := by
  intro pins s σ H vs us Q I r h
  obtain ⟨a, xs, ds, G, d0, rr, rfl, hs, hx, hG, e, al, dp, q⟩ := h
  obtain ⟨its, rv, hl, hz⟩ := I.list hs
  obtain ⟨u, rfl, ru⟩ := vals1 r
  obtain rfl : u = Value.ref a := ru
  obtain ⟨h1, h2⟩ := sd_its I hG hx rv
  obtain ⟨as, hr⟩ := PySem.W.each_readsAll D.py h2
  rw [e] at hr
  refine PySem.W.min_list_data (I.ok.hd hc) hl.isList (by simpa using hr) al (by omega) fun i v h' tk bs hv rd hk => ?_
  obtain ⟨d, m, ⟨⟨t, rfl, g⟩, as', ra⟩⟩ := each_get (each_both h1 h2) i v (by simpa using hv)
  have ed : d.py = PySem.W.minD d0 rr := by
    have := PyProof.Rows.reads_det (fun b o e _ => hk b o e) ra rd
    first | exact this.1.symm | exact this.symm | exact this.1 | exact this
  exact ⟨.ref t, H, I.kept (t' := tk) hk, rfl, q _ d m g ed⟩
/-- what the least can be told of: tuples alike, one at least -/
structure MinOk (ds : List D) : Prop where
  ne : ds ≠ []
  tu : ∀ d ∈ ds, ∃ es, d = .tup es
  pl : ∀ d ∈ ds, d.pl = true
  al : PySem.W.AlikeAll (ds.map D.py)
  dp : PyData.depthAll (ds.map D.py) ≤ 60
def minP (ds : List D) : PyData := match ds.map D.py with
  | d :: r => PySem.W.minD d r
  | [] => .none
abbrev onL_minT : SN := onLst fun ds Q => MinOk ds ∧ ∀ d ∈ ds, d.py = minP ds → Q d
theorem c_minT {X : Cx} (hc : X.calm = true) (hu : X.A.units + 64 < cLine) : DCl X (.builtin "min") onL_minT :=
  lst_run (cr_minT hc hu) fun F H a vs ds Q Q' s hs ra h k => by
    obtain ⟨ok, h⟩ := h
    obtain ⟨d0, r, e⟩ : ∃ d0 r, ds.map D.py = d0 :: r := by
      cases ds with
      | nil => exact absurd rfl ok.ne
      | cons d r => exact ⟨_, _, rfl⟩
    refine ⟨a, vs, ds, fun x d => d ∈ ds ∧ Rp X.kw F x d, d0, r, rfl, hs, ra.each, fun x d r => ⟨?_, dp_of s d x r.2 (ok.pl d r.1)⟩, e, by rw [← e]; exact ok.al, by rw [← e]; exact ok.dp, fun x d m g ed => ?_⟩
    · obtain ⟨es, rfl⟩ := ok.tu d r.1
      cases r.2 with
      | tup h1 ra => exact ⟨_, rfl⟩
    · exact k _ _ F H (h d m (by rw [minP, e]; exact ed)) .nil g.2
end L2.DL

namespace L2.DL
open PySem PySem.Spec PyProof.Rows
/-! ### own objects looked at as data, where tuples come of it -/
/-- no lists, no dicts: tuples, numbers, texts, truths, None -/
inductive TreD : D → Prop
  | non : TreD .non
  | bl (b : Bool) : TreD (.bl b)
  | int (i : Int) : TreD (.int i)
  | str (z : Str) : TreD (.str z)
  | tup {ds : List D} (h : ∀ d ∈ ds, TreD d) : TreD (.tup ds)
theorem tre_rp {K : KW} {F F' : Hp} (hk : ∀ a vs, Rd F a (.tup vs) → Rd F' a (.tup vs)) {d : D} (t : TreD d) : ∀ {v : V}, Rp K F v d → Rp K F' v d := by
  induction t with
  | non => intro v r; cases r; exact .non
  | bl b => intro v r; cases r; exact .bl b
  | int i => intro v r; cases r; exact .int i
  | str z => intro v r; cases r; exact .str z
  | @tup ds h ih =>
    intro v r
    cases r with
    | tup hq ra =>
      refine .tup (hq.elim (fun x => .inl (hk _ _ x)) .inr) ?_
      have key : ∀ (es : List D) (vs : List V), (∀ d ∈ es, d ∈ ds) → RpA K F vs es → RpA K F' vs es := by
        intro es
        induction es with
        | nil => intro vs _ ra; cases ra; exact .nil
        | cons e es ihe =>
          intro vs hm ra
          cases ra with
          | cons r1 r2 => exact .cons (ih e (hm e List.mem_cons_self) r1) (ihe _ (fun d m => hm d (List.mem_cons_of_mem _ m)) r2)
      exact key ds _ (fun d m => m) ra
/-- cells whose own objects are no tuples -/
def plnC : Cell → Bool
  | .own _ (.tl _ _ _) => false
  | .opq _ _ => false
  | _ => true
theorem fd_lst {K : KW} {F H : Hp} : ∀ {vs : List (Str × V)} {fs : List (Str × Fd)}, FdOk K F H vs fs → ∀ b ∈ fdSubs fs, ∃ ws, H b = some (.lst ws)
  | _, _, .nil, b, m => by cases m
  | _, _, .d _ t, b, m => fd_lst t b m
  | _, _, .l h _ t, b, m => by
    rcases List.mem_cons.mp m with e | m
    · rw [e]; exact ⟨_, h⟩
    · exact fd_lst t b m
theorem dl_lst {K : KW} {F H : Hp} : ∀ {vs : List (NestedKey × Addr × V)} {ks : List (D × Addr × List D)}, DlOk K F H vs ks → ∀ b ∈ ks.map (fun p => p.2.1), ∃ ws, H b = some (.lst ws)
  | _, _, .nil, b, m => by cases m
  | _, _, .cons _ _ h _ t, b, m => by
    rcases List.mem_cons.mp m with e | m
    · rw [e]; exact ⟨_, h⟩
    · exact dl_lst t b m
/-- an own object is no tuple -/
theorem own_notup {K : KW} {B : Bd} {F H : Hp} {σ : St} {env : DEnv} (R : Rep K B F H σ env) {i : Nat} {c : Cell} {b : Addr} (e : env[i]? = some c) (p : plnC c = true) (m : b ∈ foot σ[i]? c) : (∀ vs, H b ≠ some (.tup vs)) ∧ ∀ o u, H b ≠ some (.frz o u) := by
  have hc := R.cells i c e
  cases c with
  | none => rw [foot_none] at m; cases m
  | val d => rw [foot_val] at m; cases m
  | opq fr φ => cases p
  | own fr o =>
    obtain ⟨a, s, oc, _⟩ := hc
    rw [s] at m
    have m : b ∈ a :: o.subs := m
    have out : ∀ {u : HO}, H b = some u → (∀ vs, u ≠ .tup vs) → (∀ o w, u ≠ .frz o w) → (∀ vs, H b ≠ some (.tup vs)) ∧ ∀ o u, H b ≠ some (.frz o u) := fun h n1 n2 =>
      ⟨fun vs z => by rw [h] at z; exact n1 vs (Option.some.inj z), fun o w z => by rw [h] at z; exact n2 o w (Option.some.inj z)⟩
    have lst : ∀ {ws : List V}, H b = some (.lst ws) → (∀ vs, H b ≠ some (.tup vs)) ∧ ∀ o u, H b ≠ some (.frz o u) := fun h => out h (fun vs z => by cases z) (fun o w z => by cases z)
    rcases List.mem_cons.mp m with eb | m
    · subst eb
      cases o with
      | lst xs => obtain ⟨vs, h1, _⟩ := oc; exact lst h1
      | dct xs => obtain ⟨vs, h1, _⟩ := oc; exact out h1 (fun vs z => by cases z) (fun o w z => by cases z)
      | dcn xs => obtain ⟨vs, ⟨o, h1⟩, _⟩ := oc; exact out h1 (fun vs z => by cases z) (fun o w z => by cases z)
      | dl kvs => obtain ⟨vs, ⟨o, h1⟩, _⟩ := oc; exact out h1 (fun vs z => by cases z) (fun o w z => by cases z)
      | obj n fs => obtain ⟨C, dx, vs, h0, h1, _⟩ := oc; exact out h1 (fun vs z => by cases z) (fun o w z => by cases z)
      | exn n a' => obtain ⟨h0, C, o, _, h1, _⟩ := oc; exact out h1 (fun vs z => by cases z) (fun o w z => by cases z)
      | tl pre b xs => cases p
    · cases o with
      | dl kvs => obtain ⟨vs, _, h2⟩ := oc; obtain ⟨ws, h⟩ := dl_lst h2 b m; exact lst h
      | obj n fs => obtain ⟨C, dx, vs, h0, h1, h2⟩ := oc; obtain ⟨ws, h⟩ := fd_lst h2 b m; exact lst h
      | tl pre b xs => cases p
      | _ => cases m
section
variable {X : Cx} {B : Bd} {e : Expr} {te : TD}
@[simp] def qBorT (te : TD) : TD := fun env Q => env.all plnC = true ∧ bareC env fun env' => te env' fun d _ => TreD d ∧ Q d env
open Classical in
theorem de_borT (he : ∀ B, DE X B e te) : DE X B e (qBorT te) := by
  refine ⟨_, pe_canB he, fun F H σ env Q Q' R ht k => ?_⟩
  obtain ⟨hp, ht⟩ := ht
  obtain ⟨F', sF, own, R'⟩ := R.bareX
  refine ⟨_, F', _, _, R', bareC_of ht, fun d env1 v F1 H1 q s1 R1 r1 => ?_⟩
  obtain ⟨tr, q⟩ := q
  let F2 : Hp := fun b => if F' b ≠ none ∧ F b = none then none else F1 b
  have sF2 : Same F F2 := fun b o h => by
    show (if F' b ≠ none ∧ F b = none then none else F1 b) = some o
    rw [if_neg (fun z => by rw [z.2] at h; cases h)]
    exact s1 _ _ (sF _ _ h)
  have sub : Same F2 H1 := fun b o h => by
    have h : (if F' b ≠ none ∧ F b = none then none else F1 b) = some o := h
    by_cases z : F' b ≠ none ∧ F b = none
    · rw [if_pos z] at h; cases h
    · rw [if_neg z] at h; exact R1.sub _ _ h
  have sH : Same H H1 := fun b o h => R1.fix b o h fun x => x
  have kp : ∀ a u, (∀ vs, (∀ c : Unit, True) → (u = HO.tup vs → True)) → F1 a = some u → ((∃ vs, u = .tup vs) ∨ ∃ o w, u = .frz o w) → F2 a = some u := fun a u _ h hu => by
    show (if F' a ≠ none ∧ F a = none then none else F1 a) = some u
    rw [if_neg, h]
    rintro ⟨z1, z2⟩
    cases zo : F' a with
    | none => exact z1 zo
    | some o =>
      have e1 := s1 _ _ zo
      rw [h] at e1
      cases e1
      obtain ⟨i, c, ei, m, hh⟩ := own a u zo z2
      obtain ⟨n1, n2⟩ := own_notup R ei (List.all_eq_true.mp hp c (List.mem_of_getElem? ei)) m
      rcases hu with ⟨vs, rfl⟩ | ⟨o, w, rfl⟩
      · exact n1 vs hh
      · exact n2 o w hh
  refine k d env v F2 H1 q sF2 (R.grow sF2 sH sub fun b h n => ?_) (tre_rp (fun a vs h => ?_) tr r1)
  · have n : (if F' b ≠ none ∧ F b = none then none else F1 b) ≠ none := n
    by_cases z : F' b ≠ none ∧ F b = none
    · rw [if_pos z] at n; exact absurd rfl n
    · rw [if_neg z] at n
      have zf : F' b = none := Classical.byContradiction fun y => z ⟨y, h⟩
      exact R1.new b zf n
  · rcases h with h | ⟨o, h⟩
    · exact .inl (kp a _ (fun _ _ _ => trivial) h (.inl ⟨_, rfl⟩))
    · exact .inr ⟨o, kp a _ (fun _ _ _ => trivial) h (.inr ⟨_, _, rfl⟩)⟩
end
end L2.DL

namespace L2.DL
open PySem PySem.Spec PyProof.Rows
/-! ### l.index(x) of whole data -/
section
variable {X : Cx} {B : Bd} {e a : Expr} {te tx : TD} {apos cpos : Pos}
/-- the first place of an equal one -/
def IxAt (x : D) (ys : List D) (j : Nat) : Prop := ∃ z, (D.pys ys)[j]? = some z ∧ PyData.eqv z x.py = true ∧ ∀ (m : Nat) (z' : PyData), m < j → (D.pys ys)[m]? = some z' → PyData.eqv z' x.py = false
@[simp] def qIndexD (te tx : TD) : TD := fun env Q => te env fun d env1 => match d with
  | .lst ys => tx env1 fun x env2 => ∃ j : Nat, deepOk x (.lst ys) ∧ IxAt x ys j ∧ Q (.int (j : Nat)) env2
  | _ => False
theorem de_indexD (hu : X.A.units + 65 < cLine) (he : DE X B e te) (hx : DE X B a tx) (hbase : attributeBase e "index" X.env (eval e X.env) = eval e X.env := by rfl) (hline : (apos.endLine == cpos.line) = true := by rfl)
    (hfew : ((backTo cpos (starEach (a :: []) X.env)).all (fun x => !x.1) && (backToKw cpos (keywordEach [] X.env)).all (fun x => x.1.isSome)
      && decide ((a :: []).length + ([] : List Keyword).length + (if ([] : List Keyword).isEmpty then 0 else 1) < 30)) = true := by rfl)
    (hs : starEach (a :: []) X.env = (false, eval a X.env) :: starEach [] X.env := by rfl) (hplain : (backTo cpos (starEach [] X.env)).any (·.1) = false := by rfl) (ha : ∀ {t : TE}, PE X a t → PA X [a] (tCons t tNil)) :
    DE X B (.Call (.Attribute e "index" apos) [a] [] cpos) (qIndexD te tx) := by
  obtain ⟨t1, q1, h1⟩ := he.ex
  obtain ⟨t2, q2, h2⟩ := hx.ex
  refine ⟨_, pe_bm PySem.F.plainAttrs_list PySem.F.slot_list_index PySem.F.type_list_index (mt_indexD hu) q1 (ha q2) hbase hfew hline hs hplain, fun F H σ env Q Q' R ht k => ?_⟩
  refine h1 F H σ env _ _ R ht fun d env1 v F1 H1 q s1 R1 r1 => ?_
  cases r1 with
  | lst hd ra =>
    rename_i al vs ys
    refine ⟨.inl ⟨rfl, _, .of (R1.sub _ _ hd)⟩, ?_⟩
    refine h2 F1 H1 σ env1 _ _ R1 q fun x env2 w F2 H2 q s2 R2 r2 => ?_
    obtain ⟨j, ⟨p1, p2, p3, p4⟩, ⟨z, hz, he2, hno⟩, q⟩ := q
    refine ⟨_, w, x.py, D.pys ys, j, z, rfl, rfl, ?_, dp_of R2.sub x w r2 p1, ?_, p3, hz, he2, hno, k _ env2 _ F2 H2 q (s1.trans s2) R2 (.int _)⟩
    · have := dp_of R2.sub (.lst ys) (.ref al) (.lst (s2 _ _ hd) (ra.mono s2)) p2
      rw [D.py] at this; exact this
    · rw [D.py] at p4; exact p4
  | scr hd ra => exact q.elim
  | _ => exact q.elim
end
end L2.DL

namespace Y
open PySem PySem.Spec PyProof.Rows L2 L2.DL
def topS (i : Nat) : Stmt := PySem.Challenge.pw_roomtables_k08_no_programs.main.body.getD i (.Pass ⟨0, 0, 0, 0⟩)
abbrev s_is_whole : Stmt := topS 3
abbrev N_is_whole : List Str := ["thing"]
theorem sc_is_whole : FnScope N_is_whole ["thing"] (defScope s_is_whole) := ⟨rfl, rfl, rfl, by decide +kernel, rfl, by decide +kernel, by decide +kernel⟩
abbrev s_kind_of : Stmt := topS 4
abbrev N_kind_of : List Str := ["needs", "name", "own", "kind"]
theorem sc_kind_of : FnScope N_kind_of ["needs", "name"] (defScope s_kind_of) := ⟨rfl, rfl, rfl, by decide +kernel, rfl, by decide +kernel, by decide +kernel⟩
abbrev s_is_part : Stmt := topS 5
abbrev N_is_part : List Str := ["kind", "part", "needs", "many"]
theorem sc_is_part : FnScope N_is_part ["kind", "part", "needs", "many"] (defScope s_is_part) := ⟨rfl, rfl, rfl, by decide +kernel, rfl, by decide +kernel, by decide +kernel⟩
abbrev s_is_sum : Stmt := topS 6
abbrev N_is_sum : List Str := ["thing", "needs", "many", "form", "kind", "part"]
theorem sc_is_sum : FnScope N_is_sum ["thing", "needs", "many"] (defScope s_is_sum) := ⟨rfl, rfl, rfl, by decide +kernel, rfl, by decide +kernel, by decide +kernel⟩
abbrev s_is_cond : Stmt := topS 10
abbrev N_is_cond : List Str := ["thing", "needs", "many", "part"]
theorem sc_is_cond : FnScope N_is_cond ["thing", "needs", "many"] (defScope s_is_cond) := ⟨rfl, rfl, rfl, by decide +kernel, rfl, by decide +kernel, by decide +kernel⟩
abbrev s_is_name : Stmt := topS 38
abbrev N_is_name : List Str := ["thing", "sign"]
theorem sc_is_name : FnScope N_is_name ["thing"] (defScope s_is_name) := ⟨rfl, rfl, rfl, by decide +kernel, rfl, by decide +kernel, by decide +kernel⟩
abbrev s_are_needs : Stmt := topS 39
abbrev N_are_needs : List Str := ["thing", "one"]
theorem sc_are_needs : FnScope N_are_needs ["thing"] (defScope s_are_needs) := ⟨rfl, rfl, rfl, by decide +kernel, rfl, by decide +kernel, by decide +kernel⟩
abbrev s_is_most : Stmt := topS 40
abbrev N_is_most : List Str := ["thing", "needs"]
theorem sc_is_most : FnScope N_is_most ["thing", "needs"] (defScope s_is_most) := ⟨rfl, rfl, rfl, by decide +kernel, rfl, by decide +kernel, by decide +kernel⟩
abbrev s_are_sums : Stmt := topS 41
abbrev N_are_sums : List Str := ["thing", "many", "needs", "own", "one"]
theorem sc_are_sums : FnScope N_are_sums ["thing", "many", "needs", "own"] (defScope s_are_sums) := ⟨rfl, rfl, rfl, by decide +kernel, rfl, by decide +kernel, by decide +kernel⟩
abbrev s_is_call : Stmt := topS 42
abbrev N_is_call : List Str := ["thing", "house", "own", "needs", "counts"]
theorem sc_is_call : FnScope N_is_call ["thing", "house", "own"] (defScope s_is_call) := ⟨rfl, rfl, rfl, by decide +kernel, rfl, by decide +kernel, by decide +kernel⟩
abbrev s_is_choice : Stmt := topS 43
abbrev N_is_choice : List Str := ["thing", "house", "own", "turns", "one"]
theorem sc_is_choice : FnScope N_is_choice ["thing", "house", "own", "turns"] (defScope s_is_choice) := ⟨rfl, rfl, rfl, by decide +kernel, rfl, by decide +kernel, by decide +kernel⟩
abbrev s_is_turned : Stmt := topS 44
abbrev N_is_turned : List Str := ["thing", "house", "own", "turns"]
theorem sc_is_turned : FnScope N_is_turned ["thing", "house", "own", "turns"] (defScope s_is_turned) := ⟨rfl, rfl, rfl, by decide +kernel, rfl, by decide +kernel, by decide +kernel⟩
abbrev s_is_body : Stmt := topS 45
abbrev N_is_body : List Str := ["thing", "house", "own", "turns", "word", "one"]
theorem sc_is_body : FnScope N_is_body ["thing", "house", "own", "turns"] (defScope s_is_body) := ⟨rfl, rfl, rfl, by decide +kernel, rfl, by decide +kernel, by decide +kernel⟩
abbrev s_is_worded : Stmt := topS 46
abbrev N_is_worded : List Str := ["thing"]
theorem sc_is_worded : FnScope N_is_worded ["thing"] (defScope s_is_worded) := ⟨rfl, rfl, rfl, by decide +kernel, rfl, by decide +kernel, by decide +kernel⟩
abbrev s_count_parts : Stmt := topS 47
abbrev N_count_parts : List Str := ["thing", "one"]
theorem sc_count_parts : FnScope N_count_parts ["thing"] (defScope s_count_parts) := ⟨rfl, rfl, rfl, by decide +kernel, rfl, by decide +kernel, by decide +kernel⟩
abbrev s_deepness : Stmt := topS 48
abbrev N_deepness : List Str := ["thing", "one"]
theorem sc_deepness : FnScope N_deepness ["thing"] (defScope s_deepness) := ⟨rfl, rfl, rfl, by decide +kernel, rfl, by decide +kernel, by decide +kernel⟩
abbrev s_is_head : Stmt := topS 49
abbrev N_is_head : List Str := ["thing", "needs", "one"]
theorem sc_is_head : FnScope N_is_head ["thing", "needs"] (defScope s_is_head) := ⟨rfl, rfl, rfl, by decide +kernel, rfl, by decide +kernel, by decide +kernel⟩
abbrev s_are_functions : Stmt := topS 50
abbrev N_are_functions : List Str := ["thing", "needs", "house", "name", "mosts", "body", "one"]
theorem sc_are_functions : FnScope N_are_functions ["thing", "needs"] (defScope s_are_functions) := ⟨rfl, rfl, rfl, by decide +kernel, rfl, by decide +kernel, by decide +kernel⟩
abbrev s_program_of : Stmt := topS 51
abbrev N_program_of : List Str := ["needs", "functions"]
theorem sc_program_of : FnScope N_program_of ["needs", "functions"] (defScope s_program_of) := ⟨rfl, rfl, rfl, by decide +kernel, rfl, by decide +kernel, by decide +kernel⟩
abbrev s_l_pen : Stmt := topS 53
abbrev N_l_pen : List Str := ["_law_script"]
theorem sc_l_pen : FnScope N_l_pen ["_law_script"] (defScope s_l_pen) := ⟨rfl, rfl, rfl, by decide +kernel, rfl, by decide +kernel, by decide +kernel⟩
abbrev s_l_take : Stmt := topS 54
abbrev N_l_take : List Str := ["_law_pen_here", "_law_many", "_law_script", "_law_at", "_law_left", "_law_cell", "_law_mixed"]
theorem sc_l_take : FnScope N_l_take ["_law_pen_here", "_law_many"] (defScope s_l_take) := ⟨rfl, rfl, rfl, by decide +kernel, rfl, by decide +kernel, by decide +kernel⟩
abbrev s_l_told : Stmt := topS 55
abbrev N_l_told : List Str := ["_law_needs_here", "_law_rows_here", "_law_caught", "e"]
theorem sc_l_told : FnScope N_l_told ["_law_needs_here", "_law_rows_here"] (defScope s_l_told) := ⟨rfl, rfl, rfl, by decide +kernel, rfl, by decide +kernel, by decide +kernel⟩
abbrev s_l_needs : Stmt := topS 56
abbrev N_l_needs : List Str := ["_law_pen_here", "_law_some", "_law_names"]
theorem sc_l_needs : FnScope N_l_needs ["_law_pen_here"] (defScope s_l_needs) := ⟨rfl, rfl, rfl, by decide +kernel, rfl, by decide +kernel, by decide +kernel⟩
abbrev s_l_rows : Stmt := topS 57
abbrev N_l_rows : List Str := ["_law_needs_here", "_law_own", "_law_first", "_law_inner", "_law_second", "_law_third", "_law_mosts", "_law_row", "_law_number", "_law_text", "_law_tree", "_law_need"]
theorem sc_l_rows : FnScope N_l_rows ["_law_needs_here"] (defScope s_l_rows) := ⟨rfl, rfl, rfl, by decide +kernel, rfl, by decide +kernel, by decide +kernel⟩
abbrev s_l_wide : Stmt := topS 58
abbrev N_l_wide : List Str := ["_law_many"]
theorem sc_l_wide : FnScope N_l_wide ["_law_many"] (defScope s_l_wide) := ⟨rfl, rfl, rfl, by decide +kernel, rfl, by decide +kernel, by decide +kernel⟩
abbrev s_l_deep : Stmt := topS 59
abbrev N_l_deep : List Str := ["_law_many", "_law_found", "_law_k"]
theorem sc_l_deep : FnScope N_l_deep ["_law_many"] (defScope s_l_deep) := ⟨rfl, rfl, rfl, by decide +kernel, rfl, by decide +kernel, by decide +kernel⟩
abbrev s_l_word : Stmt := topS 60
abbrev N_l_word : List Str := ["_law_pen_here", "_law_words"]
theorem sc_l_word : FnScope N_l_word ["_law_pen_here"] (defScope s_l_word) := ⟨rfl, rfl, rfl, by decide +kernel, rfl, by decide +kernel, by decide +kernel⟩
abbrev s_l_bad_needs : Stmt := topS 61
abbrev N_l_bad_needs : List Str := ["_law_pen_here", "_law_needs_here", "_law_one", "_law_some", "_law_names", "_law_kind", "_law_k", "_law_name"]
theorem sc_l_bad_needs : FnScope N_l_bad_needs ["_law_pen_here", "_law_needs_here"] (defScope s_l_bad_needs) := ⟨rfl, rfl, rfl, by decide +kernel, rfl, by decide +kernel, by decide +kernel⟩
abbrev s_l_bad_mosts : Stmt := topS 62
abbrev N_l_bad_mosts : List Str := ["_law_needs_here", "_law_mosts", "_law_bad", "_law_full"]
theorem sc_l_bad_mosts : FnScope N_l_bad_mosts ["_law_needs_here", "_law_mosts"] (defScope s_l_bad_mosts) := ⟨rfl, rfl, rfl, by decide +kernel, rfl, by decide +kernel, by decide +kernel⟩
abbrev s_l_bad_rows : Stmt := topS 63
abbrev N_l_bad_rows : List Str := ["_law_pen_here", "_law_needs_here", "_law_rows_here", "_law_some", "_law_j", "_law_word_here", "_law_bad", "_law_late", "_law_name", "_law_mosts", "_law_body", "_law_one", "_law_k"]
theorem sc_l_bad_rows : FnScope N_l_bad_rows ["_law_pen_here", "_law_needs_here", "_law_rows_here"] (defScope s_l_bad_rows) := ⟨rfl, rfl, rfl, by decide +kernel, rfl, by decide +kernel, by decide +kernel⟩
abbrev s_l_halves : Stmt := topS 64
abbrev N_l_halves : List Str := ["_law_many", "_law_found", "_law_k"]
theorem sc_l_halves : FnScope N_l_halves ["_law_many"] (defScope s_l_halves) := ⟨rfl, rfl, rfl, by decide +kernel, rfl, by decide +kernel, by decide +kernel⟩
abbrev s_l_too_great : Stmt := topS 65
abbrev N_l_too_great : List Str := ["_law_pen_here", "_law_own", "_law_none", "_law_some"]
theorem sc_l_too_great : FnScope N_l_too_great ["_law_pen_here"] (defScope s_l_too_great) := ⟨rfl, rfl, rfl, by decide +kernel, rfl, by decide +kernel, by decide +kernel⟩
abbrev s_l_turns_behind : Stmt := topS 66
abbrev N_l_turns_behind : List Str := ["_law_own", "_law_far", "_law_turn", "_law_late", "_law_some"]
theorem sc_l_turns_behind : FnScope N_l_turns_behind ["_law_own", "_law_far"] (defScope s_l_turns_behind) := ⟨rfl, rfl, rfl, by decide +kernel, rfl, by decide +kernel, by decide +kernel⟩
abbrev s_l_wrong_forms : Stmt := topS 67
abbrev N_l_wrong_forms : List Str := ["_law_needs_here", "_law_own", "_law_none", "_law_cond", "_law_some", "_law_k"]
theorem sc_l_wrong_forms : FnScope N_l_wrong_forms ["_law_needs_here", "_law_own"] (defScope s_l_wrong_forms) := ⟨rfl, rfl, rfl, by decide +kernel, rfl, by decide +kernel, by decide +kernel⟩
abbrev s_l_bad_body : Stmt := topS 68
abbrev N_l_bad_body : List Str := ["_law_pen_here", "_law_needs_here", "_law_many", "_law_own", "_law_far", "_law_turn", "_law_some", "_law_k"]
theorem sc_l_bad_body : FnScope N_l_bad_body ["_law_pen_here", "_law_needs_here", "_law_many"] (defScope s_l_bad_body) := ⟨rfl, rfl, rfl, by decide +kernel, rfl, by decide +kernel, by decide +kernel⟩
abbrev s_l_put : Stmt := topS 69
abbrev N_l_put : List Str := ["_law_pen_here", "_law_body", "_law_bad", "_law_cond", "_law_some"]
theorem sc_l_put : FnScope N_l_put ["_law_pen_here", "_law_body", "_law_bad"] (defScope s_l_put) := ⟨rfl, rfl, rfl, by decide +kernel, rfl, by decide +kernel, by decide +kernel⟩
abbrev s_law : Stmt := topS 70
abbrev N_law : List Str := ["_law_script", "_law_pen_here", "_law_needs_here", "_law_rows_here", "_law_turn", "_law_way", "_law_told_here", "_law_k", "_law_bad", "_law_name", "_law_mosts", "_law_body"]
theorem sc_law : FnScope N_law ["_law_script"] (defScope s_law) := ⟨rfl, rfl, rfl, by decide +kernel, rfl, by decide +kernel, by decide +kernel⟩
abbrev y_KINDS : List (Str × D) := [("x", (.tup [(.str "number")])), ("z", (.tup [(.str "row"), (.str "text"), (.str "tree")])), ("l", (.tup [(.str "row"), (.str "text")])), ("t", (.tup [(.str "tree")]))]
abbrev n_KINDS : List Str := []
abbrev y_FORMS : List (Str × D) := [("num", (.str "n")), ("own", (.str "o")), ("need", (.str "x")), ("size", (.str "z")), ("at", (.str "ls")), ("kids", (.str "ts")), ("kid", (.str "tss")), ("full", (.str "s")), ("with", (.str "ss")), ("without", (.str "ss")), ("many", (.str "s")), ("plus", (.str "ss")), ("less", (.str "ss")), ("times", (.str "ss")), ("half", (.str "s")), ("rest", (.str "ss")), ("lesser", (.str "ss")), ("greater", (.str "ss"))]
abbrev n_FORMS : List Str := ["below", "same", "has", "not", "and", "or", "gain", "none", "call", "both", "choose", "each", "all", "if", "nones", ""]
abbrev y_OF_CONDS : List (Str × D) := [("not", (.int 1)), ("and", (.int 2)), ("or", (.int 2))]
abbrev n_OF_CONDS : List Str := ["num", "own", "need", "size", "at", "kids", "kid", "full", "with", "without", "many", "plus", "less", "times", "half", "rest", "lesser", "greater", "below", "same", "has", "gain", "none", "call", "both", "choose", "each", "all", "if", "nones", ""]
abbrev c_OF_SUMS : D := (.tup [(.str "below"), (.str "same"), (.str "has")])
abbrev c_WORDS : D := (.tup [(.str "num"), (.str "own"), (.str "need"), (.str "size"), (.str "at"), (.str "kids"), (.str "kid"), (.str "full"), (.str "with"), (.str "without"), (.str "many"), (.str "plus"), (.str "less"), (.str "times"), (.str "half"), (.str "rest"), (.str "lesser"), (.str "greater"), (.str "below"), (.str "same"), (.str "has"), (.str "not"), (.str "and"), (.str "or"), (.str "gain"), (.str "none"), (.str "call"), (.str "both"), (.str "choose"), (.str "each"), (.str "all"), (.str "if"), (.str "number"), (.str "row"), (.str "text"), (.str "tree")])
abbrev c_LETTERS : D := (.str "abcdefghijklmnopqrstuvwxyz")
abbrev c_MOST_NEEDS : D := (.int 6)
abbrev c_NEED_KINDS : D := (.tup [(.str "number"), (.str "row"), (.str "text"), (.str "tree")])
abbrev c_MOST_CHOICES : D := (.int 4)
abbrev c_MOST_TURNS : D := (.int 2)
abbrev c_MOST_PLACES : D := (.int 3)
abbrev c_MOST_MOST : D := (.int 12)
abbrev c_MOST_FUNCTIONS : D := (.int 4)
abbrev c_MOST_PARTS : D := (.int 60)
abbrev c_MOST_DEEP : D := (.int 12)
abbrev xtab : ExTab := [(("NoProgram", "RoomError"), true)]
abbrev kitab : KiTab := [(("NoProgram", .own "NoBack"), false), (("NoProgram", .own "NoCell"), false), (("NoProgram", .own "NoGiven"), false), (("NoProgram", .own "NoName"), false), (("NoProgram", .own "NoProgram"), true), (("NoProgram", .own "NoRoad"), false), (("NoProgram", .own "NoRow"), false), (("NoProgram", .own "NoRule"), false), (("NoProgram", .own "NoText"), false), (("NoProgram", .own "NoTurn"), false), (("NoProgram", .own "Ring"), false), (("NoProgram", .own "TooGreat"), false), (("NoProgram", .own "TooLong"), false), (("NoProgram", .bt "ValueError"), true)]
def dd_is_whole : He.FnD := ⟨("is_whole", none), "is_whole", "is_whole", defArgs s_is_whole, defBody s_is_whole, defScope s_is_whole⟩
def dd_kind_of : He.FnD := ⟨("kind_of", none), "kind_of", "kind_of", defArgs s_kind_of, defBody s_kind_of, defScope s_kind_of⟩
def dd_is_part : He.FnD := ⟨("is_part", none), "is_part", "is_part", defArgs s_is_part, defBody s_is_part, defScope s_is_part⟩
def dd_is_sum : He.FnD := ⟨("is_sum", none), "is_sum", "is_sum", defArgs s_is_sum, defBody s_is_sum, defScope s_is_sum⟩
def dd_is_cond : He.FnD := ⟨("is_cond", none), "is_cond", "is_cond", defArgs s_is_cond, defBody s_is_cond, defScope s_is_cond⟩
def dd_is_name : He.FnD := ⟨("is_name", none), "is_name", "is_name", defArgs s_is_name, defBody s_is_name, defScope s_is_name⟩
def dd_are_needs : He.FnD := ⟨("are_needs", none), "are_needs", "are_needs", defArgs s_are_needs, defBody s_are_needs, defScope s_are_needs⟩
def dd_is_most : He.FnD := ⟨("is_most", none), "is_most", "is_most", defArgs s_is_most, defBody s_is_most, defScope s_is_most⟩
def dd_are_sums : He.FnD := ⟨("are_sums", none), "are_sums", "are_sums", defArgs s_are_sums, defBody s_are_sums, defScope s_are_sums⟩
def dd_is_call : He.FnD := ⟨("is_call", none), "is_call", "is_call", defArgs s_is_call, defBody s_is_call, defScope s_is_call⟩
def dd_is_choice : He.FnD := ⟨("is_choice", none), "is_choice", "is_choice", defArgs s_is_choice, defBody s_is_choice, defScope s_is_choice⟩
def dd_is_turned : He.FnD := ⟨("is_turned", none), "is_turned", "is_turned", defArgs s_is_turned, defBody s_is_turned, defScope s_is_turned⟩
def dd_is_body : He.FnD := ⟨("is_body", none), "is_body", "is_body", defArgs s_is_body, defBody s_is_body, defScope s_is_body⟩
def dd_is_worded : He.FnD := ⟨("is_worded", none), "is_worded", "is_worded", defArgs s_is_worded, defBody s_is_worded, defScope s_is_worded⟩
def dd_count_parts : He.FnD := ⟨("count_parts", none), "count_parts", "count_parts", defArgs s_count_parts, defBody s_count_parts, defScope s_count_parts⟩
def dd_deepness : He.FnD := ⟨("deepness", none), "deepness", "deepness", defArgs s_deepness, defBody s_deepness, defScope s_deepness⟩
def dd_is_head : He.FnD := ⟨("is_head", none), "is_head", "is_head", defArgs s_is_head, defBody s_is_head, defScope s_is_head⟩
def dd_are_functions : He.FnD := ⟨("are_functions", none), "are_functions", "are_functions", defArgs s_are_functions, defBody s_are_functions, defScope s_are_functions⟩
def dd_program_of : He.FnD := ⟨("program_of", none), "program_of", "program_of", defArgs s_program_of, defBody s_program_of, defScope s_program_of⟩
def dd_l_pen : He.FnD := ⟨("_law_pen", none), "_law_pen", "_law_pen", defArgs s_l_pen, defBody s_l_pen, defScope s_l_pen⟩
def dd_l_take : He.FnD := ⟨("_law_take", none), "_law_take", "_law_take", defArgs s_l_take, defBody s_l_take, defScope s_l_take⟩
def dd_l_told : He.FnD := ⟨("_law_told", none), "_law_told", "_law_told", defArgs s_l_told, defBody s_l_told, defScope s_l_told⟩
def dd_l_needs : He.FnD := ⟨("_law_needs", none), "_law_needs", "_law_needs", defArgs s_l_needs, defBody s_l_needs, defScope s_l_needs⟩
def dd_l_rows : He.FnD := ⟨("_law_rows", none), "_law_rows", "_law_rows", defArgs s_l_rows, defBody s_l_rows, defScope s_l_rows⟩
def dd_l_wide : He.FnD := ⟨("_law_wide", none), "_law_wide", "_law_wide", defArgs s_l_wide, defBody s_l_wide, defScope s_l_wide⟩
def dd_l_deep : He.FnD := ⟨("_law_deep", none), "_law_deep", "_law_deep", defArgs s_l_deep, defBody s_l_deep, defScope s_l_deep⟩
def dd_l_word : He.FnD := ⟨("_law_word", none), "_law_word", "_law_word", defArgs s_l_word, defBody s_l_word, defScope s_l_word⟩
def dd_l_bad_needs : He.FnD := ⟨("_law_bad_needs", none), "_law_bad_needs", "_law_bad_needs", defArgs s_l_bad_needs, defBody s_l_bad_needs, defScope s_l_bad_needs⟩
def dd_l_bad_mosts : He.FnD := ⟨("_law_bad_mosts", none), "_law_bad_mosts", "_law_bad_mosts", defArgs s_l_bad_mosts, defBody s_l_bad_mosts, defScope s_l_bad_mosts⟩
def dd_l_bad_rows : He.FnD := ⟨("_law_bad_rows", none), "_law_bad_rows", "_law_bad_rows", defArgs s_l_bad_rows, defBody s_l_bad_rows, defScope s_l_bad_rows⟩
def dd_l_halves : He.FnD := ⟨("_law_halves", none), "_law_halves", "_law_halves", defArgs s_l_halves, defBody s_l_halves, defScope s_l_halves⟩
def dd_l_too_great : He.FnD := ⟨("_law_too_great", none), "_law_too_great", "_law_too_great", defArgs s_l_too_great, defBody s_l_too_great, defScope s_l_too_great⟩
def dd_l_turns_behind : He.FnD := ⟨("_law_turns_behind", none), "_law_turns_behind", "_law_turns_behind", defArgs s_l_turns_behind, defBody s_l_turns_behind, defScope s_l_turns_behind⟩
def dd_l_wrong_forms : He.FnD := ⟨("_law_wrong_forms", none), "_law_wrong_forms", "_law_wrong_forms", defArgs s_l_wrong_forms, defBody s_l_wrong_forms, defScope s_l_wrong_forms⟩
def dd_l_bad_body : He.FnD := ⟨("_law_bad_body", none), "_law_bad_body", "_law_bad_body", defArgs s_l_bad_body, defBody s_l_bad_body, defScope s_l_bad_body⟩
def dd_l_put : He.FnD := ⟨("_law_put", none), "_law_put", "_law_put", defArgs s_l_put, defBody s_l_put, defScope s_l_put⟩
def dd_law : He.FnD := ⟨("law", none), "law", "law", defArgs s_law, defBody s_law, defScope s_law⟩
def ddz : List He.FnD := [dd_is_whole, dd_kind_of, dd_is_part, dd_is_sum, dd_is_cond, dd_is_name, dd_are_needs, dd_is_most, dd_are_sums, dd_is_call, dd_is_choice, dd_is_turned, dd_is_body, dd_is_worded, dd_count_parts, dd_deepness, dd_is_head, dd_are_functions, dd_program_of, dd_l_pen, dd_l_take, dd_l_told, dd_l_needs, dd_l_rows, dd_l_wide, dd_l_deep, dd_l_word, dd_l_bad_needs, dd_l_bad_mosts, dd_l_bad_rows, dd_l_halves, dd_l_too_great, dd_l_turns_behind, dd_l_wrong_forms, dd_l_bad_body, dd_l_put, dd_law]
def fza : List Fz := [.fa (.glo "is_whole"), .fa (.glo "kind_of"), .fa (.glo "is_part"), .fa (.glo "is_sum"), .fa (.glo "is_cond"), .fa (.glo "is_name"), .fa (.glo "are_needs"), .fa (.glo "is_most"), .fa (.glo "are_sums"), .fa (.glo "is_call"), .fa (.glo "is_choice"), .fa (.glo "is_turned"), .fa (.glo "is_body"), .fa (.glo "is_worded"), .fa (.glo "count_parts"), .fa (.glo "deepness"), .fa (.glo "is_head"), .fa (.glo "are_functions"), .fa (.glo "program_of"), .fa (.glo "_law_pen"), .fa (.glo "_law_take"), .fa (.glo "_law_told"), .fa (.glo "_law_needs"), .fa (.glo "_law_rows"), .fa (.glo "_law_wide"), .fa (.glo "_law_deep"), .fa (.glo "_law_word"), .fa (.glo "_law_bad_needs"), .fa (.glo "_law_bad_mosts"), .fa (.glo "_law_bad_rows"), .fa (.glo "_law_halves"), .fa (.glo "_law_too_great"), .fa (.glo "_law_turns_behind"), .fa (.glo "_law_wrong_forms"), .fa (.glo "_law_bad_body"), .fa (.glo "_law_put"), .fa (.glo "law"), .fa (.glo "NoProgram"), .fa (.exc "NoProgram"), .xcc "NoProgram", .fa (.glo "RoomError"), .fa (.glo "NoBack"), .fa (.glo "NoCell"), .fa (.glo "NoGiven"), .fa (.glo "NoName"), .fa (.glo "NoRoad"), .fa (.glo "NoRow"), .fa (.glo "NoRule"), .fa (.glo "NoText")]
def fzb : List Fz := [.fa (.glo "NoTurn"), .fa (.glo "Ring"), .fa (.glo "TooGreat"), .fa (.glo "TooLong"), .fa (.exm "NoProgram" "RoomError" true), .kit "NoProgram" "NoBack" false, .kit "NoProgram" "NoCell" false, .kit "NoProgram" "NoGiven" false, .kit "NoProgram" "NoName" false, .kit "NoProgram" "NoProgram" true, .kit "NoProgram" "NoRoad" false, .kit "NoProgram" "NoRow" false, .kit "NoProgram" "NoRule" false, .kit "NoProgram" "NoText" false, .kit "NoProgram" "NoTurn" false, .kit "NoProgram" "Ring" false, .kit "NoProgram" "TooGreat" false, .kit "NoProgram" "TooLong" false, .kitT "NoProgram" "ValueError" true, .con "OF_SUMS" c_OF_SUMS, .con "WORDS" c_WORDS, .con "LETTERS" c_LETTERS, .con "MOST_NEEDS" c_MOST_NEEDS, .con "NEED_KINDS" c_NEED_KINDS, .con "MOST_CHOICES" c_MOST_CHOICES, .con "MOST_TURNS" c_MOST_TURNS, .con "MOST_PLACES" c_MOST_PLACES, .con "MOST_MOST" c_MOST_MOST, .con "MOST_FUNCTIONS" c_MOST_FUNCTIONS, .con "MOST_PARTS" c_MOST_PARTS, .con "MOST_DEEP" c_MOST_DEEP, .tab "KINDS" y_KINDS n_KINDS, .tab "FORMS" y_FORMS n_FORMS, .tab "OF_CONDS" y_OF_CONDS n_OF_CONDS, .fa (.free "isinstance"), .fa (.free "int"), .fa (.free "bool"), .fa (.free "tuple"), .fa (.free "len"), .fa (.free "str"), .fa (.free "all"), .fa (.free "zip"), .fa (.free "set"), .fa (.free "sum"), .fa (.free "max"), .fa (.free "abs"), .fa (.free "ValueError"), .fa (.free "range"), .fa (.free "list")]
def tz : List He.Tab := [(fun K => He.ga K "KINDS", ["x", "z", "l", "t"]), (fun K => He.ga K "FORMS", ["num", "own", "need", "size", "at", "kids", "kid", "full", "with", "without", "many", "plus", "less", "times", "half", "rest", "lesser", "greater"]), (fun K => He.ga K "OF_CONDS", ["not", "and", "or"])]
def loose0 : List PySem.Str := ["FORMS", "KINDS", "is_whole", "kind_of", "is_part", "is_sum", "OF_SUMS", "OF_CONDS", "is_cond", "RoomError", "NoProgram", "NoGiven", "NoCell", "TooLong", "TooGreat", "Ring", "NoRule", "NoRoad", "NoTurn", "NoText"]
def loose1 : List PySem.Str := ["NoRow", "NoName", "NoBack", "LETTERS", "NEED_KINDS", "WORDS", "MOST_NEEDS", "MOST_FUNCTIONS", "MOST_PLACES", "MOST_CHOICES", "MOST_PARTS", "MOST_DEEP", "MOST_TURNS", "MOST_MOST", "is_name", "are_needs", "is_most", "are_sums", "is_call", "is_choice"]
def loose2 : List PySem.Str := ["is_turned", "is_body", "is_worded", "count_parts", "deepness", "is_head", "are_functions", "program_of", "_law_pen", "_law_take", "_law_told", "_law_needs", "_law_rows", "_law_wide", "_law_deep", "_law_word", "_law_bad_needs", "_law_bad_mosts", "_law_bad_rows", "_law_halves"]
def loose3 : List PySem.Str := ["_law_too_great", "_law_turns_behind", "_law_wrong_forms", "_law_bad_body", "_law_put"]
def looseZ : List PySem.Str := loose0 ++ loose1 ++ loose2 ++ loose3
section
open PySem.W HandSHeadRun
def RunA (w : World) : Prop := ∀ os : OsState, (endF (stepQ (denQ tabQ) (PySem.W.OpenLaw.row PySem.Challenge.rw_roomtables_k08_no_programs).prog w) 20000 (PySem.W.OpenLaw.row PySem.Challenge.rw_roomtables_k08_no_programs).prog w os).map (fun s => (looksF (PySem.W.OpenLaw.row PySem.Challenge.rw_roomtables_k08_no_programs).prog (PySem.W.boot_heap w.params) s.abs, seenQ (PySem.W.view (PySem.W.OpenLaw.row PySem.Challenge.rw_roomtables_k08_no_programs).prog [70]) looseZ (importedModules (PySem.W.OpenLaw.row PySem.Challenge.rw_roomtables_k08_no_programs).prog.main.body) (fun s => xlAt (PySem.W.view (PySem.W.OpenLaw.row PySem.Challenge.rw_roomtables_k08_no_programs).prog [70]) [] s && recOk (OpenRow.toRowW (PySem.W.OpenLaw.row PySem.Challenge.rw_roomtables_k08_no_programs)).records s) s.abs)) = some (true, openGood (PySem.W.view (PySem.W.OpenLaw.row PySem.Challenge.rw_roomtables_k08_no_programs).prog [70]) looseZ)
def RunB (w : World) : Prop := ∀ os : OsState, (endF (stepQ (denQ tabQ) (PySem.W.OpenLaw.row PySem.Challenge.rw_roomtables_k08_no_programs).prog w) 20000 (PySem.W.OpenLaw.row PySem.Challenge.rw_roomtables_k08_no_programs).prog w os).map (obA 4 3000 fza) = some true
def RunC (w : World) : Prop := ∀ os : OsState, (endF (stepQ (denQ tabQ) (PySem.W.OpenLaw.row PySem.Challenge.rw_roomtables_k08_no_programs).prog w) 20000 (PySem.W.OpenLaw.row PySem.Challenge.rw_roomtables_k08_no_programs).prog w os).map (obB 4 3000 fzb ddz tz) = some (valZ ddz tz w)
open PyProof.Rows in
set_option maxHeartbeats 0 in
theorem headZ (run : ∀ w, RunEq (PySem.W.OpenLaw.row PySem.Challenge.rw_roomtables_k08_no_programs) (PySem.W.view (PySem.W.OpenLaw.row PySem.Challenge.rw_roomtables_k08_no_programs).prog [70]) (hookZ 4 3000 (fza ++ fzb) ddz tz) (obZ 4 3000 fza fzb ddz tz) 20000 looseZ w) (call : PySem.W.WalkO (PySem.W.view (PySem.W.OpenLaw.row PySem.Challenge.rw_roomtables_k08_no_programs).prog [70]) looseZ (PySem.W.XL (PySem.W.view (PySem.W.OpenLaw.row PySem.Challenge.rw_roomtables_k08_no_programs).prog [70]) []) (hookZ 4 3000 (fza ++ fzb) ddz tz).says (OpenRow.toRowW (PySem.W.OpenLaw.row PySem.Challenge.rw_roomtables_k08_no_programs)) (HandSHeadRun.topDef (PySem.W.OpenLaw.row PySem.Challenge.rw_roomtables_k08_no_programs).prog 70) [] (fun f vs => PySem.call f vs)) : PySem.Challenge.rw_roomtables_k08_no_programs.Holds := by
  w_on; o_law
  refine HandSHeadRun.head_any (r := (PySem.W.OpenLaw.row PySem.Challenge.rw_roomtables_k08_no_programs)) (q := (PySem.W.view (PySem.W.OpenLaw.row PySem.Challenge.rw_roomtables_k08_no_programs).prog [70])) (H := hookZ 4 3000 (fza ++ fzb) ddz tz) (ob := obZ 4 3000 fza fzb ddz tz) (M := 20000) (loose := looseZ) (d := HandSHeadRun.topDef (PySem.W.OpenLaw.row PySem.Challenge.rw_roomtables_k08_no_programs).prog 70) (kwd := []) (obZ_eq _ _ _ _ _ _)
    (by kernel_rfl) (fun s => by kernel_rfl) run (by kernel_rfl) (by kernel_rfl) (by kernel_rfl) (by rfl) (by first | assumption | decide +kernel) (by decide +kernel) ⟨rfl, rfl, rfl, rfl, rfl, by decide +kernel⟩ ?hw call
  case hw => w_witness2
set_option maxHeartbeats 0 in
theorem runAF (w : World) : RunA (w.withFollow "special-get-raises" false) := by
  intro os
  kernel_rfl
set_option maxHeartbeats 0 in
theorem runAT (w : World) : RunA (w.withFollow "special-get-raises" true) := by
  intro os
  kernel_rfl
theorem runA (w : World) : RunA w := byRow2 "special-get-raises" (P := RunA) runAF runAT w
set_option maxHeartbeats 0 in
theorem runBF (w : World) : RunB (w.withFollow "special-get-raises" false) := by
  intro os
  kernel_rfl
set_option maxHeartbeats 0 in
theorem runBT (w : World) : RunB (w.withFollow "special-get-raises" true) := by
  intro os
  kernel_rfl
theorem runB (w : World) : RunB w := byRow2 "special-get-raises" (P := RunB) runBF runBT w
set_option maxHeartbeats 0 in
theorem runCF (w : World) : RunC (w.withFollow "special-get-raises" false) := by
  intro os
  kernel_rfl
set_option maxHeartbeats 0 in
theorem runCT (w : World) : RunC (w.withFollow "special-get-raises" true) := by
  intro os
  kernel_rfl
theorem runC (w : World) : RunC w := byRow2 "special-get-raises" (P := RunC) runCF runCT w
theorem runZ (w : World) : RunEq (PySem.W.OpenLaw.row PySem.Challenge.rw_roomtables_k08_no_programs) (PySem.W.view (PySem.W.OpenLaw.row PySem.Challenge.rw_roomtables_k08_no_programs).prog [70]) (hookZ 4 3000 (fza ++ fzb) ddz tz) (obZ 4 3000 fza fzb ddz tz) 20000 looseZ w := run_of (runA w) (runB w) (runC w)
end
set_option maxHeartbeats 8000000 in
structure Txt (K : PySem.W.Frag) (w : World) (mg : Str → Option Value) where
  X_NoProgram : Addr
  gx_NoProgram : mg "NoProgram" = some (.ref X_NoProgram)
  xc_NoProgram : ExCls K X_NoProgram
  X_RoomError : Addr
  gx_RoomError : mg "RoomError" = some (.ref X_RoomError)
  X_NoBack : Addr
  gx_NoBack : mg "NoBack" = some (.ref X_NoBack)
  X_NoCell : Addr
  gx_NoCell : mg "NoCell" = some (.ref X_NoCell)
  X_NoGiven : Addr
  gx_NoGiven : mg "NoGiven" = some (.ref X_NoGiven)
  X_NoName : Addr
  gx_NoName : mg "NoName" = some (.ref X_NoName)
  X_NoRoad : Addr
  gx_NoRoad : mg "NoRoad" = some (.ref X_NoRoad)
  X_NoRow : Addr
  gx_NoRow : mg "NoRow" = some (.ref X_NoRow)
  X_NoRule : Addr
  gx_NoRule : mg "NoRule" = some (.ref X_NoRule)
  X_NoText : Addr
  gx_NoText : mg "NoText" = some (.ref X_NoText)
  X_NoTurn : Addr
  gx_NoTurn : mg "NoTurn" = some (.ref X_NoTurn)
  X_Ring : Addr
  gx_Ring : mg "Ring" = some (.ref X_Ring)
  X_TooGreat : Addr
  gx_TooGreat : mg "TooGreat" = some (.ref X_TooGreat)
  X_TooLong : Addr
  gx_TooLong : mg "TooLong" = some (.ref X_TooLong)
  xt : xtab.Ok K mg
  ki : kitab.Ok K mg
  f_is_whole : Addr
  d_is_whole : FuncData
  F_is_whole : Fun K "is_whole" "is_whole" s_is_whole f_is_whole d_is_whole
  b_is_whole : Binds K d_is_whole ["thing"] []
  g_is_whole : mg "is_whole" = some (.ref f_is_whole)
  f_kind_of : Addr
  d_kind_of : FuncData
  F_kind_of : Fun K "kind_of" "kind_of" s_kind_of f_kind_of d_kind_of
  b_kind_of : Binds K d_kind_of ["needs", "name"] []
  g_kind_of : mg "kind_of" = some (.ref f_kind_of)
  f_is_part : Addr
  d_is_part : FuncData
  F_is_part : Fun K "is_part" "is_part" s_is_part f_is_part d_is_part
  b_is_part : Binds K d_is_part ["kind", "part", "needs", "many"] []
  g_is_part : mg "is_part" = some (.ref f_is_part)
  f_is_sum : Addr
  d_is_sum : FuncData
  F_is_sum : Fun K "is_sum" "is_sum" s_is_sum f_is_sum d_is_sum
  b_is_sum : Binds K d_is_sum ["thing", "needs", "many"] []
  g_is_sum : mg "is_sum" = some (.ref f_is_sum)
  f_is_cond : Addr
  d_is_cond : FuncData
  F_is_cond : Fun K "is_cond" "is_cond" s_is_cond f_is_cond d_is_cond
  b_is_cond : Binds K d_is_cond ["thing", "needs", "many"] []
  g_is_cond : mg "is_cond" = some (.ref f_is_cond)
  f_is_name : Addr
  d_is_name : FuncData
  F_is_name : Fun K "is_name" "is_name" s_is_name f_is_name d_is_name
  b_is_name : Binds K d_is_name ["thing"] []
  g_is_name : mg "is_name" = some (.ref f_is_name)
  f_are_needs : Addr
  d_are_needs : FuncData
  F_are_needs : Fun K "are_needs" "are_needs" s_are_needs f_are_needs d_are_needs
  b_are_needs : Binds K d_are_needs ["thing"] []
  g_are_needs : mg "are_needs" = some (.ref f_are_needs)
  f_is_most : Addr
  d_is_most : FuncData
  F_is_most : Fun K "is_most" "is_most" s_is_most f_is_most d_is_most
  b_is_most : Binds K d_is_most ["thing", "needs"] []
  g_is_most : mg "is_most" = some (.ref f_is_most)
  f_are_sums : Addr
  d_are_sums : FuncData
  F_are_sums : Fun K "are_sums" "are_sums" s_are_sums f_are_sums d_are_sums
  b_are_sums : Binds K d_are_sums ["thing", "many", "needs", "own"] []
  g_are_sums : mg "are_sums" = some (.ref f_are_sums)
  f_is_call : Addr
  d_is_call : FuncData
  F_is_call : Fun K "is_call" "is_call" s_is_call f_is_call d_is_call
  b_is_call : Binds K d_is_call ["thing", "house", "own"] []
  g_is_call : mg "is_call" = some (.ref f_is_call)
  f_is_choice : Addr
  d_is_choice : FuncData
  F_is_choice : Fun K "is_choice" "is_choice" s_is_choice f_is_choice d_is_choice
  b_is_choice : Binds K d_is_choice ["thing", "house", "own", "turns"] []
  g_is_choice : mg "is_choice" = some (.ref f_is_choice)
  f_is_turned : Addr
  d_is_turned : FuncData
  F_is_turned : Fun K "is_turned" "is_turned" s_is_turned f_is_turned d_is_turned
  b_is_turned : Binds K d_is_turned ["thing", "house", "own", "turns"] []
  g_is_turned : mg "is_turned" = some (.ref f_is_turned)
  f_is_body : Addr
  d_is_body : FuncData
  F_is_body : Fun K "is_body" "is_body" s_is_body f_is_body d_is_body
  b_is_body : Binds K d_is_body ["thing", "house", "own", "turns"] []
  g_is_body : mg "is_body" = some (.ref f_is_body)
  f_is_worded : Addr
  d_is_worded : FuncData
  F_is_worded : Fun K "is_worded" "is_worded" s_is_worded f_is_worded d_is_worded
  b_is_worded : Binds K d_is_worded ["thing"] []
  g_is_worded : mg "is_worded" = some (.ref f_is_worded)
  f_count_parts : Addr
  d_count_parts : FuncData
  F_count_parts : Fun K "count_parts" "count_parts" s_count_parts f_count_parts d_count_parts
  b_count_parts : Binds K d_count_parts ["thing"] []
  g_count_parts : mg "count_parts" = some (.ref f_count_parts)
  f_deepness : Addr
  d_deepness : FuncData
  F_deepness : Fun K "deepness" "deepness" s_deepness f_deepness d_deepness
  b_deepness : Binds K d_deepness ["thing"] []
  g_deepness : mg "deepness" = some (.ref f_deepness)
  f_is_head : Addr
  d_is_head : FuncData
  F_is_head : Fun K "is_head" "is_head" s_is_head f_is_head d_is_head
  b_is_head : Binds K d_is_head ["thing", "needs"] []
  g_is_head : mg "is_head" = some (.ref f_is_head)
  f_are_functions : Addr
  d_are_functions : FuncData
  F_are_functions : Fun K "are_functions" "are_functions" s_are_functions f_are_functions d_are_functions
  b_are_functions : Binds K d_are_functions ["thing", "needs"] []
  g_are_functions : mg "are_functions" = some (.ref f_are_functions)
  f_program_of : Addr
  d_program_of : FuncData
  F_program_of : Fun K "program_of" "program_of" s_program_of f_program_of d_program_of
  b_program_of : Binds K d_program_of ["needs", "functions"] []
  g_program_of : mg "program_of" = some (.ref f_program_of)
  f_l_pen : Addr
  d_l_pen : FuncData
  F_l_pen : Fun K "_law_pen" "_law_pen" s_l_pen f_l_pen d_l_pen
  b_l_pen : Binds K d_l_pen ["_law_script"] []
  g_l_pen : mg "_law_pen" = some (.ref f_l_pen)
  f_l_take : Addr
  d_l_take : FuncData
  F_l_take : Fun K "_law_take" "_law_take" s_l_take f_l_take d_l_take
  b_l_take : Binds K d_l_take ["_law_pen_here", "_law_many"] []
  g_l_take : mg "_law_take" = some (.ref f_l_take)
  f_l_told : Addr
  d_l_told : FuncData
  F_l_told : Fun K "_law_told" "_law_told" s_l_told f_l_told d_l_told
  b_l_told : Binds K d_l_told ["_law_needs_here", "_law_rows_here"] []
  g_l_told : mg "_law_told" = some (.ref f_l_told)
  f_l_needs : Addr
  d_l_needs : FuncData
  F_l_needs : Fun K "_law_needs" "_law_needs" s_l_needs f_l_needs d_l_needs
  b_l_needs : Binds K d_l_needs ["_law_pen_here"] []
  g_l_needs : mg "_law_needs" = some (.ref f_l_needs)
  f_l_rows : Addr
  d_l_rows : FuncData
  F_l_rows : Fun K "_law_rows" "_law_rows" s_l_rows f_l_rows d_l_rows
  b_l_rows : Binds K d_l_rows ["_law_needs_here"] []
  g_l_rows : mg "_law_rows" = some (.ref f_l_rows)
  f_l_wide : Addr
  d_l_wide : FuncData
  F_l_wide : Fun K "_law_wide" "_law_wide" s_l_wide f_l_wide d_l_wide
  b_l_wide : Binds K d_l_wide ["_law_many"] []
  g_l_wide : mg "_law_wide" = some (.ref f_l_wide)
  f_l_deep : Addr
  d_l_deep : FuncData
  F_l_deep : Fun K "_law_deep" "_law_deep" s_l_deep f_l_deep d_l_deep
  b_l_deep : Binds K d_l_deep ["_law_many"] []
  g_l_deep : mg "_law_deep" = some (.ref f_l_deep)
  f_l_word : Addr
  d_l_word : FuncData
  F_l_word : Fun K "_law_word" "_law_word" s_l_word f_l_word d_l_word
  b_l_word : Binds K d_l_word ["_law_pen_here"] []
  g_l_word : mg "_law_word" = some (.ref f_l_word)
  f_l_bad_needs : Addr
  d_l_bad_needs : FuncData
  F_l_bad_needs : Fun K "_law_bad_needs" "_law_bad_needs" s_l_bad_needs f_l_bad_needs d_l_bad_needs
  b_l_bad_needs : Binds K d_l_bad_needs ["_law_pen_here", "_law_needs_here"] []
  g_l_bad_needs : mg "_law_bad_needs" = some (.ref f_l_bad_needs)
  f_l_bad_mosts : Addr
  d_l_bad_mosts : FuncData
  F_l_bad_mosts : Fun K "_law_bad_mosts" "_law_bad_mosts" s_l_bad_mosts f_l_bad_mosts d_l_bad_mosts
  b_l_bad_mosts : Binds K d_l_bad_mosts ["_law_needs_here", "_law_mosts"] []
  g_l_bad_mosts : mg "_law_bad_mosts" = some (.ref f_l_bad_mosts)
  f_l_bad_rows : Addr
  d_l_bad_rows : FuncData
  F_l_bad_rows : Fun K "_law_bad_rows" "_law_bad_rows" s_l_bad_rows f_l_bad_rows d_l_bad_rows
  b_l_bad_rows : Binds K d_l_bad_rows ["_law_pen_here", "_law_needs_here", "_law_rows_here"] []
  g_l_bad_rows : mg "_law_bad_rows" = some (.ref f_l_bad_rows)
  f_l_halves : Addr
  d_l_halves : FuncData
  F_l_halves : Fun K "_law_halves" "_law_halves" s_l_halves f_l_halves d_l_halves
  b_l_halves : Binds K d_l_halves ["_law_many"] []
  g_l_halves : mg "_law_halves" = some (.ref f_l_halves)
  f_l_too_great : Addr
  d_l_too_great : FuncData
  F_l_too_great : Fun K "_law_too_great" "_law_too_great" s_l_too_great f_l_too_great d_l_too_great
  b_l_too_great : Binds K d_l_too_great ["_law_pen_here"] []
  g_l_too_great : mg "_law_too_great" = some (.ref f_l_too_great)
  f_l_turns_behind : Addr
  d_l_turns_behind : FuncData
  F_l_turns_behind : Fun K "_law_turns_behind" "_law_turns_behind" s_l_turns_behind f_l_turns_behind d_l_turns_behind
  b_l_turns_behind : Binds K d_l_turns_behind ["_law_own", "_law_far"] []
  g_l_turns_behind : mg "_law_turns_behind" = some (.ref f_l_turns_behind)
  f_l_wrong_forms : Addr
  d_l_wrong_forms : FuncData
  F_l_wrong_forms : Fun K "_law_wrong_forms" "_law_wrong_forms" s_l_wrong_forms f_l_wrong_forms d_l_wrong_forms
  b_l_wrong_forms : Binds K d_l_wrong_forms ["_law_needs_here", "_law_own"] []
  g_l_wrong_forms : mg "_law_wrong_forms" = some (.ref f_l_wrong_forms)
  f_l_bad_body : Addr
  d_l_bad_body : FuncData
  F_l_bad_body : Fun K "_law_bad_body" "_law_bad_body" s_l_bad_body f_l_bad_body d_l_bad_body
  b_l_bad_body : Binds K d_l_bad_body ["_law_pen_here", "_law_needs_here", "_law_many"] []
  g_l_bad_body : mg "_law_bad_body" = some (.ref f_l_bad_body)
  f_l_put : Addr
  d_l_put : FuncData
  F_l_put : Fun K "_law_put" "_law_put" s_l_put f_l_put d_l_put
  b_l_put : Binds K d_l_put ["_law_pen_here", "_law_body", "_law_bad"] []
  g_l_put : mg "_law_put" = some (.ref f_l_put)
  f_law : Addr
  d_law : FuncData
  F_law : Fun K "law" "law" s_law f_law d_law
  b_law : Binds K d_law ["_law_script"] []
  g_law : mg "law" = some (.ref f_law)
  m_OF_SUMS : GlobD K mg "OF_SUMS" c_OF_SUMS
  m_WORDS : GlobD K mg "WORDS" c_WORDS
  m_LETTERS : GlobD K mg "LETTERS" c_LETTERS
  m_MOST_NEEDS : GlobD K mg "MOST_NEEDS" c_MOST_NEEDS
  m_NEED_KINDS : GlobD K mg "NEED_KINDS" c_NEED_KINDS
  m_MOST_CHOICES : GlobD K mg "MOST_CHOICES" c_MOST_CHOICES
  m_MOST_TURNS : GlobD K mg "MOST_TURNS" c_MOST_TURNS
  m_MOST_PLACES : GlobD K mg "MOST_PLACES" c_MOST_PLACES
  m_MOST_MOST : GlobD K mg "MOST_MOST" c_MOST_MOST
  m_MOST_FUNCTIONS : GlobD K mg "MOST_FUNCTIONS" c_MOST_FUNCTIONS
  m_MOST_PARTS : GlobD K mg "MOST_PARTS" c_MOST_PARTS
  m_MOST_DEEP : GlobD K mg "MOST_DEEP" c_MOST_DEEP
  m_KINDS : KTabD K w mg "KINDS" y_KINDS n_KINDS
  m_FORMS : KTabD K w mg "FORMS" y_FORMS n_FORMS
  m_OF_CONDS : KTabD K w mg "OF_CONDS" y_OF_CONDS n_OF_CONDS
  z_isinstance : mg "isinstance" = none
  z_int : mg "int" = none
  z_bool : mg "bool" = none
  z_tuple : mg "tuple" = none
  z_len : mg "len" = none
  z_str : mg "str" = none
  z_all : mg "all" = none
  z_zip : mg "zip" = none
  z_set : mg "set" = none
  z_sum : mg "sum" = none
  z_max : mg "max" = none
  z_abs : mg "abs" = none
  z_ValueError : mg "ValueError" = none
  z_range : mg "range" = none
  z_list : mg "list" = none
section
variable {P : Program} {w : World} {K : PySem.W.Frag} {mg : Str → Option Value} {base : Heap}
abbrev K_is_whole (P : Program) (w : World) (base : Heap) (T : Txt K w mg) (k : Nat) (sp : FSpec) : Prop := Fk P w K mg base k T.f_is_whole T.d_is_whole ["thing"] (spD ⟨K, P, w, mg⟩ 1 sp)
def t_is_whole : TDS := sRet (qAndV (qCl (isiD .int) (qCons (qVar 0) (qCons (qC (.atm (.ty "int"))) qNil))) (qNotV (qCl (isiD .bool) (qCons (qVar 0) (qCons (qC (.atm (.ty "bool"))) qNil)))))
set_option maxHeartbeats 4000000 in
theorem d_is_whole (T : Txt K w mg) {k : Nat}  {cdv : Value} {A : Around} {outer : List Env} {s : Shared} {H : Hp} {E : XK} {B : Bd} (hr : Rm k (A.deeper (envOfC "is_whole" (defScope s_is_whole) s.heap.objs.size T.f_is_whole cdv))) :
    DSs (cxOf (L2.CX P w) P w K mg base N_is_whole "is_whole" (defScope s_is_whole) T.f_is_whole cdv A outer s H E).nox B (defBody s_is_whole) (t_is_whole) :=
  dss_one (ds_ret (de_and (de_callB (c_isi .int) (by rfl) T.z_isinstance (by decide +kernel) (da_cons (dv 0) (da_cons (de_bty (by rfl) T.z_int (by decide +kernel)) da_nil))) (de_one (de_not (de_callB (c_isi .bool) (by rfl) T.z_isinstance (by decide +kernel) (da_cons (dv 0) (da_cons (de_bty (by rfl) T.z_bool (by decide +kernel)) da_nil)))))))
def t_kind_of_1 : TDS := sIf (qTest (qOp eqZ (qVar 2) (qVar 1))) (sRet (qVar 3)) (sNext)
abbrev K_kind_of (P : Program) (w : World) (base : Heap) (T : Txt K w mg) (k : Nat) (sp : FSpec) : Prop := Fk P w K mg base k T.f_kind_of T.d_kind_of ["needs", "name"] (spD ⟨K, P, w, mg⟩ 2 sp)
def t_kind_of : TDS := sSeq (sFor (qIter (qVar 0)) (gTupD 2 (gConsD (gN 2) (gConsD (gN 3) (gNilD)))) (t_kind_of_1)) (sRet (qC (.str "")))
set_option maxHeartbeats 4000000 in
theorem d_kind_of (T : Txt K w mg) {k : Nat}  {cdv : Value} {A : Around} {outer : List Env} {s : Shared} {H : Hp} {E : XK} {B : Bd} (hr : Rm k (A.deeper (envOfC "kind_of" (defScope s_kind_of) s.heap.objs.size T.f_kind_of cdv))) :
    DSs (cxOf (L2.CX P w) P w K mg base N_kind_of "kind_of" (defScope s_kind_of) T.f_kind_of cdv A outer s H E).nox B (defBody s_kind_of) (t_kind_of) :=
  dss_cons (ds_for PassesOwn.never rfl (di_any (dv 0)) (dg_tup rfl (dgs_cons (dg_name (i := 2) sc_kind_of.nd) (dgs_cons (dg_name (i := 3) sc_kind_of.nd) (dgs_nil)))) (dss_one (ds_if (dt_cmp (o_eqZ hr.units) (dv 2) (dv 1) (nomark _)) (dss_one (ds_ret (dv 3))) (dss_nil)))) (dss_one (ds_ret (de_str)))
abbrev K_is_part (P : Program) (w : World) (base : Heap) (T : Txt K w mg) (k : Nat) (sp : FSpec) : Prop := Fk P w K mg base k T.f_is_part T.d_is_part ["kind", "part", "needs", "many"] (spD ⟨K, P, w, mg⟩ 4 sp)
def t_is_part (sp_is_sum : FSpec) (sp_is_whole : FSpec) (sp_kind_of : FSpec) : TDS := sSeq (sIf (qTest (qOp eqD (qVar 0) (qC (.str "s")))) (sRet (qCall sp_is_sum 3 (rCons (qVar 1) (rCons (qVar 2) (rCons (qVar 3) (rNil)))))) (sNext)) (sSeq (sIf (qTest (qOp eqD (qVar 0) (qC (.str "n")))) (sRet (qCall sp_is_whole 1 (rCons (qVar 1) (rNil)))) (sNext)) (sSeq (sIf (qTest (qOp eqD (qVar 0) (qC (.str "o")))) (sRet (qAndV (qCall sp_is_whole 1 (rCons (qVar 1) (rNil))) (qChain (i2 fun i j Q => Q (.bl (decide (i ≤ j)))) (i2 fun i j Q => Q (.bl (decide (i < j)))) (qC (.int 0)) (qVar 1) (qVar 3)))) (sNext)) (sRet (qOp inD (qCall sp_kind_of 2 (rCons (qVar 2) (rCons (qVar 1) (rNil)))) (qIxK y_KINDS (qVar 0))))))
set_option maxHeartbeats 4000000 in
theorem d_is_part (T : Txt K w mg) {k : Nat} {k_is_sum : Nat} {sp_is_sum : FSpec} (G_is_sum : Fk P w K mg base k_is_sum T.f_is_sum T.d_is_sum ["thing", "needs", "many"] (spD ⟨K, P, w, mg⟩ 3 sp_is_sum)) (h_is_sum : k_is_sum ≤ k) {k_is_whole : Nat} {sp_is_whole : FSpec} (G_is_whole : Fk P w K mg base k_is_whole T.f_is_whole T.d_is_whole ["thing"] (spD ⟨K, P, w, mg⟩ 1 sp_is_whole)) (h_is_whole : k_is_whole ≤ k) {k_kind_of : Nat} {sp_kind_of : FSpec} (G_kind_of : Fk P w K mg base k_kind_of T.f_kind_of T.d_kind_of ["needs", "name"] (spD ⟨K, P, w, mg⟩ 2 sp_kind_of)) (h_kind_of : k_kind_of ≤ k) {cdv : Value} {A : Around} {outer : List Env} {s : Shared} {H : Hp} {E : XK} {B : Bd} (hr : Rm k (A.deeper (envOfC "is_part" (defScope s_is_part) s.heap.objs.size T.f_is_part cdv))) :
    DSs (cxOf (L2.CX P w) P w K mg base N_is_part "is_part" (defScope s_is_part) T.f_is_part cdv A outer s H E).nox B (defBody s_is_part) (t_is_part sp_is_sum sp_is_whole sp_kind_of) :=
  dss_cons (ds_if (dt_cmp (o_eq hr.units) (dv 0) (de_str) (nomark _)) (dss_one (ds_ret (de_call G_is_sum (hr.mono (by omega)) (by rfl) T.g_is_sum T.F_is_sum.kp T.b_is_sum (dr_cons (dv 1) (dr_cons (dv 2) (dr_cons (dv 3) (dr_nil))))))) (dss_nil)) (dss_cons (ds_if (dt_cmp (o_eq hr.units) (dv 0) (de_str) (nomark _)) (dss_one (ds_ret (de_call G_is_whole (hr.mono (by omega)) (by rfl) T.g_is_whole T.F_is_whole.kp T.b_is_whole (dr_cons (dv 1) (dr_nil))))) (dss_nil)) (dss_cons (ds_if (dt_cmp (o_eq hr.units) (dv 0) (de_str) (nomark _)) (dss_one (ds_ret (de_and (de_call G_is_whole (hr.mono (by omega)) (by rfl) T.g_is_whole T.F_is_whole.kp T.b_is_whole (dr_cons (dv 1) (dr_nil))) (de_one (de_chain (o_le) (o_lt) (de_int) (dv 1) (dv 3)))))) (dss_nil)) (dss_one (ds_ret (de_cmp (o_in (hu_of hr.toRoom)) (de_call G_kind_of (hr.mono (by omega)) (by rfl) T.g_kind_of T.F_kind_of.kp T.b_kind_of (dr_cons (dv 2) (dr_cons (dv 1) (dr_nil)))) (de_ixK (by rfl) T.m_KINDS (dv 0) (fun _ _ => rfl)) (by rfl))))))
def t_is_sum_1 (sp_is_part : FSpec) : TD := qCall sp_is_part 4 (rCons (qVar 4) (rCons (qVar 5) (rCons (qVar 1) (rCons (qVar 2) (rNil)))))
abbrev K_is_sum (P : Program) (w : World) (base : Heap) (T : Txt K w mg) (k : Nat) (sp : FSpec) : Prop := Fk P w K mg base k T.f_is_sum T.d_is_sum ["thing", "needs", "many"] (spD ⟨K, P, w, mg⟩ 3 sp)
def t_is_sum (sp_is_part : FSpec) : TDS := sSeq (sIf (qOr (qNot (qTest (qCl (isiD .tup) (qCons (qVar 0) (qCons (qC (.atm (.ty "tuple"))) qNil))))) (qOr (qTest (qOp eqD (qCl (n1 lenD) (qCons (qVar 0) (qNil))) (qC (.int 0)))) (qOr (qNot (qTest (qCl (isiD .str) (qCons (qOp ixD (qVar 0) (qC (.int 0))) (qCons (qC (.atm (.ty "str"))) qNil))))) (qTest (qNinK y_FORMS n_FORMS (qOp ixD (qVar 0) (qC (.int 0)))))))) (sRet (qC (.bl false))) (sNext)) (sSeq (sAsg (qIxK y_FORMS (qOp ixD (qVar 0) (qC (.int 0)))) (gN 3)) (sSeq (sIf (qTest (qOp neD (qCl (n1 lenD) (qCons (qVar 0) (qNil))) (qOp addD (qC (.int 1)) (qCl (n1 lenD) (qCons (qVar 3) (qNil)))))) (sRet (qC (.bl false))) (sNext)) (sRet (qCl onL_all (qCons (qFz (fComp (qZip (qCons (qVar 3) (qCons (qSl slD (qVar 0) (qPart (qC (.int 1))) (qNoPart)) (qNil)))) (gTupD 2 (gConsD (gN 4) (gConsD (gN 5) (gNilD)))) (qYes) ((t_is_sum_1 sp_is_part)) [4, 5])) (qNil))))))
set_option maxHeartbeats 4000000 in
theorem d_is_sum (T : Txt K w mg) {k : Nat} {k_is_part : Nat} {sp_is_part : FSpec} (G_is_part : Fk P w K mg base k_is_part T.f_is_part T.d_is_part ["kind", "part", "needs", "many"] (spD ⟨K, P, w, mg⟩ 4 sp_is_part)) (h_is_part : k_is_part ≤ k) {cdv : Value} {A : Around} {outer : List Env} {s : Shared} {H : Hp} {E : XK} {B : Bd} (hr : Rm k (A.deeper (envOfC "is_sum" (defScope s_is_sum) s.heap.objs.size T.f_is_sum cdv))) :
    DSs (cxOf (L2.CX P w) P w K mg base N_is_sum "is_sum" (defScope s_is_sum) T.f_is_sum cdv A outer s H E).nox B (defBody s_is_sum) (t_is_sum sp_is_part) :=
  dss_cons (ds_if (DW.dt (dw_or (dt_not (dt_val (de_callB (c_isi .tup) (by rfl) T.z_isinstance (by decide +kernel) (da_cons (dv 0) (da_cons (de_bty (by rfl) T.z_tuple (by decide +kernel)) da_nil))))) (dw_or (dt_cmp (o_eq hr.units) (de_callB (c_len) (by rfl) T.z_len (by decide +kernel) (da_cons (dv 0) (da_nil))) (de_int) (nomark _)) (dw_or (dt_not (dt_val (de_callB (c_isi .str) (by rfl) T.z_isinstance (by decide +kernel) (da_cons (de_ix (o_ix (hu_of hr.toRoom)) (dv 0) (de_int)) (da_cons (de_bty (by rfl) T.z_str (by decide +kernel)) da_nil))))) (dw_or1 (dt_ninK (by rfl) T.m_FORMS (de_ix (o_ix (hu_of hr.toRoom)) (dv 0) (de_int)))))))) (dss_one (ds_ret (de_bl))) (dss_nil)) (dss_cons (ds_set (i := 3) sc_is_sum.nd (de_ixK (by rfl) T.m_FORMS (de_ix (o_ix (hu_of hr.toRoom)) (dv 0) (de_int)) (fun _ _ => rfl))) (dss_cons (ds_if (dt_cmp (o_ne hr.units) (de_callB (c_len) (by rfl) T.z_len (by decide +kernel) (da_cons (dv 0) (da_nil))) (de_op o_add (de_int) (de_callB (c_len) (by rfl) T.z_len (by decide +kernel) (da_cons (dv 3) (da_nil)))) (nomark _)) (dss_one (ds_ret (de_bl))) (dss_nil)) (dss_one (ds_ret (de_callB (c_all rfl) (by rfl) T.z_all (by decide +kernel) (da_cons (DF.de (df_comp (own := [("kind", 4), ("part", 5)]) rfl sc_is_sum.nd (di_zip (by rfl) T.z_zip (da_cons (dv 3) (da_cons (de_slice o_sl (dv 0) (do_some (de_int)) (do_none)) (da_nil)))) (blkOk_by (own := [("kind", 4), ("part", 5)]) (N := N_is_sum) (sc := defScope s_is_sum) (by decide +kernel)) (fun _ _ _ _ _ _ => dg_tup rfl (dgs_cons (dg_name (i := 4) sc_is_sum.nd) (dgs_cons (dg_name (i := 5) sc_is_sum.nd) (dgs_nil)))) (fun _ _ _ _ _ _ => dts_nil) (fun _ _ _ _ _ _ => de_call G_is_part (hr.mono (by omega)) (by rfl) T.g_is_part T.F_is_part.kp T.b_is_part (dr_cons (dv 4) (dr_cons (dv 5) (dr_cons (dv 1) (dr_cons (dv 2) (dr_nil)))))))) (da_nil)))))))
def t_is_cond_1 (sp_is_cond : FSpec) (sp_is_sum : FSpec) : TD := qCall sp_is_cond 3 (rCons (qVar 3) (rCons (qVar 1) (rCons (qVar 2) (rNil))))
def t_is_cond_2 (sp_is_cond : FSpec) (sp_is_sum : FSpec) : TD := qCall sp_is_sum 3 (rCons (qVar 3) (rCons (qVar 1) (rCons (qVar 2) (rNil))))
abbrev K_is_cond (P : Program) (w : World) (base : Heap) (T : Txt K w mg) (k : Nat) (sp : FSpec) : Prop := Fk P w K mg base k T.f_is_cond T.d_is_cond ["thing", "needs", "many"] (spD ⟨K, P, w, mg⟩ 3 sp)
def t_is_cond (sp_is_cond : FSpec) (sp_is_sum : FSpec) : TDS := sSeq (sIf (qOr (qNot (qTest (qCl (isiD .tup) (qCons (qVar 0) (qCons (qC (.atm (.ty "tuple"))) qNil))))) (qOr (qTest (qOp eqD (qCl (n1 lenD) (qCons (qVar 0) (qNil))) (qC (.int 0)))) (qNot (qTest (qCl (isiD .str) (qCons (qOp ixD (qVar 0) (qC (.int 0))) (qCons (qC (.atm (.ty "str"))) qNil))))))) (sRet (qC (.bl false))) (sNext)) (sSeq (sIf (qTest (qInK y_OF_CONDS n_OF_CONDS (qOp ixD (qVar 0) (qC (.int 0))))) (sRet (qAndV (qOp eqD (qCl (n1 lenD) (qCons (qVar 0) (qNil))) (qOp addD (qC (.int 1)) (qIxK y_OF_CONDS (qOp ixD (qVar 0) (qC (.int 0)))))) (qCl onL_all (qCons (qFz (fComp (qIter (qSl slD (qVar 0) (qPart (qC (.int 1))) (qNoPart))) (gN 3) (qYes) ((t_is_cond_1 sp_is_cond sp_is_sum)) [3])) (qNil))))) (sNext)) (sRet (qAndV (qOp inD (qOp ixD (qVar 0) (qC (.int 0))) (qC c_OF_SUMS)) (qAndV (qOp eqD (qCl (n1 lenD) (qCons (qVar 0) (qNil))) (qC (.int 3))) (qCl onL_all (qCons (qFz (fComp (qIter (qSl slD (qVar 0) (qPart (qC (.int 1))) (qNoPart))) (gN 3) (qYes) ((t_is_cond_2 sp_is_cond sp_is_sum)) [3])) (qNil)))))))
set_option maxHeartbeats 4000000 in
theorem d_is_cond (T : Txt K w mg) {k : Nat} {k_is_cond : Nat} {sp_is_cond : FSpec} (G_is_cond : Fk P w K mg base k_is_cond T.f_is_cond T.d_is_cond ["thing", "needs", "many"] (spD ⟨K, P, w, mg⟩ 3 sp_is_cond)) (h_is_cond : k_is_cond ≤ k) {k_is_sum : Nat} {sp_is_sum : FSpec} (G_is_sum : Fk P w K mg base k_is_sum T.f_is_sum T.d_is_sum ["thing", "needs", "many"] (spD ⟨K, P, w, mg⟩ 3 sp_is_sum)) (h_is_sum : k_is_sum ≤ k) {cdv : Value} {A : Around} {outer : List Env} {s : Shared} {H : Hp} {E : XK} {B : Bd} (hr : Rm k (A.deeper (envOfC "is_cond" (defScope s_is_cond) s.heap.objs.size T.f_is_cond cdv))) :
    DSs (cxOf (L2.CX P w) P w K mg base N_is_cond "is_cond" (defScope s_is_cond) T.f_is_cond cdv A outer s H E).nox B (defBody s_is_cond) (t_is_cond sp_is_cond sp_is_sum) :=
  dss_cons (ds_if (DW.dt (dw_or (dt_not (dt_val (de_callB (c_isi .tup) (by rfl) T.z_isinstance (by decide +kernel) (da_cons (dv 0) (da_cons (de_bty (by rfl) T.z_tuple (by decide +kernel)) da_nil))))) (dw_or (dt_cmp (o_eq hr.units) (de_callB (c_len) (by rfl) T.z_len (by decide +kernel) (da_cons (dv 0) (da_nil))) (de_int) (nomark _)) (dw_or1 (dt_not (dt_val (de_callB (c_isi .str) (by rfl) T.z_isinstance (by decide +kernel) (da_cons (de_ix (o_ix (hu_of hr.toRoom)) (dv 0) (de_int)) (da_cons (de_bty (by rfl) T.z_str (by decide +kernel)) da_nil))))))))) (dss_one (ds_ret (de_bl))) (dss_nil)) (dss_cons (ds_if (dt_inK (by rfl) T.m_OF_CONDS (de_ix (o_ix (hu_of hr.toRoom)) (dv 0) (de_int))) (dss_one (ds_ret (de_and (de_cmp (o_eq hr.units) (de_callB (c_len) (by rfl) T.z_len (by decide +kernel) (da_cons (dv 0) (da_nil))) (de_op o_add (de_int) (de_ixK (by rfl) T.m_OF_CONDS (de_ix (o_ix (hu_of hr.toRoom)) (dv 0) (de_int)) (fun _ _ => rfl))) (nomark _)) (de_one (de_callB (c_all rfl) (by rfl) T.z_all (by decide +kernel) (da_cons (DF.de (df_comp (own := [("part", 3)]) rfl sc_is_cond.nd (di_any (de_slice o_sl (dv 0) (do_some (de_int)) (do_none))) (blkOk_by (own := [("part", 3)]) (N := N_is_cond) (sc := defScope s_is_cond) (by decide +kernel)) (fun _ _ _ _ _ _ => dg_name (i := 3) sc_is_cond.nd) (fun _ _ _ _ _ _ => dts_nil) (fun _ _ _ _ _ _ => de_call G_is_cond (hr.mono (by omega)) (by rfl) T.g_is_cond T.F_is_cond.kp T.b_is_cond (dr_cons (dv 3) (dr_cons (dv 1) (dr_cons (dv 2) (dr_nil))))))) (da_nil))))))) (dss_nil)) (dss_one (ds_ret (de_and (de_cmp (o_in (hu_of hr.toRoom)) (de_ix (o_ix (hu_of hr.toRoom)) (dv 0) (de_int)) (de_const (by rfl) T.m_OF_SUMS) (by rfl)) (de_and (de_cmp (o_eq hr.units) (de_callB (c_len) (by rfl) T.z_len (by decide +kernel) (da_cons (dv 0) (da_nil))) (de_int) (nomark _)) (de_one (de_callB (c_all rfl) (by rfl) T.z_all (by decide +kernel) (da_cons (DF.de (df_comp (own := [("part", 3)]) rfl sc_is_cond.nd (di_any (de_slice o_sl (dv 0) (do_some (de_int)) (do_none))) (blkOk_by (own := [("part", 3)]) (N := N_is_cond) (sc := defScope s_is_cond) (by decide +kernel)) (fun _ _ _ _ _ _ => dg_name (i := 3) sc_is_cond.nd) (fun _ _ _ _ _ _ => dts_nil) (fun _ _ _ _ _ _ => de_call G_is_sum (hr.mono (by omega)) (by rfl) T.g_is_sum T.F_is_sum.kp T.b_is_sum (dr_cons (dv 3) (dr_cons (dv 1) (dr_cons (dv 2) (dr_nil))))))) (da_nil)))))))))
def t_is_name_1 : TD := qOp inD (qVar 1) (qC c_LETTERS)
abbrev K_is_name (P : Program) (w : World) (base : Heap) (T : Txt K w mg) (k : Nat) (sp : FSpec) : Prop := Fk P w K mg base k T.f_is_name T.d_is_name ["thing"] (spD ⟨K, P, w, mg⟩ 1 sp)
def t_is_name : TDS := sSeq (sIf (qOr (qNot (qTest (qCl (isiD .str) (qCons (qVar 0) (qCons (qC (.atm (.ty "str"))) qNil))))) (qOr (qNot (qTest (qChain (i2 fun i j Q => Q (.bl (decide (i ≤ j)))) (i2 fun i j Q => Q (.bl (decide (i ≤ j)))) (qC (.int 2)) (qCl (n1 lenD) (qCons (qVar 0) (qNil))) (qC (.int 8))))) (qTest (qOp inD (qVar 0) (qC c_WORDS))))) (sRet (qC (.bl false))) (sNext)) (sRet (qCl onL_all (qCons (qFz (fComp (qIter (qVar 0)) (gN 1) (qYes) (t_is_name_1) [1])) (qNil))))
set_option maxHeartbeats 4000000 in
theorem d_is_name (T : Txt K w mg) {k : Nat}  {cdv : Value} {A : Around} {outer : List Env} {s : Shared} {H : Hp} {E : XK} {B : Bd} (hr : Rm k (A.deeper (envOfC "is_name" (defScope s_is_name) s.heap.objs.size T.f_is_name cdv))) :
    DSs (cxOf (L2.CX P w) P w K mg base N_is_name "is_name" (defScope s_is_name) T.f_is_name cdv A outer s H E).nox B (defBody s_is_name) (t_is_name) :=
  dss_cons (ds_if (DW.dt (dw_or (dt_not (dt_val (de_callB (c_isi .str) (by rfl) T.z_isinstance (by decide +kernel) (da_cons (dv 0) (da_cons (de_bty (by rfl) T.z_str (by decide +kernel)) da_nil))))) (dw_or (dt_not (dt_chain (o_le) (o_le) (de_int) (de_callB (c_len) (by rfl) T.z_len (by decide +kernel) (da_cons (dv 0) (da_nil))) (de_int))) (dw_or1 (dt_cmp (o_in (hu_of hr.toRoom)) (dv 0) (de_const (by rfl) T.m_WORDS) (by rfl)))))) (dss_one (ds_ret (de_bl))) (dss_nil)) (dss_one (ds_ret (de_callB (c_all rfl) (by rfl) T.z_all (by decide +kernel) (da_cons (DF.de (df_comp (own := [("sign", 1)]) rfl sc_is_name.nd (di_any (dv 0)) (blkOk_by (own := [("sign", 1)]) (N := N_is_name) (sc := defScope s_is_name) (by decide +kernel)) (fun _ _ _ _ _ _ => dg_name (i := 1) sc_is_name.nd) (fun _ _ _ _ _ _ => dts_nil) (fun _ _ _ _ _ _ => de_cmp (o_in (hu_of hr.toRoom)) (dv 1) (de_const (by rfl) T.m_LETTERS) (by rfl)))) (da_nil)))))
def t_are_needs_1 (sp_is_name : FSpec) : TDS := sSeq (sIf (qOr (qNot (qTest (qCl (isiD .tup) (qCons (qVar 1) (qCons (qC (.atm (.ty "tuple"))) qNil))))) (qOr (qTest (qOp neD (qCl (n1 lenD) (qCons (qVar 1) (qNil))) (qC (.int 2)))) (qOr (qNot (qTest (qCall sp_is_name 1 (rCons (qOp ixD (qVar 1) (qC (.int 0))) (rNil))))) (qNot (qTest (qCl (isiD .str) (qCons (qOp ixD (qVar 1) (qC (.int 1))) (qCons (qC (.atm (.ty "str"))) qNil)))))))) (sRet (qC (.bl false))) (sNext)) (sIf (qTest (qOp ninD (qOp ixD (qVar 1) (qC (.int 1))) (qC c_NEED_KINDS))) (sRet (qC (.bl false))) (sNext))
def t_are_needs_2 (sp_is_name : FSpec) : TD := qOp ixD (qVar 1) (qC (.int 0))
abbrev K_are_needs (P : Program) (w : World) (base : Heap) (T : Txt K w mg) (k : Nat) (sp : FSpec) : Prop := Fk P w K mg base k T.f_are_needs T.d_are_needs ["thing"] (spD ⟨K, P, w, mg⟩ 1 sp)
def t_are_needs (sp_is_name : FSpec) : TDS := sSeq (sIf (qOr (qNot (qTest (qCl (isiD .tup) (qCons (qVar 0) (qCons (qC (.atm (.ty "tuple"))) qNil))))) (qTest (qOp (i2 fun i j Q => Q (.bl (decide (j < i)))) (qCl (n1 lenD) (qCons (qVar 0) (qNil))) (qC c_MOST_NEEDS)))) (sRet (qC (.bl false))) (sNext)) (sSeq (sFor (qIter (qVar 0)) (gN 1) ((t_are_needs_1 sp_is_name))) (sRet (qOp eqD (qLenSetU (qFz (fComp (qIter (qVar 0)) (gN 1) (qYes) ((t_are_needs_2 sp_is_name)) [1]))) (qCl (n1 lenD) (qCons (qVar 0) (qNil))))))
set_option maxHeartbeats 4000000 in
theorem d_are_needs (T : Txt K w mg) {k : Nat} {k_is_name : Nat} {sp_is_name : FSpec} (G_is_name : Fk P w K mg base k_is_name T.f_is_name T.d_is_name ["thing"] (spD ⟨K, P, w, mg⟩ 1 sp_is_name)) (h_is_name : k_is_name ≤ k) {cdv : Value} {A : Around} {outer : List Env} {s : Shared} {H : Hp} {E : XK} {B : Bd} (hr : Rm k (A.deeper (envOfC "are_needs" (defScope s_are_needs) s.heap.objs.size T.f_are_needs cdv))) :
    DSs (cxOf (L2.CX P w) P w K mg base N_are_needs "are_needs" (defScope s_are_needs) T.f_are_needs cdv A outer s H E).nox B (defBody s_are_needs) (t_are_needs sp_is_name) :=
  dss_cons (ds_if (DW.dt (dw_or (dt_not (dt_val (de_callB (c_isi .tup) (by rfl) T.z_isinstance (by decide +kernel) (da_cons (dv 0) (da_cons (de_bty (by rfl) T.z_tuple (by decide +kernel)) da_nil))))) (dw_or1 (dt_cmp (o_gt) (de_callB (c_len) (by rfl) T.z_len (by decide +kernel) (da_cons (dv 0) (da_nil))) (de_const (by rfl) T.m_MOST_NEEDS) (nomark _))))) (dss_one (ds_ret (de_bl))) (dss_nil)) (dss_cons (ds_for PassesOwn.never rfl (di_any (dv 0)) (dg_name (i := 1) sc_are_needs.nd) (dss_cons (ds_if (DW.dt (dw_or (dt_not (dt_val (de_callB (c_isi .tup) (by rfl) T.z_isinstance (by decide +kernel) (da_cons (dv 1) (da_cons (de_bty (by rfl) T.z_tuple (by decide +kernel)) da_nil))))) (dw_or (dt_cmp (o_ne hr.units) (de_callB (c_len) (by rfl) T.z_len (by decide +kernel) (da_cons (dv 1) (da_nil))) (de_int) (nomark _)) (dw_or (dt_not (dt_val (de_call G_is_name (hr.mono (by omega)) (by rfl) T.g_is_name T.F_is_name.kp T.b_is_name (dr_cons (de_ix (o_ix (hu_of hr.toRoom)) (dv 1) (de_int)) (dr_nil))))) (dw_or1 (dt_not (dt_val (de_callB (c_isi .str) (by rfl) T.z_isinstance (by decide +kernel) (da_cons (de_ix (o_ix (hu_of hr.toRoom)) (dv 1) (de_int)) (da_cons (de_bty (by rfl) T.z_str (by decide +kernel)) da_nil)))))))))) (dss_one (ds_ret (de_bl))) (dss_nil)) (dss_one (ds_if (dt_cmp (o_nin (hu_of hr.toRoom)) (de_ix (o_ix (hu_of hr.toRoom)) (dv 1) (de_int)) (de_const (by rfl) T.m_NEED_KINDS) (by rfl)) (dss_one (ds_ret (de_bl))) (dss_nil))))) (dss_one (ds_ret (de_cmp (o_eq hr.units) (de_lenSetU rfl (by rfl) T.z_len (by rfl) T.z_set (DF.de (df_comp (own := [("one", 1)]) rfl sc_are_needs.nd (di_any (dv 0)) (blkOk_by (own := [("one", 1)]) (N := N_are_needs) (sc := defScope s_are_needs) (by decide +kernel)) (fun _ _ _ _ _ _ => dg_name (i := 1) sc_are_needs.nd) (fun _ _ _ _ _ _ => dts_nil) (fun _ _ _ _ _ _ => de_ix (o_ix (hu_of hr.toRoom)) (dv 1) (de_int))))) (de_callB (c_len) (by rfl) T.z_len (by decide +kernel) (da_cons (dv 0) (da_nil))) (nomark _)))))
abbrev K_is_most (P : Program) (w : World) (base : Heap) (T : Txt K w mg) (k : Nat) (sp : FSpec) : Prop := Fk P w K mg base k T.f_is_most T.d_is_most ["thing", "needs"] (spD ⟨K, P, w, mg⟩ 2 sp)
def t_is_most (sp_is_sum : FSpec) (sp_is_most : FSpec) : TDS := sSeq (sIf (qNot (qTest (qCall sp_is_sum 3 (rCons (qVar 0) (rCons (qVar 1) (rCons (qC (.int 0)) (rNil))))))) (sRet (qC (.bl false))) (sNext)) (sSeq (sIf (qTest (qOp eqD (qOp ixD (qVar 0) (qC (.int 0))) (qC (.str "num")))) (sRet (qOp (i2 fun i j Q => Q (.bl (decide (j ≤ i)))) (qOp ixD (qVar 0) (qC (.int 1))) (qC (.int 0)))) (sNext)) (sSeq (sIf (qTest (qOp eqD (qOp ixD (qVar 0) (qC (.int 0))) (qC (.str "full")))) (sRet (qOp eqD (qOp ixD (qOp ixD (qVar 0) (qC (.int 1))) (qC (.int 0))) (qC (.str "size")))) (sNext)) (sSeq (sIf (qTest (qOp inD (qOp ixD (qVar 0) (qC (.int 0))) (qTup (qCons (qC (.str "plus")) (qCons (qC (.str "less")) (qNil)))))) (sRet (qAndV (qCall sp_is_most 2 (rCons (qOp ixD (qVar 0) (qC (.int 1))) (rCons (qVar 1) (rNil)))) (qCall sp_is_most 2 (rCons (qOp ixD (qVar 0) (qC (.int 2))) (rCons (qVar 1) (rNil)))))) (sNext)) (sRet (qOp inD (qOp ixD (qVar 0) (qC (.int 0))) (qTup (qCons (qC (.str "need")) (qCons (qC (.str "size")) (qNil)))))))))
set_option maxHeartbeats 4000000 in
theorem d_is_most (T : Txt K w mg) {k : Nat} {k_is_sum : Nat} {sp_is_sum : FSpec} (G_is_sum : Fk P w K mg base k_is_sum T.f_is_sum T.d_is_sum ["thing", "needs", "many"] (spD ⟨K, P, w, mg⟩ 3 sp_is_sum)) (h_is_sum : k_is_sum ≤ k) {k_is_most : Nat} {sp_is_most : FSpec} (G_is_most : Fk P w K mg base k_is_most T.f_is_most T.d_is_most ["thing", "needs"] (spD ⟨K, P, w, mg⟩ 2 sp_is_most)) (h_is_most : k_is_most ≤ k) {cdv : Value} {A : Around} {outer : List Env} {s : Shared} {H : Hp} {E : XK} {B : Bd} (hr : Rm k (A.deeper (envOfC "is_most" (defScope s_is_most) s.heap.objs.size T.f_is_most cdv))) :
    DSs (cxOf (L2.CX P w) P w K mg base N_is_most "is_most" (defScope s_is_most) T.f_is_most cdv A outer s H E).nox B (defBody s_is_most) (t_is_most sp_is_sum sp_is_most) :=
  dss_cons (ds_if (dt_not (dt_val (de_call G_is_sum (hr.mono (by omega)) (by rfl) T.g_is_sum T.F_is_sum.kp T.b_is_sum (dr_cons (dv 0) (dr_cons (dv 1) (dr_cons (de_int) (dr_nil))))))) (dss_one (ds_ret (de_bl))) (dss_nil)) (dss_cons (ds_if (dt_cmp (o_eq hr.units) (de_ix (o_ix (hu_of hr.toRoom)) (dv 0) (de_int)) (de_str) (nomark _)) (dss_one (ds_ret (de_cmp (o_ge) (de_ix (o_ix (hu_of hr.toRoom)) (dv 0) (de_int)) (de_int) (nomark _)))) (dss_nil)) (dss_cons (ds_if (dt_cmp (o_eq hr.units) (de_ix (o_ix (hu_of hr.toRoom)) (dv 0) (de_int)) (de_str) (nomark _)) (dss_one (ds_ret (de_cmp (o_eq hr.units) (de_ix (o_ix (hu_of hr.toRoom)) (de_ix (o_ix (hu_of hr.toRoom)) (dv 0) (de_int)) (de_int)) (de_str) (nomark _)))) (dss_nil)) (dss_cons (ds_if (dt_cmp (o_in (hu_of hr.toRoom)) (de_ix (o_ix (hu_of hr.toRoom)) (dv 0) (de_int)) (de_tup (da_cons (de_str) (da_cons (de_str) (da_nil)))) (by rfl)) (dss_one (ds_ret (de_and (de_call G_is_most (hr.mono (by omega)) (by rfl) T.g_is_most T.F_is_most.kp T.b_is_most (dr_cons (de_ix (o_ix (hu_of hr.toRoom)) (dv 0) (de_int)) (dr_cons (dv 1) (dr_nil)))) (de_one (de_call G_is_most (hr.mono (by omega)) (by rfl) T.g_is_most T.F_is_most.kp T.b_is_most (dr_cons (de_ix (o_ix (hu_of hr.toRoom)) (dv 0) (de_int)) (dr_cons (dv 1) (dr_nil)))))))) (dss_nil)) (dss_one (ds_ret (de_cmp (o_in (hu_of hr.toRoom)) (de_ix (o_ix (hu_of hr.toRoom)) (dv 0) (de_int)) (de_tup (da_cons (de_str) (da_cons (de_str) (da_nil)))) (by rfl)))))))
def t_are_sums_1 (sp_is_sum : FSpec) : TD := qCall sp_is_sum 3 (rCons (qVar 4) (rCons (qVar 2) (rCons (qVar 3) (rNil))))
abbrev K_are_sums (P : Program) (w : World) (base : Heap) (T : Txt K w mg) (k : Nat) (sp : FSpec) : Prop := Fk P w K mg base k T.f_are_sums T.d_are_sums ["thing", "many", "needs", "own"] (spD ⟨K, P, w, mg⟩ 4 sp)
def t_are_sums (sp_is_sum : FSpec) : TDS := sRet (qAndV (qCl (isiD .tup) (qCons (qVar 0) (qCons (qC (.atm (.ty "tuple"))) qNil))) (qAndV (qOp eqD (qCl (n1 lenD) (qCons (qVar 0) (qNil))) (qVar 1)) (qCl onL_all (qCons (qFz (fComp (qIter (qVar 0)) (gN 4) (qYes) ((t_are_sums_1 sp_is_sum)) [4])) (qNil)))))
set_option maxHeartbeats 4000000 in
theorem d_are_sums (T : Txt K w mg) {k : Nat} {k_is_sum : Nat} {sp_is_sum : FSpec} (G_is_sum : Fk P w K mg base k_is_sum T.f_is_sum T.d_is_sum ["thing", "needs", "many"] (spD ⟨K, P, w, mg⟩ 3 sp_is_sum)) (h_is_sum : k_is_sum ≤ k) {cdv : Value} {A : Around} {outer : List Env} {s : Shared} {H : Hp} {E : XK} {B : Bd} (hr : Rm k (A.deeper (envOfC "are_sums" (defScope s_are_sums) s.heap.objs.size T.f_are_sums cdv))) :
    DSs (cxOf (L2.CX P w) P w K mg base N_are_sums "are_sums" (defScope s_are_sums) T.f_are_sums cdv A outer s H E).nox B (defBody s_are_sums) (t_are_sums sp_is_sum) :=
  dss_one (ds_ret (de_and (de_callB (c_isi .tup) (by rfl) T.z_isinstance (by decide +kernel) (da_cons (dv 0) (da_cons (de_bty (by rfl) T.z_tuple (by decide +kernel)) da_nil))) (de_and (de_cmp (o_eq hr.units) (de_callB (c_len) (by rfl) T.z_len (by decide +kernel) (da_cons (dv 0) (da_nil))) (dv 1) (nomark _)) (de_one (de_callB (c_all rfl) (by rfl) T.z_all (by decide +kernel) (da_cons (DF.de (df_comp (own := [("one", 4)]) rfl sc_are_sums.nd (di_any (dv 0)) (blkOk_by (own := [("one", 4)]) (N := N_are_sums) (sc := defScope s_are_sums) (by decide +kernel)) (fun _ _ _ _ _ _ => dg_name (i := 4) sc_are_sums.nd) (fun _ _ _ _ _ _ => dts_nil) (fun _ _ _ _ _ _ => de_call G_is_sum (hr.mono (by omega)) (by rfl) T.g_is_sum T.F_is_sum.kp T.b_is_sum (dr_cons (dv 4) (dr_cons (dv 2) (dr_cons (dv 3) (dr_nil))))))) (da_nil)))))))
abbrev K_is_call (P : Program) (w : World) (base : Heap) (T : Txt K w mg) (k : Nat) (sp : FSpec) : Prop := Fk P w K mg base k T.f_is_call T.d_is_call ["thing", "house", "own"] (spD ⟨K, P, w, mg⟩ 3 sp)
def t_is_call (sp_is_whole : FSpec) (sp_are_sums : FSpec) : TDS := sSeq (sAsg (qVar 1) (gTupD 2 (gConsD (gN 3) (gConsD (gN 4) (gNilD))))) (sSeq (sIf (qOr (qTest (qOp neD (qCl (n1 lenD) (qCons (qVar 0) (qNil))) (qC (.int 3)))) (qOr (qNot (qTest (qCall sp_is_whole 1 (rCons (qOp ixD (qVar 0) (qC (.int 1))) (rNil))))) (qNot (qTest (qChain (i2 fun i j Q => Q (.bl (decide (i ≤ j)))) (i2 fun i j Q => Q (.bl (decide (i < j)))) (qC (.int 0)) (qOp ixD (qVar 0) (qC (.int 1))) (qCl (n1 lenD) (qCons (qVar 4) (qNil)))))))) (sRet (qC (.bl false))) (sNext)) (sRet (qCall sp_are_sums 4 (rCons (qOp ixD (qVar 0) (qC (.int 2))) (rCons (qOp ixD (qVar 4) (qOp ixD (qVar 0) (qC (.int 1)))) (rCons (qVar 3) (rCons (qVar 2) (rNil))))))))
set_option maxHeartbeats 4000000 in
theorem d_is_call (T : Txt K w mg) {k : Nat} {k_is_whole : Nat} {sp_is_whole : FSpec} (G_is_whole : Fk P w K mg base k_is_whole T.f_is_whole T.d_is_whole ["thing"] (spD ⟨K, P, w, mg⟩ 1 sp_is_whole)) (h_is_whole : k_is_whole ≤ k) {k_are_sums : Nat} {sp_are_sums : FSpec} (G_are_sums : Fk P w K mg base k_are_sums T.f_are_sums T.d_are_sums ["thing", "many", "needs", "own"] (spD ⟨K, P, w, mg⟩ 4 sp_are_sums)) (h_are_sums : k_are_sums ≤ k) {cdv : Value} {A : Around} {outer : List Env} {s : Shared} {H : Hp} {E : XK} {B : Bd} (hr : Rm k (A.deeper (envOfC "is_call" (defScope s_is_call) s.heap.objs.size T.f_is_call cdv))) :
    DSs (cxOf (L2.CX P w) P w K mg base N_is_call "is_call" (defScope s_is_call) T.f_is_call cdv A outer s H E).nox B (defBody s_is_call) (t_is_call sp_is_whole sp_are_sums) :=
  dss_cons (ds_asg (dv 1) (dg_tup rfl (dgs_cons (dg_name (i := 3) sc_is_call.nd) (dgs_cons (dg_name (i := 4) sc_is_call.nd) (dgs_nil))))) (dss_cons (ds_if (DW.dt (dw_or (dt_cmp (o_ne hr.units) (de_callB (c_len) (by rfl) T.z_len (by decide +kernel) (da_cons (dv 0) (da_nil))) (de_int) (nomark _)) (dw_or (dt_not (dt_val (de_call G_is_whole (hr.mono (by omega)) (by rfl) T.g_is_whole T.F_is_whole.kp T.b_is_whole (dr_cons (de_ix (o_ix (hu_of hr.toRoom)) (dv 0) (de_int)) (dr_nil))))) (dw_or1 (dt_not (dt_chain (o_le) (o_lt) (de_int) (de_ix (o_ix (hu_of hr.toRoom)) (dv 0) (de_int)) (de_callB (c_len) (by rfl) T.z_len (by decide +kernel) (da_cons (dv 4) (da_nil))))))))) (dss_one (ds_ret (de_bl))) (dss_nil)) (dss_one (ds_ret (de_call G_are_sums (hr.mono (by omega)) (by rfl) T.g_are_sums T.F_are_sums.kp T.b_are_sums (dr_cons (de_ix (o_ix (hu_of hr.toRoom)) (dv 0) (de_int)) (dr_cons (de_ix (o_ix (hu_of hr.toRoom)) (dv 4) (de_ix (o_ix (hu_of hr.toRoom)) (dv 0) (de_int))) (dr_cons (dv 3) (dr_cons (dv 2) (dr_nil)))))))))
def t_is_choice_1 (sp_is_body : FSpec) : TD := qCall sp_is_body 4 (rCons (qVar 4) (rCons (qVar 1) (rCons (qVar 2) (rCons (qVar 3) (rNil)))))
abbrev K_is_choice (P : Program) (w : World) (base : Heap) (T : Txt K w mg) (k : Nat) (sp : FSpec) : Prop := Fk P w K mg base k T.f_is_choice T.d_is_choice ["thing", "house", "own", "turns"] (spD ⟨K, P, w, mg⟩ 4 sp)
def t_is_choice (sp_is_body : FSpec) : TDS := sSeq (sIf (qOr (qTest (qOp neD (qCl (n1 lenD) (qCons (qVar 0) (qNil))) (qC (.int 2)))) (qOr (qNot (qTest (qCl (isiD .tup) (qCons (qOp ixD (qVar 0) (qC (.int 1))) (qCons (qC (.atm (.ty "tuple"))) qNil))))) (qNot (qTest (qChain (i2 fun i j Q => Q (.bl (decide (i ≤ j)))) (i2 fun i j Q => Q (.bl (decide (i ≤ j)))) (qC (.int 1)) (qCl (n1 lenD) (qCons (qOp ixD (qVar 0) (qC (.int 1))) (qNil))) (qC c_MOST_CHOICES)))))) (sRet (qC (.bl false))) (sNext)) (sRet (qCl onL_all (qCons (qFz (fComp (qIter (qOp ixD (qVar 0) (qC (.int 1)))) (gN 4) (qYes) ((t_is_choice_1 sp_is_body)) [4])) (qNil))))
set_option maxHeartbeats 4000000 in
theorem d_is_choice (T : Txt K w mg) {k : Nat} {k_is_body : Nat} {sp_is_body : FSpec} (G_is_body : Fk P w K mg base k_is_body T.f_is_body T.d_is_body ["thing", "house", "own", "turns"] (spD ⟨K, P, w, mg⟩ 4 sp_is_body)) (h_is_body : k_is_body ≤ k) {cdv : Value} {A : Around} {outer : List Env} {s : Shared} {H : Hp} {E : XK} {B : Bd} (hr : Rm k (A.deeper (envOfC "is_choice" (defScope s_is_choice) s.heap.objs.size T.f_is_choice cdv))) :
    DSs (cxOf (L2.CX P w) P w K mg base N_is_choice "is_choice" (defScope s_is_choice) T.f_is_choice cdv A outer s H E).nox B (defBody s_is_choice) (t_is_choice sp_is_body) :=
  dss_cons (ds_if (DW.dt (dw_or (dt_cmp (o_ne hr.units) (de_callB (c_len) (by rfl) T.z_len (by decide +kernel) (da_cons (dv 0) (da_nil))) (de_int) (nomark _)) (dw_or (dt_not (dt_val (de_callB (c_isi .tup) (by rfl) T.z_isinstance (by decide +kernel) (da_cons (de_ix (o_ix (hu_of hr.toRoom)) (dv 0) (de_int)) (da_cons (de_bty (by rfl) T.z_tuple (by decide +kernel)) da_nil))))) (dw_or1 (dt_not (dt_chain (o_le) (o_le) (de_int) (de_callB (c_len) (by rfl) T.z_len (by decide +kernel) (da_cons (de_ix (o_ix (hu_of hr.toRoom)) (dv 0) (de_int)) (da_nil))) (de_const (by rfl) T.m_MOST_CHOICES))))))) (dss_one (ds_ret (de_bl))) (dss_nil)) (dss_one (ds_ret (de_callB (c_all rfl) (by rfl) T.z_all (by decide +kernel) (da_cons (DF.de (df_comp (own := [("one", 4)]) rfl sc_is_choice.nd (di_any (de_ix (o_ix (hu_of hr.toRoom)) (dv 0) (de_int))) (blkOk_by (own := [("one", 4)]) (N := N_is_choice) (sc := defScope s_is_choice) (by decide +kernel)) (fun _ _ _ _ _ _ => dg_name (i := 4) sc_is_choice.nd) (fun _ _ _ _ _ _ => dts_nil) (fun _ _ _ _ _ _ => de_call G_is_body (hr.mono (by omega)) (by rfl) T.g_is_body T.F_is_body.kp T.b_is_body (dr_cons (dv 4) (dr_cons (dv 1) (dr_cons (dv 2) (dr_cons (dv 3) (dr_nil)))))))) (da_nil)))))
abbrev K_is_turned (P : Program) (w : World) (base : Heap) (T : Txt K w mg) (k : Nat) (sp : FSpec) : Prop := Fk P w K mg base k T.f_is_turned T.d_is_turned ["thing", "house", "own", "turns"] (spD ⟨K, P, w, mg⟩ 4 sp)
def t_is_turned (sp_are_sums : FSpec) (sp_is_body : FSpec) : TDS := sSeq (sIf (qOr (qTest (qOp neD (qCl (n1 lenD) (qCons (qVar 0) (qNil))) (qC (.int 4)))) (qTest (qOp eqD (qVar 3) (qC c_MOST_TURNS)))) (sRet (qC (.bl false))) (sNext)) (sSeq (sIf (qNot (qTest (qCall sp_are_sums 4 (rCons (qSl slD (qVar 0) (qPart (qC (.int 1))) (qPart (qC (.int 3)))) (rCons (qC (.int 2)) (rCons (qOp ixD (qVar 1) (qC (.int 0))) (rCons (qVar 2) (rNil)))))))) (sRet (qC (.bl false))) (sNext)) (sRet (qCall sp_is_body 4 (rCons (qOp ixD (qVar 0) (qC (.int 3))) (rCons (qVar 1) (rCons (qOp addD (qVar 2) (qC (.int 1))) (rCons (qOp addD (qVar 3) (qC (.int 1))) (rNil))))))))
set_option maxHeartbeats 4000000 in
theorem d_is_turned (T : Txt K w mg) {k : Nat} {k_are_sums : Nat} {sp_are_sums : FSpec} (G_are_sums : Fk P w K mg base k_are_sums T.f_are_sums T.d_are_sums ["thing", "many", "needs", "own"] (spD ⟨K, P, w, mg⟩ 4 sp_are_sums)) (h_are_sums : k_are_sums ≤ k) {k_is_body : Nat} {sp_is_body : FSpec} (G_is_body : Fk P w K mg base k_is_body T.f_is_body T.d_is_body ["thing", "house", "own", "turns"] (spD ⟨K, P, w, mg⟩ 4 sp_is_body)) (h_is_body : k_is_body ≤ k) {cdv : Value} {A : Around} {outer : List Env} {s : Shared} {H : Hp} {E : XK} {B : Bd} (hr : Rm k (A.deeper (envOfC "is_turned" (defScope s_is_turned) s.heap.objs.size T.f_is_turned cdv))) :
    DSs (cxOf (L2.CX P w) P w K mg base N_is_turned "is_turned" (defScope s_is_turned) T.f_is_turned cdv A outer s H E).nox B (defBody s_is_turned) (t_is_turned sp_are_sums sp_is_body) :=
  dss_cons (ds_if (DW.dt (dw_or (dt_cmp (o_ne hr.units) (de_callB (c_len) (by rfl) T.z_len (by decide +kernel) (da_cons (dv 0) (da_nil))) (de_int) (nomark _)) (dw_or1 (dt_cmp (o_eq hr.units) (dv 3) (de_const (by rfl) T.m_MOST_TURNS) (nomark _))))) (dss_one (ds_ret (de_bl))) (dss_nil)) (dss_cons (ds_if (dt_not (dt_val (de_call G_are_sums (hr.mono (by omega)) (by rfl) T.g_are_sums T.F_are_sums.kp T.b_are_sums (dr_cons (de_slice o_sl (dv 0) (do_some (de_int)) (do_some (de_int))) (dr_cons (de_int) (dr_cons (de_ix (o_ix (hu_of hr.toRoom)) (dv 1) (de_int)) (dr_cons (dv 2) (dr_nil)))))))) (dss_one (ds_ret (de_bl))) (dss_nil)) (dss_one (ds_ret (de_call G_is_body (hr.mono (by omega)) (by rfl) T.g_is_body T.F_is_body.kp T.b_is_body (dr_cons (de_ix (o_ix (hu_of hr.toRoom)) (dv 0) (de_int)) (dr_cons (dv 1) (dr_cons (de_op o_add (dv 2) (de_int)) (dr_cons (de_op o_add (dv 3) (de_int)) (dr_nil)))))))))
def t_is_body_1 (sp_are_sums : FSpec) (sp_is_call : FSpec) (sp_is_choice : FSpec) (sp_is_turned : FSpec) (sp_is_body : FSpec) (sp_is_cond : FSpec) : TD := qCall sp_is_body 4 (rCons (qVar 5) (rCons (qVar 1) (rCons (qVar 2) (rCons (qVar 3) (rNil)))))
def t_is_body_2 (sp_are_sums : FSpec) (sp_is_call : FSpec) (sp_is_choice : FSpec) (sp_is_turned : FSpec) (sp_is_body : FSpec) (sp_is_cond : FSpec) : TD := qCall sp_is_body 4 (rCons (qVar 5) (rCons (qVar 1) (rCons (qVar 2) (rCons (qVar 3) (rNil)))))
abbrev K_is_body (P : Program) (w : World) (base : Heap) (T : Txt K w mg) (k : Nat) (sp : FSpec) : Prop := Fk P w K mg base k T.f_is_body T.d_is_body ["thing", "house", "own", "turns"] (spD ⟨K, P, w, mg⟩ 4 sp)
def t_is_body (sp_are_sums : FSpec) (sp_is_call : FSpec) (sp_is_choice : FSpec) (sp_is_turned : FSpec) (sp_is_body : FSpec) (sp_is_cond : FSpec) : TDS := sSeq (sIf (qOr (qNot (qTest (qCl (isiD .tup) (qCons (qVar 0) (qCons (qC (.atm (.ty "tuple"))) qNil))))) (qOr (qTest (qOp eqD (qCl (n1 lenD) (qCons (qVar 0) (qNil))) (qC (.int 0)))) (qNot (qTest (qCl (isiD .str) (qCons (qOp ixD (qVar 0) (qC (.int 0))) (qCons (qC (.atm (.ty "str"))) qNil))))))) (sRet (qC (.bl false))) (sNext)) (sSeq (sAsg (qOp ixD (qVar 0) (qC (.int 0))) (gN 4)) (sSeq (sIf (qTest (qOp eqD (qVar 4) (qC (.str "none")))) (sRet (qOp eqD (qCl (n1 lenD) (qCons (qVar 0) (qNil))) (qC (.int 1)))) (sNext)) (sSeq (sIf (qTest (qOp eqD (qVar 4) (qC (.str "gain")))) (sRet (qCall sp_are_sums 4 (rCons (qSl slD (qVar 0) (qPart (qC (.int 1))) (qNoPart)) (rCons (qC (.int 1)) (rCons (qOp ixD (qVar 1) (qC (.int 0))) (rCons (qVar 2) (rNil))))))) (sNext)) (sSeq (sIf (qTest (qOp eqD (qVar 4) (qC (.str "call")))) (sRet (qCall sp_is_call 3 (rCons (qVar 0) (rCons (qVar 1) (rCons (qVar 2) (rNil)))))) (sNext)) (sSeq (sIf (qTest (qOp eqD (qVar 4) (qC (.str "choose")))) (sRet (qCall sp_is_choice 4 (rCons (qVar 0) (rCons (qVar 1) (rCons (qVar 2) (rCons (qVar 3) (rNil))))))) (sNext)) (sSeq (sIf (qTest (qOp inD (qVar 4) (qTup (qCons (qC (.str "each")) (qCons (qC (.str "all")) (qNil)))))) (sRet (qCall sp_is_turned 4 (rCons (qVar 0) (rCons (qVar 1) (rCons (qVar 2) (rCons (qVar 3) (rNil))))))) (sNext)) (sSeq (sIf (qTest (qOp eqD (qVar 4) (qC (.str "both")))) (sRet (qAndV (qOp eqD (qCl (n1 lenD) (qCons (qVar 0) (qNil))) (qC (.int 3))) (qCl onL_all (qCons (qFz (fComp (qIter (qSl slD (qVar 0) (qPart (qC (.int 1))) (qNoPart))) (gN 5) (qYes) ((t_is_body_1 sp_are_sums sp_is_call sp_is_choice sp_is_turned sp_is_body sp_is_cond)) [5])) (qNil))))) (sNext)) (sSeq (sIf (qOr (qTest (qOp neD (qVar 4) (qC (.str "if")))) (qOr (qTest (qOp neD (qCl (n1 lenD) (qCons (qVar 0) (qNil))) (qC (.int 4)))) (qNot (qTest (qCall sp_is_cond 3 (rCons (qOp ixD (qVar 0) (qC (.int 1))) (rCons (qOp ixD (qVar 1) (qC (.int 0))) (rCons (qVar 2) (rNil))))))))) (sRet (qC (.bl false))) (sNext)) (sRet (qCl onL_all (qCons (qFz (fComp (qIter (qSl slD (qVar 0) (qPart (qC (.int 2))) (qNoPart))) (gN 5) (qYes) ((t_is_body_2 sp_are_sums sp_is_call sp_is_choice sp_is_turned sp_is_body sp_is_cond)) [5])) (qNil))))))))))))
set_option maxHeartbeats 4000000 in
theorem d_is_body (T : Txt K w mg) {k : Nat} {k_are_sums : Nat} {sp_are_sums : FSpec} (G_are_sums : Fk P w K mg base k_are_sums T.f_are_sums T.d_are_sums ["thing", "many", "needs", "own"] (spD ⟨K, P, w, mg⟩ 4 sp_are_sums)) (h_are_sums : k_are_sums ≤ k) {k_is_call : Nat} {sp_is_call : FSpec} (G_is_call : Fk P w K mg base k_is_call T.f_is_call T.d_is_call ["thing", "house", "own"] (spD ⟨K, P, w, mg⟩ 3 sp_is_call)) (h_is_call : k_is_call ≤ k) {k_is_choice : Nat} {sp_is_choice : FSpec} (G_is_choice : Fk P w K mg base k_is_choice T.f_is_choice T.d_is_choice ["thing", "house", "own", "turns"] (spD ⟨K, P, w, mg⟩ 4 sp_is_choice)) (h_is_choice : k_is_choice ≤ k) {k_is_turned : Nat} {sp_is_turned : FSpec} (G_is_turned : Fk P w K mg base k_is_turned T.f_is_turned T.d_is_turned ["thing", "house", "own", "turns"] (spD ⟨K, P, w, mg⟩ 4 sp_is_turned)) (h_is_turned : k_is_turned ≤ k) {k_is_body : Nat} {sp_is_body : FSpec} (G_is_body : Fk P w K mg base k_is_body T.f_is_body T.d_is_body ["thing", "house", "own", "turns"] (spD ⟨K, P, w, mg⟩ 4 sp_is_body)) (h_is_body : k_is_body ≤ k) {k_is_cond : Nat} {sp_is_cond : FSpec} (G_is_cond : Fk P w K mg base k_is_cond T.f_is_cond T.d_is_cond ["thing", "needs", "many"] (spD ⟨K, P, w, mg⟩ 3 sp_is_cond)) (h_is_cond : k_is_cond ≤ k) {cdv : Value} {A : Around} {outer : List Env} {s : Shared} {H : Hp} {E : XK} {B : Bd} (hr : Rm k (A.deeper (envOfC "is_body" (defScope s_is_body) s.heap.objs.size T.f_is_body cdv))) :
    DSs (cxOf (L2.CX P w) P w K mg base N_is_body "is_body" (defScope s_is_body) T.f_is_body cdv A outer s H E).nox B (defBody s_is_body) (t_is_body sp_are_sums sp_is_call sp_is_choice sp_is_turned sp_is_body sp_is_cond) :=
  dss_cons (ds_if (DW.dt (dw_or (dt_not (dt_val (de_callB (c_isi .tup) (by rfl) T.z_isinstance (by decide +kernel) (da_cons (dv 0) (da_cons (de_bty (by rfl) T.z_tuple (by decide +kernel)) da_nil))))) (dw_or (dt_cmp (o_eq hr.units) (de_callB (c_len) (by rfl) T.z_len (by decide +kernel) (da_cons (dv 0) (da_nil))) (de_int) (nomark _)) (dw_or1 (dt_not (dt_val (de_callB (c_isi .str) (by rfl) T.z_isinstance (by decide +kernel) (da_cons (de_ix (o_ix (hu_of hr.toRoom)) (dv 0) (de_int)) (da_cons (de_bty (by rfl) T.z_str (by decide +kernel)) da_nil))))))))) (dss_one (ds_ret (de_bl))) (dss_nil)) (dss_cons (ds_set (i := 4) sc_is_body.nd (de_ix (o_ix (hu_of hr.toRoom)) (dv 0) (de_int))) (dss_cons (ds_if (dt_cmp (o_eq hr.units) (dv 4) (de_str) (nomark _)) (dss_one (ds_ret (de_cmp (o_eq hr.units) (de_callB (c_len) (by rfl) T.z_len (by decide +kernel) (da_cons (dv 0) (da_nil))) (de_int) (nomark _)))) (dss_nil)) (dss_cons (ds_if (dt_cmp (o_eq hr.units) (dv 4) (de_str) (nomark _)) (dss_one (ds_ret (de_call G_are_sums (hr.mono (by omega)) (by rfl) T.g_are_sums T.F_are_sums.kp T.b_are_sums (dr_cons (de_slice o_sl (dv 0) (do_some (de_int)) (do_none)) (dr_cons (de_int) (dr_cons (de_ix (o_ix (hu_of hr.toRoom)) (dv 1) (de_int)) (dr_cons (dv 2) (dr_nil)))))))) (dss_nil)) (dss_cons (ds_if (dt_cmp (o_eq hr.units) (dv 4) (de_str) (nomark _)) (dss_one (ds_ret (de_call G_is_call (hr.mono (by omega)) (by rfl) T.g_is_call T.F_is_call.kp T.b_is_call (dr_cons (dv 0) (dr_cons (dv 1) (dr_cons (dv 2) (dr_nil))))))) (dss_nil)) (dss_cons (ds_if (dt_cmp (o_eq hr.units) (dv 4) (de_str) (nomark _)) (dss_one (ds_ret (de_call G_is_choice (hr.mono (by omega)) (by rfl) T.g_is_choice T.F_is_choice.kp T.b_is_choice (dr_cons (dv 0) (dr_cons (dv 1) (dr_cons (dv 2) (dr_cons (dv 3) (dr_nil)))))))) (dss_nil)) (dss_cons (ds_if (dt_cmp (o_in (hu_of hr.toRoom)) (dv 4) (de_tup (da_cons (de_str) (da_cons (de_str) (da_nil)))) (by rfl)) (dss_one (ds_ret (de_call G_is_turned (hr.mono (by omega)) (by rfl) T.g_is_turned T.F_is_turned.kp T.b_is_turned (dr_cons (dv 0) (dr_cons (dv 1) (dr_cons (dv 2) (dr_cons (dv 3) (dr_nil)))))))) (dss_nil)) (dss_cons (ds_if (dt_cmp (o_eq hr.units) (dv 4) (de_str) (nomark _)) (dss_one (ds_ret (de_and (de_cmp (o_eq hr.units) (de_callB (c_len) (by rfl) T.z_len (by decide +kernel) (da_cons (dv 0) (da_nil))) (de_int) (nomark _)) (de_one (de_callB (c_all rfl) (by rfl) T.z_all (by decide +kernel) (da_cons (DF.de (df_comp (own := [("one", 5)]) rfl sc_is_body.nd (di_any (de_slice o_sl (dv 0) (do_some (de_int)) (do_none))) (blkOk_by (own := [("one", 5)]) (N := N_is_body) (sc := defScope s_is_body) (by decide +kernel)) (fun _ _ _ _ _ _ => dg_name (i := 5) sc_is_body.nd) (fun _ _ _ _ _ _ => dts_nil) (fun _ _ _ _ _ _ => de_call G_is_body (hr.mono (by omega)) (by rfl) T.g_is_body T.F_is_body.kp T.b_is_body (dr_cons (dv 5) (dr_cons (dv 1) (dr_cons (dv 2) (dr_cons (dv 3) (dr_nil)))))))) (da_nil))))))) (dss_nil)) (dss_cons (ds_if (DW.dt (dw_or (dt_cmp (o_ne hr.units) (dv 4) (de_str) (nomark _)) (dw_or (dt_cmp (o_ne hr.units) (de_callB (c_len) (by rfl) T.z_len (by decide +kernel) (da_cons (dv 0) (da_nil))) (de_int) (nomark _)) (dw_or1 (dt_not (dt_val (de_call G_is_cond (hr.mono (by omega)) (by rfl) T.g_is_cond T.F_is_cond.kp T.b_is_cond (dr_cons (de_ix (o_ix (hu_of hr.toRoom)) (dv 0) (de_int)) (dr_cons (de_ix (o_ix (hu_of hr.toRoom)) (dv 1) (de_int)) (dr_cons (dv 2) (dr_nil))))))))))) (dss_one (ds_ret (de_bl))) (dss_nil)) (dss_one (ds_ret (de_callB (c_all rfl) (by rfl) T.z_all (by decide +kernel) (da_cons (DF.de (df_comp (own := [("one", 5)]) rfl sc_is_body.nd (di_any (de_slice o_sl (dv 0) (do_some (de_int)) (do_none))) (blkOk_by (own := [("one", 5)]) (N := N_is_body) (sc := defScope s_is_body) (by decide +kernel)) (fun _ _ _ _ _ _ => dg_name (i := 5) sc_is_body.nd) (fun _ _ _ _ _ _ => dts_nil) (fun _ _ _ _ _ _ => de_call G_is_body (hr.mono (by omega)) (by rfl) T.g_is_body T.F_is_body.kp T.b_is_body (dr_cons (dv 5) (dr_cons (dv 1) (dr_cons (dv 2) (dr_cons (dv 3) (dr_nil)))))))) (da_nil)))))))))))))
abbrev K_is_worded (P : Program) (w : World) (base : Heap) (T : Txt K w mg) (k : Nat) (sp : FSpec) : Prop := Fk P w K mg base k T.f_is_worded T.d_is_worded ["thing"] (spD ⟨K, P, w, mg⟩ 1 sp)
def t_is_worded : TDS := sRet (qAndV (qOp (i2 fun i j Q => Q (.bl (decide (j < i)))) (qCl (n1 lenD) (qCons (qVar 0) (qNil))) (qC (.int 0))) (qCl (isiD .str) (qCons (qOp ixD (qVar 0) (qC (.int 0))) (qCons (qC (.atm (.ty "str"))) qNil))))
set_option maxHeartbeats 4000000 in
theorem d_is_worded (T : Txt K w mg) {k : Nat}  {cdv : Value} {A : Around} {outer : List Env} {s : Shared} {H : Hp} {E : XK} {B : Bd} (hr : Rm k (A.deeper (envOfC "is_worded" (defScope s_is_worded) s.heap.objs.size T.f_is_worded cdv))) :
    DSs (cxOf (L2.CX P w) P w K mg base N_is_worded "is_worded" (defScope s_is_worded) T.f_is_worded cdv A outer s H E).nox B (defBody s_is_worded) (t_is_worded) :=
  dss_one (ds_ret (de_and (de_cmp (o_gt) (de_callB (c_len) (by rfl) T.z_len (by decide +kernel) (da_cons (dv 0) (da_nil))) (de_int) (nomark _)) (de_one (de_callB (c_isi .str) (by rfl) T.z_isinstance (by decide +kernel) (da_cons (de_ix (o_ix (hu_of hr.toRoom)) (dv 0) (de_int)) (da_cons (de_bty (by rfl) T.z_str (by decide +kernel)) da_nil))))))
def t_count_parts_1 (sp_is_worded : FSpec) (sp_count_parts : FSpec) : TD := qCall sp_count_parts 1 (rCons (qVar 1) (rNil))
abbrev K_count_parts (P : Program) (w : World) (base : Heap) (T : Txt K w mg) (k : Nat) (sp : FSpec) : Prop := Fk P w K mg base k T.f_count_parts T.d_count_parts ["thing"] (spD ⟨K, P, w, mg⟩ 1 sp)
def t_count_parts (sp_is_worded : FSpec) (sp_count_parts : FSpec) : TDS := sSeq (sIf (qNot (qTest (qCl (isiD .tup) (qCons (qVar 0) (qCons (qC (.atm (.ty "tuple"))) qNil))))) (sRet (qC (.int 0))) (sNext)) (sRet (qOp addD (qCl (n1 intD) (qCons (qCall sp_is_worded 1 (rCons (qVar 0) (rNil))) (qNil))) (qCl onL_sum (qCons (qFz (fComp (qIter (qVar 0)) (gN 1) (qYes) ((t_count_parts_1 sp_is_worded sp_count_parts)) [1])) (qNil)))))
set_option maxHeartbeats 4000000 in
theorem d_count_parts (T : Txt K w mg) {k : Nat} {k_is_worded : Nat} {sp_is_worded : FSpec} (G_is_worded : Fk P w K mg base k_is_worded T.f_is_worded T.d_is_worded ["thing"] (spD ⟨K, P, w, mg⟩ 1 sp_is_worded)) (h_is_worded : k_is_worded ≤ k) {k_count_parts : Nat} {sp_count_parts : FSpec} (G_count_parts : Fk P w K mg base k_count_parts T.f_count_parts T.d_count_parts ["thing"] (spD ⟨K, P, w, mg⟩ 1 sp_count_parts)) (h_count_parts : k_count_parts ≤ k) {cdv : Value} {A : Around} {outer : List Env} {s : Shared} {H : Hp} {E : XK} {B : Bd} (hr : Rm k (A.deeper (envOfC "count_parts" (defScope s_count_parts) s.heap.objs.size T.f_count_parts cdv))) :
    DSs (cxOf (L2.CX P w) P w K mg base N_count_parts "count_parts" (defScope s_count_parts) T.f_count_parts cdv A outer s H E).nox B (defBody s_count_parts) (t_count_parts sp_is_worded sp_count_parts) :=
  dss_cons (ds_if (dt_not (dt_val (de_callB (c_isi .tup) (by rfl) T.z_isinstance (by decide +kernel) (da_cons (dv 0) (da_cons (de_bty (by rfl) T.z_tuple (by decide +kernel)) da_nil))))) (dss_one (ds_ret (de_int))) (dss_nil)) (dss_one (ds_ret (de_op o_add (de_callTy (c_int) (by rfl) T.z_int (by decide +kernel) (da_cons (de_call G_is_worded (hr.mono (by omega)) (by rfl) T.g_is_worded T.F_is_worded.kp T.b_is_worded (dr_cons (dv 0) (dr_nil))) (da_nil))) (de_callB (c_sum rfl) (by rfl) T.z_sum (by decide +kernel) (da_cons (DF.de (df_comp (own := [("one", 1)]) rfl sc_count_parts.nd (di_any (dv 0)) (blkOk_by (own := [("one", 1)]) (N := N_count_parts) (sc := defScope s_count_parts) (by decide +kernel)) (fun _ _ _ _ _ _ => dg_name (i := 1) sc_count_parts.nd) (fun _ _ _ _ _ _ => dts_nil) (fun _ _ _ _ _ _ => de_call G_count_parts (hr.mono (by omega)) (by rfl) T.g_count_parts T.F_count_parts.kp T.b_count_parts (dr_cons (dv 1) (dr_nil))))) (da_nil))))))
def t_deepness_1 (sp_is_worded : FSpec) (sp_deepness : FSpec) : TD := qCall sp_deepness 1 (rCons (qVar 1) (rNil))
abbrev K_deepness (P : Program) (w : World) (base : Heap) (T : Txt K w mg) (k : Nat) (sp : FSpec) : Prop := Fk P w K mg base k T.f_deepness T.d_deepness ["thing"] (spD ⟨K, P, w, mg⟩ 1 sp)
def t_deepness (sp_is_worded : FSpec) (sp_deepness : FSpec) : TDS := sSeq (sIf (qNot (qTest (qCl (isiD .tup) (qCons (qVar 0) (qCons (qC (.atm (.ty "tuple"))) qNil))))) (sRet (qC (.int 0))) (sNext)) (sRet (qOp addD (qCl (n1 intD) (qCons (qCall sp_is_worded 1 (rCons (qVar 0) (rNil))) (qNil))) (qCl onL_max (qCons (qOp addD (qFz (fComp (qIter (qVar 0)) (gN 1) (qYes) ((t_deepness_1 sp_is_worded sp_deepness)) [1])) (qLst (qCons (qC (.int 0)) (qNil)))) (qNil)))))
set_option maxHeartbeats 4000000 in
theorem d_deepness (T : Txt K w mg) {k : Nat} {k_is_worded : Nat} {sp_is_worded : FSpec} (G_is_worded : Fk P w K mg base k_is_worded T.f_is_worded T.d_is_worded ["thing"] (spD ⟨K, P, w, mg⟩ 1 sp_is_worded)) (h_is_worded : k_is_worded ≤ k) {k_deepness : Nat} {sp_deepness : FSpec} (G_deepness : Fk P w K mg base k_deepness T.f_deepness T.d_deepness ["thing"] (spD ⟨K, P, w, mg⟩ 1 sp_deepness)) (h_deepness : k_deepness ≤ k) {cdv : Value} {A : Around} {outer : List Env} {s : Shared} {H : Hp} {E : XK} {B : Bd} (hr : Rm k (A.deeper (envOfC "deepness" (defScope s_deepness) s.heap.objs.size T.f_deepness cdv))) :
    DSs (cxOf (L2.CX P w) P w K mg base N_deepness "deepness" (defScope s_deepness) T.f_deepness cdv A outer s H E).nox B (defBody s_deepness) (t_deepness sp_is_worded sp_deepness) :=
  dss_cons (ds_if (dt_not (dt_val (de_callB (c_isi .tup) (by rfl) T.z_isinstance (by decide +kernel) (da_cons (dv 0) (da_cons (de_bty (by rfl) T.z_tuple (by decide +kernel)) da_nil))))) (dss_one (ds_ret (de_int))) (dss_nil)) (dss_one (ds_ret (de_op o_add (de_callTy (c_int) (by rfl) T.z_int (by decide +kernel) (da_cons (de_call G_is_worded (hr.mono (by omega)) (by rfl) T.g_is_worded T.F_is_worded.kp T.b_is_worded (dr_cons (dv 0) (dr_nil))) (da_nil))) (de_callB (c_max rfl) (by rfl) T.z_max (by decide +kernel) (da_cons (de_op o_add (DF.de (df_comp (own := [("one", 1)]) rfl sc_deepness.nd (di_any (dv 0)) (blkOk_by (own := [("one", 1)]) (N := N_deepness) (sc := defScope s_deepness) (by decide +kernel)) (fun _ _ _ _ _ _ => dg_name (i := 1) sc_deepness.nd) (fun _ _ _ _ _ _ => dts_nil) (fun _ _ _ _ _ _ => de_call G_deepness (hr.mono (by omega)) (by rfl) T.g_deepness T.F_deepness.kp T.b_deepness (dr_cons (dv 1) (dr_nil))))) (de_lst (da_cons (de_int) (da_nil)))) (da_nil))))))
def t_is_head_1 (sp_is_name : FSpec) (sp_kind_of : FSpec) (sp_is_most : FSpec) (sp_count_parts : FSpec) : TD := qAndV (qCall sp_is_most 2 (rCons (qVar 2) (rCons (qVar 1) (rNil)))) (qOp (i2 fun i j Q => Q (.bl (decide (i ≤ j)))) (qCall sp_count_parts 1 (rCons (qVar 2) (rNil))) (qC c_MOST_MOST))
abbrev K_is_head (P : Program) (w : World) (base : Heap) (T : Txt K w mg) (k : Nat) (sp : FSpec) : Prop := Fk P w K mg base k T.f_is_head T.d_is_head ["thing", "needs"] (spD ⟨K, P, w, mg⟩ 2 sp)
def t_is_head (sp_is_name : FSpec) (sp_kind_of : FSpec) (sp_is_most : FSpec) (sp_count_parts : FSpec) : TDS := sSeq (sIf (qOr (qNot (qTest (qCl (isiD .tup) (qCons (qVar 0) (qCons (qC (.atm (.ty "tuple"))) qNil))))) (qOr (qTest (qOp neD (qCl (n1 lenD) (qCons (qVar 0) (qNil))) (qC (.int 3)))) (qOr (qNot (qTest (qCall sp_is_name 1 (rCons (qOp ixD (qVar 0) (qC (.int 0))) (rNil))))) (qTest (qOp neD (qCall sp_kind_of 2 (rCons (qVar 1) (rCons (qOp ixD (qVar 0) (qC (.int 0))) (rNil)))) (qC (.str ""))))))) (sRet (qC (.bl false))) (sNext)) (sSeq (sIf (qOr (qNot (qTest (qCl (isiD .tup) (qCons (qOp ixD (qVar 0) (qC (.int 1))) (qCons (qC (.atm (.ty "tuple"))) qNil))))) (qNot (qTest (qChain (i2 fun i j Q => Q (.bl (decide (i ≤ j)))) (i2 fun i j Q => Q (.bl (decide (i ≤ j)))) (qC (.int 1)) (qCl (n1 lenD) (qCons (qOp ixD (qVar 0) (qC (.int 1))) (qNil))) (qC c_MOST_PLACES))))) (sRet (qC (.bl false))) (sNext)) (sRet (qCl onL_all (qCons (qFz (fComp (qIter (qOp ixD (qVar 0) (qC (.int 1)))) (gN 2) (qYes) ((t_is_head_1 sp_is_name sp_kind_of sp_is_most sp_count_parts)) [2])) (qNil)))))
set_option maxHeartbeats 4000000 in
theorem d_is_head (T : Txt K w mg) {k : Nat} {k_is_name : Nat} {sp_is_name : FSpec} (G_is_name : Fk P w K mg base k_is_name T.f_is_name T.d_is_name ["thing"] (spD ⟨K, P, w, mg⟩ 1 sp_is_name)) (h_is_name : k_is_name ≤ k) {k_kind_of : Nat} {sp_kind_of : FSpec} (G_kind_of : Fk P w K mg base k_kind_of T.f_kind_of T.d_kind_of ["needs", "name"] (spD ⟨K, P, w, mg⟩ 2 sp_kind_of)) (h_kind_of : k_kind_of ≤ k) {k_is_most : Nat} {sp_is_most : FSpec} (G_is_most : Fk P w K mg base k_is_most T.f_is_most T.d_is_most ["thing", "needs"] (spD ⟨K, P, w, mg⟩ 2 sp_is_most)) (h_is_most : k_is_most ≤ k) {k_count_parts : Nat} {sp_count_parts : FSpec} (G_count_parts : Fk P w K mg base k_count_parts T.f_count_parts T.d_count_parts ["thing"] (spD ⟨K, P, w, mg⟩ 1 sp_count_parts)) (h_count_parts : k_count_parts ≤ k) {cdv : Value} {A : Around} {outer : List Env} {s : Shared} {H : Hp} {E : XK} {B : Bd} (hr : Rm k (A.deeper (envOfC "is_head" (defScope s_is_head) s.heap.objs.size T.f_is_head cdv))) :
    DSs (cxOf (L2.CX P w) P w K mg base N_is_head "is_head" (defScope s_is_head) T.f_is_head cdv A outer s H E).nox B (defBody s_is_head) (t_is_head sp_is_name sp_kind_of sp_is_most sp_count_parts) :=
  dss_cons (ds_if (DW.dt (dw_or (dt_not (dt_val (de_callB (c_isi .tup) (by rfl) T.z_isinstance (by decide +kernel) (da_cons (dv 0) (da_cons (de_bty (by rfl) T.z_tuple (by decide +kernel)) da_nil))))) (dw_or (dt_cmp (o_ne hr.units) (de_callB (c_len) (by rfl) T.z_len (by decide +kernel) (da_cons (dv 0) (da_nil))) (de_int) (nomark _)) (dw_or (dt_not (dt_val (de_call G_is_name (hr.mono (by omega)) (by rfl) T.g_is_name T.F_is_name.kp T.b_is_name (dr_cons (de_ix (o_ix (hu_of hr.toRoom)) (dv 0) (de_int)) (dr_nil))))) (dw_or1 (dt_cmp (o_ne hr.units) (de_call G_kind_of (hr.mono (by omega)) (by rfl) T.g_kind_of T.F_kind_of.kp T.b_kind_of (dr_cons (dv 1) (dr_cons (de_ix (o_ix (hu_of hr.toRoom)) (dv 0) (de_int)) (dr_nil)))) (de_str) (nomark _))))))) (dss_one (ds_ret (de_bl))) (dss_nil)) (dss_cons (ds_if (DW.dt (dw_or (dt_not (dt_val (de_callB (c_isi .tup) (by rfl) T.z_isinstance (by decide +kernel) (da_cons (de_ix (o_ix (hu_of hr.toRoom)) (dv 0) (de_int)) (da_cons (de_bty (by rfl) T.z_tuple (by decide +kernel)) da_nil))))) (dw_or1 (dt_not (dt_chain (o_le) (o_le) (de_int) (de_callB (c_len) (by rfl) T.z_len (by decide +kernel) (da_cons (de_ix (o_ix (hu_of hr.toRoom)) (dv 0) (de_int)) (da_nil))) (de_const (by rfl) T.m_MOST_PLACES)))))) (dss_one (ds_ret (de_bl))) (dss_nil)) (dss_one (ds_ret (de_callB (c_all rfl) (by rfl) T.z_all (by decide +kernel) (da_cons (DF.de (df_comp (own := [("one", 2)]) rfl sc_is_head.nd (di_any (de_ix (o_ix (hu_of hr.toRoom)) (dv 0) (de_int))) (blkOk_by (own := [("one", 2)]) (N := N_is_head) (sc := defScope s_is_head) (by decide +kernel)) (fun _ _ _ _ _ _ => dg_name (i := 2) sc_is_head.nd) (fun _ _ _ _ _ _ => dts_nil) (fun _ _ _ _ _ _ => de_and (de_call G_is_most (hr.mono (by omega)) (by rfl) T.g_is_most T.F_is_most.kp T.b_is_most (dr_cons (dv 2) (dr_cons (dv 1) (dr_nil)))) (de_one (de_cmp (o_le) (de_call G_count_parts (hr.mono (by omega)) (by rfl) T.g_count_parts T.F_count_parts.kp T.b_count_parts (dr_cons (dv 2) (dr_nil))) (de_const (by rfl) T.m_MOST_MOST) (nomark _)))))) (da_nil))))))
def t_are_functions_1 (sp_is_head : FSpec) (sp_is_body : FSpec) (sp_count_parts : FSpec) (sp_deepness : FSpec) : TD := qCall sp_is_head 2 (rCons (qVar 6) (rCons (qVar 1) (rNil)))
def t_are_functions_2 (sp_is_head : FSpec) (sp_is_body : FSpec) (sp_count_parts : FSpec) (sp_deepness : FSpec) : TD := qOp ixD (qVar 6) (qC (.int 0))
def t_are_functions_3 (sp_is_head : FSpec) (sp_is_body : FSpec) (sp_count_parts : FSpec) (sp_deepness : FSpec) : TD := qCl (n1 lenD) (qCons (qOp ixD (qVar 6) (qC (.int 1))) (qNil))
def t_are_functions_4 (sp_is_head : FSpec) (sp_is_body : FSpec) (sp_count_parts : FSpec) (sp_deepness : FSpec) : TDS := sIf (qOr (qNot (qTest (qCall sp_is_body 4 (rCons (qVar 5) (rCons (qVar 2) (rCons (qCl (n1 lenD) (qCons (qVar 4) (qNil))) (rCons (qC (.int 0)) (rNil)))))))) (qOr (qTest (qOp (i2 fun i j Q => Q (.bl (decide (j < i)))) (qCall sp_count_parts 1 (rCons (qVar 5) (rNil))) (qC c_MOST_PARTS))) (qTest (qOp (i2 fun i j Q => Q (.bl (decide (j < i)))) (qCall sp_deepness 1 (rCons (qVar 5) (rNil))) (qC c_MOST_DEEP))))) (sRet (qC (.bl false))) (sNext)
abbrev K_are_functions (P : Program) (w : World) (base : Heap) (T : Txt K w mg) (k : Nat) (sp : FSpec) : Prop := Fk P w K mg base k T.f_are_functions T.d_are_functions ["thing", "needs"] (spD ⟨K, P, w, mg⟩ 2 sp)
def t_are_functions (sp_is_head : FSpec) (sp_is_body : FSpec) (sp_count_parts : FSpec) (sp_deepness : FSpec) : TDS := sSeq (sIf (qOr (qNot (qTest (qCl (isiD .tup) (qCons (qVar 0) (qCons (qC (.atm (.ty "tuple"))) qNil))))) (qNot (qTest (qChain (i2 fun i j Q => Q (.bl (decide (i ≤ j)))) (i2 fun i j Q => Q (.bl (decide (i ≤ j)))) (qC (.int 1)) (qCl (n1 lenD) (qCons (qVar 0) (qNil))) (qC c_MOST_FUNCTIONS))))) (sRet (qC (.bl false))) (sNext)) (sSeq (sIf (qOr (qNot (qTest (qCl onL_all (qCons (qFz (fComp (qIter (qVar 0)) (gN 6) (qYes) ((t_are_functions_1 sp_is_head sp_is_body sp_count_parts sp_deepness)) [6])) (qNil))))) (qTest (qOp neD (qLenSetU (qFz (fComp (qIter (qVar 0)) (gN 6) (qYes) ((t_are_functions_2 sp_is_head sp_is_body sp_count_parts sp_deepness)) [6]))) (qCl (n1 lenD) (qCons (qVar 0) (qNil)))))) (sRet (qC (.bl false))) (sNext)) (sSeq (sAsg (qTup (qCons (qVar 1) (qCons (qFz (fComp (qIter (qVar 0)) (gN 6) (qYes) ((t_are_functions_3 sp_is_head sp_is_body sp_count_parts sp_deepness)) [6])) (qNil)))) (gN 2)) (sSeq (sFor (qIter (qVar 0)) (gTupD 3 (gConsD (gN 3) (gConsD (gN 4) (gConsD (gN 5) (gNilD))))) ((t_are_functions_4 sp_is_head sp_is_body sp_count_parts sp_deepness))) (sRet (qC (.bl true))))))
set_option maxHeartbeats 4000000 in
theorem d_are_functions (T : Txt K w mg) {k : Nat} {k_is_head : Nat} {sp_is_head : FSpec} (G_is_head : Fk P w K mg base k_is_head T.f_is_head T.d_is_head ["thing", "needs"] (spD ⟨K, P, w, mg⟩ 2 sp_is_head)) (h_is_head : k_is_head ≤ k) {k_is_body : Nat} {sp_is_body : FSpec} (G_is_body : Fk P w K mg base k_is_body T.f_is_body T.d_is_body ["thing", "house", "own", "turns"] (spD ⟨K, P, w, mg⟩ 4 sp_is_body)) (h_is_body : k_is_body ≤ k) {k_count_parts : Nat} {sp_count_parts : FSpec} (G_count_parts : Fk P w K mg base k_count_parts T.f_count_parts T.d_count_parts ["thing"] (spD ⟨K, P, w, mg⟩ 1 sp_count_parts)) (h_count_parts : k_count_parts ≤ k) {k_deepness : Nat} {sp_deepness : FSpec} (G_deepness : Fk P w K mg base k_deepness T.f_deepness T.d_deepness ["thing"] (spD ⟨K, P, w, mg⟩ 1 sp_deepness)) (h_deepness : k_deepness ≤ k) {cdv : Value} {A : Around} {outer : List Env} {s : Shared} {H : Hp} {E : XK} {B : Bd} (hr : Rm k (A.deeper (envOfC "are_functions" (defScope s_are_functions) s.heap.objs.size T.f_are_functions cdv))) :
    DSs (cxOf (L2.CX P w) P w K mg base N_are_functions "are_functions" (defScope s_are_functions) T.f_are_functions cdv A outer s H E).nox B (defBody s_are_functions) (t_are_functions sp_is_head sp_is_body sp_count_parts sp_deepness) :=
  dss_cons (ds_if (DW.dt (dw_or (dt_not (dt_val (de_callB (c_isi .tup) (by rfl) T.z_isinstance (by decide +kernel) (da_cons (dv 0) (da_cons (de_bty (by rfl) T.z_tuple (by decide +kernel)) da_nil))))) (dw_or1 (dt_not (dt_chain (o_le) (o_le) (de_int) (de_callB (c_len) (by rfl) T.z_len (by decide +kernel) (da_cons (dv 0) (da_nil))) (de_const (by rfl) T.m_MOST_FUNCTIONS)))))) (dss_one (ds_ret (de_bl))) (dss_nil)) (dss_cons (ds_if (DW.dt (dw_or (dt_not (dt_val (de_callB (c_all rfl) (by rfl) T.z_all (by decide +kernel) (da_cons (DF.de (df_comp (own := [("one", 6)]) rfl sc_are_functions.nd (di_any (dv 0)) (blkOk_by (own := [("one", 6)]) (N := N_are_functions) (sc := defScope s_are_functions) (by decide +kernel)) (fun _ _ _ _ _ _ => dg_name (i := 6) sc_are_functions.nd) (fun _ _ _ _ _ _ => dts_nil) (fun _ _ _ _ _ _ => de_call G_is_head (hr.mono (by omega)) (by rfl) T.g_is_head T.F_is_head.kp T.b_is_head (dr_cons (dv 6) (dr_cons (dv 1) (dr_nil)))))) (da_nil))))) (dw_or1 (dt_cmp (o_ne hr.units) (de_lenSetU rfl (by rfl) T.z_len (by rfl) T.z_set (DF.de (df_comp (own := [("one", 6)]) rfl sc_are_functions.nd (di_any (dv 0)) (blkOk_by (own := [("one", 6)]) (N := N_are_functions) (sc := defScope s_are_functions) (by decide +kernel)) (fun _ _ _ _ _ _ => dg_name (i := 6) sc_are_functions.nd) (fun _ _ _ _ _ _ => dts_nil) (fun _ _ _ _ _ _ => de_ix (o_ix (hu_of hr.toRoom)) (dv 6) (de_int))))) (de_callB (c_len) (by rfl) T.z_len (by decide +kernel) (da_cons (dv 0) (da_nil))) (nomark _))))) (dss_one (ds_ret (de_bl))) (dss_nil)) (dss_cons (ds_set (i := 2) sc_are_functions.nd (de_tup (da_cons (dv 1) (da_cons (DF.de (df_comp (own := [("one", 6)]) rfl sc_are_functions.nd (di_any (dv 0)) (blkOk_by (own := [("one", 6)]) (N := N_are_functions) (sc := defScope s_are_functions) (by decide +kernel)) (fun _ _ _ _ _ _ => dg_name (i := 6) sc_are_functions.nd) (fun _ _ _ _ _ _ => dts_nil) (fun _ _ _ _ _ _ => de_callB (c_len) (by rfl) T.z_len (by decide +kernel) (da_cons (de_ix (o_ix (hu_of hr.toRoom)) (dv 6) (de_int)) (da_nil))))) (da_nil))))) (dss_cons (ds_for PassesOwn.never rfl (di_any (dv 0)) (dg_tup rfl (dgs_cons (dg_name (i := 3) sc_are_functions.nd) (dgs_cons (dg_name (i := 4) sc_are_functions.nd) (dgs_cons (dg_name (i := 5) sc_are_functions.nd) (dgs_nil))))) (dss_one (ds_if (DW.dt (dw_or (dt_not (dt_val (de_call G_is_body (hr.mono (by omega)) (by rfl) T.g_is_body T.F_is_body.kp T.b_is_body (dr_cons (dv 5) (dr_cons (dv 2) (dr_cons (de_callB (c_len) (by rfl) T.z_len (by decide +kernel) (da_cons (dv 4) (da_nil))) (dr_cons (de_int) (dr_nil)))))))) (dw_or (dt_cmp (o_gt) (de_call G_count_parts (hr.mono (by omega)) (by rfl) T.g_count_parts T.F_count_parts.kp T.b_count_parts (dr_cons (dv 5) (dr_nil))) (de_const (by rfl) T.m_MOST_PARTS) (nomark _)) (dw_or1 (dt_cmp (o_gt) (de_call G_deepness (hr.mono (by omega)) (by rfl) T.g_deepness T.F_deepness.kp T.b_deepness (dr_cons (dv 5) (dr_nil))) (de_const (by rfl) T.m_MOST_DEEP) (nomark _)))))) (dss_one (ds_ret (de_bl))) (dss_nil)))) (dss_one (ds_ret (de_bl))))))
abbrev K_program_of (P : Program) (w : World) (base : Heap) (T : Txt K w mg) (k : Nat) (sp : FSpecX) : Prop := Fk P w K mg base k T.f_program_of T.d_program_of ["needs", "functions"] (spX ⟨K, P, w, mg⟩ 2 sp)
def t_program_of (sp_are_needs : FSpec) (sp_are_functions : FSpec) (xq : XQ) : TDS := sSeq (sIf (qOr (qNot (qTest (qCall sp_are_needs 1 (rCons (qVar 0) (rNil))))) (qNot (qTest (qCall sp_are_functions 2 (rCons (qVar 1) (rCons (qVar 0) (rNil))))))) (sRaise xq ⟨"NoProgram", []⟩) (sNext)) (sRet (qTup (qCons (qVar 0) (qCons (qVar 1) (qNil)))))
set_option maxHeartbeats 4000000 in
theorem d_program_of (T : Txt K w mg) {k : Nat} {k_are_needs : Nat} {sp_are_needs : FSpec} (G_are_needs : Fk P w K mg base k_are_needs T.f_are_needs T.d_are_needs ["thing"] (spD ⟨K, P, w, mg⟩ 1 sp_are_needs)) (h_are_needs : k_are_needs ≤ k) {k_are_functions : Nat} {sp_are_functions : FSpec} (G_are_functions : Fk P w K mg base k_are_functions T.f_are_functions T.d_are_functions ["thing", "needs"] (spD ⟨K, P, w, mg⟩ 2 sp_are_functions)) (h_are_functions : k_are_functions ≤ k) {cdv : Value} {A : Around} {outer : List Env} {s : Shared} {H : Hp} {E : XK} {B : Bd} {xq : XQ} (hr : Rm k (A.deeper (envOfC "program_of" (defScope s_program_of) s.heap.objs.size T.f_program_of cdv))) (xt : XT (cxOf (L2.CX P w) P w K mg base N_program_of "program_of" (defScope s_program_of) T.f_program_of cdv A outer s H E) B xq) (pw : ∀ X, X = cxOf (L2.CX P w) P w K mg base N_program_of "program_of" (defScope s_program_of) T.f_program_of cdv A outer s H E → PassesOwn (model X.prog X.w) X.A X.env X.xe) :
    DSs (cxOf (L2.CX P w) P w K mg base N_program_of "program_of" (defScope s_program_of) T.f_program_of cdv A outer s H E) B (defBody s_program_of) (t_program_of sp_are_needs sp_are_functions xq) :=
  dss_cons (ds_if (DW.dt (dw_or (dt_not (dt_val (de_call G_are_needs (hr.mono (by omega)) (by rfl) T.g_are_needs T.F_are_needs.kp T.b_are_needs (dr_cons (dv 0) (dr_nil))))) (dw_or1 (dt_not (dt_val (de_call G_are_functions (hr.mono (by omega)) (by rfl) T.g_are_functions T.F_are_functions.kp T.b_are_functions (dr_cons (dv 1) (dr_cons (dv 0) (dr_nil))))))))) (dss_one (ds_raise rfl xt T.xc_NoProgram T.gx_NoProgram (by rfl))) (dss_nil)) (dss_one (ds_ret (de_tup (da_cons (dv 0) (da_cons (dv 1) (da_nil))))))
abbrev K_l_pen (P : Program) (w : World) (base : Heap) (T : Txt K w mg) (k : Nat) (sp : FSpecO) : Prop := Fk P w K mg base k T.f_l_pen T.d_l_pen ["_law_script"] (spO ⟨K, P, w, mg⟩ 1 sp)
def t_l_pen : TDS := sRetO (fLst (qCons (qVar 0) (qCons (qC (.int 0)) (qCons (qC (.int 0)) (qNil)))))
set_option maxHeartbeats 4000000 in
theorem d_l_pen (T : Txt K w mg) {k : Nat}  {cdv : Value} {A : Around} {outer : List Env} {s : Shared} {H : Hp} {E : XK} {B : Bd} (hr : Rm k (A.deeper (envOfC "_law_pen" (defScope s_l_pen) s.heap.objs.size T.f_l_pen cdv))) :
    DSs (cxOf (L2.CX P w) P w K mg base N_l_pen "_law_pen" (defScope s_l_pen) T.f_l_pen cdv A outer s H E).nox B (defBody s_l_pen) (t_l_pen) :=
  dss_one (ds_retO (df_lst (da_cons (dv 0) (da_cons (de_int) (da_cons (de_int) (da_nil))))))
abbrev K_l_take (P : Program) (w : World) (base : Heap) (T : Txt K w mg) (k : Nat) (sp : FSpec) : Prop := Fk P w K mg base k T.f_l_take T.d_l_take ["_law_pen_here", "_law_many"] (spD ⟨K, P, w, mg⟩ 2 sp)
def t_l_take : TDS := sOp 0 (sSeq (sUnpO 0 3 (gConsD (gN 2) (gConsD (gN 3) (gConsD (gN 4) (gNilD))))) (sSeq (sIf (qTest (qOp eqD (qVar 4) (qC (.int 0)))) (sSeq (sSetL 0 (qOp addD (qVar 3) (qC (.int 1))) (qC (.int 1))) (sSeq (sAsg (qC (.int 0)) (gN 5)) (sSeq (sIf (qTest (qOp (i2 fun i j Q => Q (.bl (decide (j < i)))) (qCl (n1 lenD) (qCons (qVar 2) (qNil))) (qC (.int 0)))) (sAsg (qCl (n1 absD) (qCons (qOp ixD (qVar 2) (qOp (i2 fun i j Q => 0 < j ∧ Q (.int (i % j))) (qVar 3) (qCl (n1 lenD) (qCons (qVar 2) (qNil))))) (qNil))) (gN 5)) (sNext)) (sSeq (sIf (qOr (qTest (qOp (i2 fun i j Q => Q (.bl (decide (j ≤ i)))) (qVar 3) (qCl (n1 lenD) (qCons (qVar 2) (qNil))))) (qTest (qOp (i2 fun i j Q => Q (.bl (decide (i < j)))) (qVar 5) (qOp (i2 fun i j Q => CPow i j ∧ Q (.int (i ^ j.toNat))) (qC (.int 10)) (qC (.int 18)))))) (sSeq (sAsg (qOp (i2 fun i j Q => 0 < j ∧ Q (.int (i % j))) (qOp mulD (qOp addD (qOp addD (qOp (i2 fun i j Q => 0 < j ∧ Q (.int (i % j))) (qVar 5) (qC (.int 2147483587))) (qOp mulD (qC (.int 50021)) (qVar 3))) (qC (.int 7))) (qC (.int 48271))) (qC (.int 2147483647))) (gN 6)) (sSeq (sAsg (qOp (i2 fun i j Q => 0 < j ∧ Q (.int (i % j))) (qOp addD (qOp addD (qOp mulD (qVar 6) (qVar 6)) (qOp mulD (qC (.int 30011)) (qVar 6))) (qVar 3)) (qC (.int 2147483629))) (gN 6)) (sRet (qOp (i2 fun i j Q => 0 < j ∧ Q (.int (i % j))) (qOp (i2 fun i j Q => CDv i j ∧ Q (.int (i / j))) (qOp (i2 fun i j Q => 0 < j ∧ Q (.int (i % j))) (qOp mulD (qVar 6) (qOp addD (qOp (i2 fun i j Q => 0 < j ∧ Q (.int (i % j))) (qVar 6) (qC (.int 65521))) (qC (.int 11)))) (qC (.int 2147483563))) (qC (.int 5))) (qVar 1))))) (sNext)) (sAsg (qVar 5) (gN 4)))))) (sNext)) (sSeq (sSetL 0 (qOp (i2 fun i j Q => CDv i j ∧ Q (.int (i / j))) (qVar 4) (qVar 1)) (qC (.int 2))) (sRet (qOp (i2 fun i j Q => 0 < j ∧ Q (.int (i % j))) (qVar 4) (qVar 1))))))
set_option maxHeartbeats 4000000 in
theorem d_l_take (T : Txt K w mg) {k : Nat}  {cdv : Value} {A : Around} {outer : List Env} {s : Shared} {H : Hp} {E : XK} {B : Bd} (hr : Rm k (A.deeper (envOfC "_law_take" (defScope s_l_take) s.heap.objs.size T.f_l_take cdv))) :
    DSs (cxOf (L2.CX P w) P w K mg base N_l_take "_law_take" (defScope s_l_take) T.f_l_take cdv A outer s H E).nox B (defBody s_l_take) (t_l_take) :=
  dss_op 0 (dss_cons (ds_unpO (i := 0) rfl (pv 0) (dgs_cons (dg_name (i := 2) sc_l_take.nd) (dgs_cons (dg_name (i := 3) sc_l_take.nd) (dgs_cons (dg_name (i := 4) sc_l_take.nd) (dgs_nil))))) (dss_cons (ds_if (dt_cmp (o_eq hr.units) (dv 4) (de_int) (nomark _)) (dss_cons (ds_setL (i := 0) (de_op o_add (dv 3) (de_int)) (pg_sub (pv 0) (DE.pe (de_int)) set_list)) (dss_cons (ds_set (i := 5) sc_l_take.nd (de_int)) (dss_cons (ds_if (dt_cmp (o_gt) (de_callB (c_len) (by rfl) T.z_len (by decide +kernel) (da_cons (dv 2) (da_nil))) (de_int) (nomark _)) (dss_one (ds_set (i := 5) sc_l_take.nd (de_callB (c_abs) (by rfl) T.z_abs (by decide +kernel) (da_cons (de_ix (o_ix (hu_of hr.toRoom)) (dv 2) (de_op o_mod (dv 3) (de_callB (c_len) (by rfl) T.z_len (by decide +kernel) (da_cons (dv 2) (da_nil))))) (da_nil))))) (dss_nil)) (dss_cons (ds_if (DW.dt (dw_or (dt_cmp (o_ge) (dv 3) (de_callB (c_len) (by rfl) T.z_len (by decide +kernel) (da_cons (dv 2) (da_nil))) (nomark _)) (dw_or1 (dt_cmp (o_lt) (dv 5) (de_op o_pow (de_int) (de_int)) (nomark _))))) (dss_cons (ds_set (i := 6) sc_l_take.nd (de_op o_mod (de_op o_mul (de_op o_add (de_op o_add (de_op o_mod (dv 5) (de_int)) (de_op o_mul (de_int) (dv 3))) (de_int)) (de_int)) (de_int))) (dss_cons (ds_set (i := 6) sc_l_take.nd (de_op o_mod (de_op o_add (de_op o_add (de_op o_mul (dv 6) (dv 6)) (de_op o_mul (de_int) (dv 6))) (dv 3)) (de_int))) (dss_one (ds_ret (de_op o_mod (de_op o_fdiv (de_op o_mod (de_op o_mul (dv 6) (de_op o_add (de_op o_mod (dv 6) (de_int)) (de_int))) (de_int)) (de_int)) (dv 1)))))) (dss_nil)) (dss_one (ds_set (i := 4) sc_l_take.nd (dv 5))))))) (dss_nil)) (dss_cons (ds_setL (i := 0) (de_op o_fdiv (dv 4) (dv 1)) (pg_sub (pv 0) (DE.pe (de_int)) set_list)) (dss_one (ds_ret (de_op o_mod (dv 4) (dv 1)))))))
abbrev K_l_told (P : Program) (w : World) (base : Heap) (T : Txt K w mg) (k : Nat) (sp : FSpec) : Prop := Fk P w K mg base k T.f_l_told T.d_l_told ["_law_needs_here", "_law_rows_here"] (spD ⟨K, P, w, mg⟩ 2 sp)
def t_l_told (sp_program_of : FSpecX) : TDS := sSeq (sAsg (qC .non) (gN 2)) (sSeq (sTryK xtab (fun xq1 => sDrop (qCallX sp_program_of 2 xq1 (rCons (qVar 0) (rCons (qVar 1) (rNil))))) "RoomError" 3 2 noX) (sSeq (sIf (qIsNonV 2) (sRet (qC (.str "made"))) (sNext)) (sSeq (sIf (qTest (qIsX kitab 2 [.own "NoBack", .own "NoCell", .own "NoGiven", .own "NoName", .own "NoRoad", .own "NoRow", .own "NoRule", .own "NoText", .own "NoTurn", .own "Ring", .own "TooGreat"])) (sRet (qC (.str "other"))) (sNext)) (sSeq (sIf (qAnd (qTest (qIsX kitab 2 [.own "NoProgram"])) (qAnd (qTest (qIsX kitab 2 [.bt "ValueError"])) (qNot (qTest (qIsX kitab 2 [.own "TooLong"]))))) (sRet (qC (.str "refused"))) (sNext)) (sRet (qC (.str "other")))))))
set_option maxHeartbeats 4000000 in
theorem d_l_told (T : Txt K w mg) {k : Nat} {k_program_of : Nat} {sp_program_of : FSpecX} (G_program_of : Fk P w K mg base k_program_of T.f_program_of T.d_program_of ["needs", "functions"] (spX ⟨K, P, w, mg⟩ 2 sp_program_of)) (h_program_of : k_program_of ≤ k) {cdv : Value} {A : Around} {outer : List Env} {s : Shared} {H : Hp} {E : XK} {B : Bd} (hr : Rm k (A.deeper (envOfC "_law_told" (defScope s_l_told) s.heap.objs.size T.f_l_told cdv))) :
    DSs (cxOf (L2.CX P w) P w K mg base N_l_told "_law_told" (defScope s_l_told) T.f_l_told cdv A outer s H E).nox B (defBody s_l_told) (t_l_told sp_program_of) :=
  dss_cons (ds_set (i := 2) sc_l_told.nd (de_non)) (dss_cons (ds_tryK (i := 3) (j := 2) rfl rfl rfl sc_l_told.nd (by decide) rfl rfl (by rfl) T.gx_RoomError xt0 T.xt (fun a pn => ps_set (i := 2) sc_l_told.nd rfl (.inl rfl) (pv 3)) (fun pn xe B xq1 xt1 pw1 => dss_one (ds_expr (de_callX xt1 G_program_of (hr.mono (by omega)) (by rfl) T.g_program_of T.F_program_of.kp T.b_program_of (dr_cons (dv 0) (dr_cons (dv 1) (dr_nil))))))) (dss_cons (ds_if (dt_isNonV (i := 2) (pv 2)) (dss_one (ds_ret (de_str))) (dss_nil)) (dss_cons (ds_if (dt_val (de_isXs (i := 2) T.ki (by decide) (by rfl) T.z_isinstance (pv 2) (.cons (c := .own "NoBack") (pe_glob (v := .ref T.X_NoBack) (by rfl) T.gx_NoBack rfl) (⟨_, T.gx_NoBack, rfl⟩) (.cons (c := .own "NoCell") (pe_glob (v := .ref T.X_NoCell) (by rfl) T.gx_NoCell rfl) (⟨_, T.gx_NoCell, rfl⟩) (.cons (c := .own "NoGiven") (pe_glob (v := .ref T.X_NoGiven) (by rfl) T.gx_NoGiven rfl) (⟨_, T.gx_NoGiven, rfl⟩) (.cons (c := .own "NoName") (pe_glob (v := .ref T.X_NoName) (by rfl) T.gx_NoName rfl) (⟨_, T.gx_NoName, rfl⟩) (.cons (c := .own "NoRoad") (pe_glob (v := .ref T.X_NoRoad) (by rfl) T.gx_NoRoad rfl) (⟨_, T.gx_NoRoad, rfl⟩) (.cons (c := .own "NoRow") (pe_glob (v := .ref T.X_NoRow) (by rfl) T.gx_NoRow rfl) (⟨_, T.gx_NoRow, rfl⟩) (.cons (c := .own "NoRule") (pe_glob (v := .ref T.X_NoRule) (by rfl) T.gx_NoRule rfl) (⟨_, T.gx_NoRule, rfl⟩) (.cons (c := .own "NoText") (pe_glob (v := .ref T.X_NoText) (by rfl) T.gx_NoText rfl) (⟨_, T.gx_NoText, rfl⟩) (.cons (c := .own "NoTurn") (pe_glob (v := .ref T.X_NoTurn) (by rfl) T.gx_NoTurn rfl) (⟨_, T.gx_NoTurn, rfl⟩) (.cons (c := .own "Ring") (pe_glob (v := .ref T.X_Ring) (by rfl) T.gx_Ring rfl) (⟨_, T.gx_Ring, rfl⟩) (.cons (c := .own "TooGreat") (pe_glob (v := .ref T.X_TooGreat) (by rfl) T.gx_TooGreat rfl) (⟨_, T.gx_TooGreat, rfl⟩) (.nil)))))))))))) (by decide) _)) (dss_one (ds_ret (de_str))) (dss_nil)) (dss_cons (ds_if (DW.dt (dw_and (dt_val (de_isX1 (i := 2) (c := .own "NoProgram") T.ki (by rfl) T.z_isinstance (pv 2) (pe_glob (v := .ref T.X_NoProgram) (by rfl) T.gx_NoProgram rfl) (⟨_, T.gx_NoProgram, rfl⟩) _)) (dw_and (dt_val (de_isX1 (i := 2) (c := .bt "ValueError") T.ki (by rfl) T.z_isinstance (pv 2) (pe_bltn (v := .ty "ValueError") (by rfl) T.z_ValueError (by decide +kernel) rfl) (rfl) _)) (dw_and1 (dt_not (dt_val (de_isX1 (i := 2) (c := .own "TooLong") T.ki (by rfl) T.z_isinstance (pv 2) (pe_glob (v := .ref T.X_TooLong) (by rfl) T.gx_TooLong rfl) (⟨_, T.gx_TooLong, rfl⟩) _))))))) (dss_one (ds_ret (de_str))) (dss_nil)) (dss_one (ds_ret (de_str)))))))
abbrev K_l_needs (P : Program) (w : World) (base : Heap) (T : Txt K w mg) (k : Nat) (sp : FSpec) : Prop := Fk P w K mg base k T.f_l_needs T.d_l_needs ["_law_pen_here"] (spD ⟨K, P, w, mg⟩ 1 sp)
def t_l_needs (sp_l_take : FSpec) : TDS := sSeq (sOwn 1 (fLst (qCons (qLst (qCons (qC (.str "bars")) (qCons (qC (.str "mostq")) (qCons (qC (.str "lettersq")) (qCons (qC (.str "kinq")) (qNil)))))) (qCons (qLst (qCons (qC (.str "qaaa")) (qCons (qC (.str "qaab")) (qCons (qC (.str "qab")) (qCons (qC (.str "qa")) (qNil)))))) (qNil))))) (sSeq (sApp 1 (qLst (qCons (qC (.str "least")) (qCons (qC (.str "fun")) (qCons (qC (.str "ways")) (qCons (qC (.str "up")) (qNil))))))) (sSeq (sAsg (qIxO 1 (qCall sp_l_take 2 (rSlot 0 (rCons (qC (.int 3)) (rNil))))) (gN 2)) (sRet (qTup (qCons (qTup (qCons (qOp ixD (qVar 2) (qC (.int 0))) (qCons (qC (.str "row")) (qNil)))) (qCons (qTup (qCons (qOp ixD (qVar 2) (qC (.int 1))) (qCons (qC (.str "number")) (qNil)))) (qCons (qTup (qCons (qOp ixD (qVar 2) (qC (.int 2))) (qCons (qC (.str "text")) (qNil)))) (qCons (qTup (qCons (qOp ixD (qVar 2) (qC (.int 3))) (qCons (qC (.str "tree")) (qNil)))) (qNil)))))))))
set_option maxHeartbeats 4000000 in
theorem d_l_needs (T : Txt K w mg) {k : Nat} {k_l_take : Nat} {sp_l_take : FSpec} (G_l_take : Fk P w K mg base k_l_take T.f_l_take T.d_l_take ["_law_pen_here", "_law_many"] (spD ⟨K, P, w, mg⟩ 2 sp_l_take)) (h_l_take : k_l_take ≤ k) {cdv : Value} {A : Around} {outer : List Env} {s : Shared} {H : Hp} {E : XK} {B : Bd} (hr : Rm k (A.deeper (envOfC "_law_needs" (defScope s_l_needs) s.heap.objs.size T.f_l_needs cdv))) :
    DSs (cxOf (L2.CX P w) P w K mg base N_l_needs "_law_needs" (defScope s_l_needs) T.f_l_needs cdv A outer s H E).nox B (defBody s_l_needs) (t_l_needs sp_l_take) :=
  dss_cons (ds_own (i := 1) sc_l_needs.nd (df_lst (da_cons (de_lst (da_cons (de_str) (da_cons (de_str) (da_cons (de_str) (da_cons (de_str) (da_nil)))))) (da_cons (de_lst (da_cons (de_str) (da_cons (de_str) (da_cons (de_str) (da_cons (de_str) (da_nil)))))) (da_nil))))) (dss_cons (ds_append (i := 1) (pe_bm PySem.F.plainAttrs_list PySem.F.slot_list_append PySem.F.type_list_append mt_append (pv 1) (pa_cons (DE.pe (de_lst (da_cons (de_str) (da_cons (de_str) (da_cons (de_str) (da_cons (de_str) (da_nil))))))) pa_nil))) (dss_cons (ds_set (i := 2) sc_l_needs.nd (de_ixO (i := 1) (pe_ix ix_list (pv 1) (DE.pe (de_call G_l_take (hr.mono (by omega)) (by rfl) T.g_l_take T.F_l_take.kp T.b_l_take (dr_slot (i := 0) (pv 0) (dr_cons (de_int) (dr_nil))))) (fun _ _ => rfl)))) (dss_one (ds_ret (de_tup (da_cons (de_tup (da_cons (de_ix (o_ix (hu_of hr.toRoom)) (dv 2) (de_int)) (da_cons (de_str) (da_nil)))) (da_cons (de_tup (da_cons (de_ix (o_ix (hu_of hr.toRoom)) (dv 2) (de_int)) (da_cons (de_str) (da_nil)))) (da_cons (de_tup (da_cons (de_ix (o_ix (hu_of hr.toRoom)) (dv 2) (de_int)) (da_cons (de_str) (da_nil)))) (da_cons (de_tup (da_cons (de_ix (o_ix (hu_of hr.toRoom)) (dv 2) (de_int)) (da_cons (de_str) (da_nil)))) (da_nil))))))))))
def t_l_rows_1 : TD := qOp ixD (qVar 11) (qC (.int 0))
abbrev K_l_rows (P : Program) (w : World) (base : Heap) (T : Txt K w mg) (k : Nat) (sp : FSpec) : Prop := Fk P w K mg base k T.f_l_rows T.d_l_rows ["_law_needs_here"] (spD ⟨K, P, w, mg⟩ 1 sp)
def t_l_rows : TDS := sSeq (sAsg (qFz (fComp (qIter (qVar 0)) (gN 11) (qYes) (t_l_rows_1) [11])) (gLstD 4 (gConsD (gN 7) (gConsD (gN 8) (gConsD (gN 9) (gConsD (gN 10) (gNilD))))))) (sSeq (sAsg (qTup (qCons (qC (.str "own")) (qCons (qC (.int 0)) (qNil)))) (gN 1)) (sSeq (sAsg (qTup (qCons (qC (.str "if")) (qCons (qTup (qCons (qC (.str "below")) (qCons (qVar 1) (qCons (qTup (qCons (qC (.str "num")) (qCons (qC (.int 1)) (qNil)))) (qNil))))) (qCons (qTup (qCons (qC (.str "gain")) (qCons (qTup (qCons (qC (.str "at")) (qCons (qVar 7) (qCons (qVar 1) (qNil))))) (qNil)))) (qCons (qTup (qCons (qC (.str "call")) (qCons (qC (.int 0)) (qCons (qTup (qCons (qTup (qCons (qC (.str "less")) (qCons (qVar 1) (qCons (qTup (qCons (qC (.str "num")) (qCons (qC (.int 1)) (qNil)))) (qNil))))) (qNil))) (qNil))))) (qNil)))))) (gN 2)) (sSeq (sAsg (qTup (qCons (qC (.str "call")) (qCons (qC (.int 1)) (qCons (qTup (qCons (qTup (qCons (qC (.str "less")) (qCons (qVar 1) (qCons (qTup (qCons (qC (.str "num")) (qCons (qC (.int 1)) (qNil)))) (qNil))))) (qCons (qTup (qCons (qC (.str "own")) (qCons (qC (.int 2)) (qNil)))) (qNil)))) (qNil))))) (gN 3)) (sSeq (sAsg (qTup (qCons (qC (.str "choose")) (qCons (qTup (qCons (qTup (qCons (qC (.str "each")) (qCons (qTup (qCons (qC (.str "num")) (qCons (qC (.int 0)) (qNil)))) (qCons (qTup (qCons (qC (.str "own")) (qCons (qC (.int 1)) (qNil)))) (qCons (qVar 3) (qNil)))))) (qCons (qTup (qCons (qC (.str "gain")) (qCons (qTup (qCons (qC (.str "at")) (qCons (qVar 9) (qCons (qVar 1) (qNil))))) (qNil)))) (qCons (qTup (qCons (qC (.str "none")) (qNil))) (qNil))))) (qNil)))) (gN 4)) (sSeq (sAsg (qTup (qCons (qC (.str "all")) (qCons (qTup (qCons (qC (.str "num")) (qCons (qC (.int 0)) (qNil)))) (qCons (qTup (qCons (qC (.str "kids")) (qCons (qVar 10) (qCons (qVar 1) (qNil))))) (qCons (qTup (qCons (qC (.str "both")) (qCons (qTup (qCons (qC (.str "gain")) (qCons (qTup (qCons (qC (.str "own")) (qCons (qC (.int 3)) (qNil)))) (qNil)))) (qCons (qTup (qCons (qC (.str "call")) (qCons (qC (.int 0)) (qCons (qTup (qCons (qVar 1) (qNil))) (qNil))))) (qNil))))) (qNil)))))) (gN 5)) (sSeq (sAsg (qTup (qCons (qTup (qCons (qC (.str "size")) (qCons (qVar 9) (qNil)))) (qCons (qTup (qCons (qC (.str "full")) (qCons (qTup (qCons (qC (.str "size")) (qCons (qVar 10) (qNil)))) (qNil)))) (qCons (qTup (qCons (qC (.str "num")) (qCons (qC (.int 3)) (qNil)))) (qNil))))) (gN 6)) (sRet (qTup (qCons (qTup (qCons (qC (.str "fa")) (qCons (qTup (qCons (qTup (qCons (qC (.str "size")) (qCons (qVar 7) (qNil)))) (qNil))) (qCons (qVar 2) (qNil))))) (qCons (qTup (qCons (qC (.str "best")) (qCons (qTup (qCons (qTup (qCons (qC (.str "need")) (qCons (qVar 8) (qNil)))) (qCons (qTup (qCons (qC (.str "num")) (qCons (qC (.int 4)) (qNil)))) (qNil)))) (qCons (qVar 4) (qNil))))) (qCons (qTup (qCons (qC (.str "thirdq")) (qCons (qVar 6) (qCons (qVar 5) (qNil))))) (qNil))))))))))))
set_option maxHeartbeats 4000000 in
theorem d_l_rows (T : Txt K w mg) {k : Nat}  {cdv : Value} {A : Around} {outer : List Env} {s : Shared} {H : Hp} {E : XK} {B : Bd} (hr : Rm k (A.deeper (envOfC "_law_rows" (defScope s_l_rows) s.heap.objs.size T.f_l_rows cdv))) :
    DSs (cxOf (L2.CX P w) P w K mg base N_l_rows "_law_rows" (defScope s_l_rows) T.f_l_rows cdv A outer s H E).nox B (defBody s_l_rows) (t_l_rows) :=
  dss_cons (ds_asg (DF.de (df_comp (own := [("_law_need", 11)]) rfl sc_l_rows.nd (di_any (dv 0)) (blkOk_by (own := [("_law_need", 11)]) (N := N_l_rows) (sc := defScope s_l_rows) (by decide +kernel)) (fun _ _ _ _ _ _ => dg_name (i := 11) sc_l_rows.nd) (fun _ _ _ _ _ _ => dts_nil) (fun _ _ _ _ _ _ => de_ix (o_ix (hu_of hr.toRoom)) (dv 11) (de_int)))) (dg_lst rfl (dgs_cons (dg_name (i := 7) sc_l_rows.nd) (dgs_cons (dg_name (i := 8) sc_l_rows.nd) (dgs_cons (dg_name (i := 9) sc_l_rows.nd) (dgs_cons (dg_name (i := 10) sc_l_rows.nd) (dgs_nil))))))) (dss_cons (ds_set (i := 1) sc_l_rows.nd (de_tup (da_cons (de_str) (da_cons (de_int) (da_nil))))) (dss_cons (ds_set (i := 2) sc_l_rows.nd (de_tup (da_cons (de_str) (da_cons (de_tup (da_cons (de_str) (da_cons (dv 1) (da_cons (de_tup (da_cons (de_str) (da_cons (de_int) (da_nil)))) (da_nil))))) (da_cons (de_tup (da_cons (de_str) (da_cons (de_tup (da_cons (de_str) (da_cons (dv 7) (da_cons (dv 1) (da_nil))))) (da_nil)))) (da_cons (de_tup (da_cons (de_str) (da_cons (de_int) (da_cons (de_tup (da_cons (de_tup (da_cons (de_str) (da_cons (dv 1) (da_cons (de_tup (da_cons (de_str) (da_cons (de_int) (da_nil)))) (da_nil))))) (da_nil))) (da_nil))))) (da_nil))))))) (dss_cons (ds_set (i := 3) sc_l_rows.nd (de_tup (da_cons (de_str) (da_cons (de_int) (da_cons (de_tup (da_cons (de_tup (da_cons (de_str) (da_cons (dv 1) (da_cons (de_tup (da_cons (de_str) (da_cons (de_int) (da_nil)))) (da_nil))))) (da_cons (de_tup (da_cons (de_str) (da_cons (de_int) (da_nil)))) (da_nil)))) (da_nil)))))) (dss_cons (ds_set (i := 4) sc_l_rows.nd (de_tup (da_cons (de_str) (da_cons (de_tup (da_cons (de_tup (da_cons (de_str) (da_cons (de_tup (da_cons (de_str) (da_cons (de_int) (da_nil)))) (da_cons (de_tup (da_cons (de_str) (da_cons (de_int) (da_nil)))) (da_cons (dv 3) (da_nil)))))) (da_cons (de_tup (da_cons (de_str) (da_cons (de_tup (da_cons (de_str) (da_cons (dv 9) (da_cons (dv 1) (da_nil))))) (da_nil)))) (da_cons (de_tup (da_cons (de_str) (da_nil))) (da_nil))))) (da_nil))))) (dss_cons (ds_set (i := 5) sc_l_rows.nd (de_tup (da_cons (de_str) (da_cons (de_tup (da_cons (de_str) (da_cons (de_int) (da_nil)))) (da_cons (de_tup (da_cons (de_str) (da_cons (dv 10) (da_cons (dv 1) (da_nil))))) (da_cons (de_tup (da_cons (de_str) (da_cons (de_tup (da_cons (de_str) (da_cons (de_tup (da_cons (de_str) (da_cons (de_int) (da_nil)))) (da_nil)))) (da_cons (de_tup (da_cons (de_str) (da_cons (de_int) (da_cons (de_tup (da_cons (dv 1) (da_nil))) (da_nil))))) (da_nil))))) (da_nil))))))) (dss_cons (ds_set (i := 6) sc_l_rows.nd (de_tup (da_cons (de_tup (da_cons (de_str) (da_cons (dv 9) (da_nil)))) (da_cons (de_tup (da_cons (de_str) (da_cons (de_tup (da_cons (de_str) (da_cons (dv 10) (da_nil)))) (da_nil)))) (da_cons (de_tup (da_cons (de_str) (da_cons (de_int) (da_nil)))) (da_nil)))))) (dss_one (ds_ret (de_tup (da_cons (de_tup (da_cons (de_str) (da_cons (de_tup (da_cons (de_tup (da_cons (de_str) (da_cons (dv 7) (da_nil)))) (da_nil))) (da_cons (dv 2) (da_nil))))) (da_cons (de_tup (da_cons (de_str) (da_cons (de_tup (da_cons (de_tup (da_cons (de_str) (da_cons (dv 8) (da_nil)))) (da_cons (de_tup (da_cons (de_str) (da_cons (de_int) (da_nil)))) (da_nil)))) (da_cons (dv 4) (da_nil))))) (da_cons (de_tup (da_cons (de_str) (da_cons (dv 6) (da_cons (dv 5) (da_nil))))) (da_nil)))))))))))))
abbrev K_l_wide (P : Program) (w : World) (base : Heap) (T : Txt K w mg) (k : Nat) (sp : FSpec) : Prop := Fk P w K mg base k T.f_l_wide T.d_l_wide ["_law_many"] (spD ⟨K, P, w, mg⟩ 1 sp)
def t_l_wide (sp_l_wide : FSpec) : TDS := sSeq (sIf (qTest (qOp eqD (qVar 0) (qC (.int 1)))) (sRet (qTup (qCons (qC (.str "num")) (qCons (qC (.int 1)) (qNil))))) (sNext)) (sRet (qTup (qCons (qC (.str "plus")) (qCons (qCall sp_l_wide 1 (rCons (qOp (i2 fun i j Q => CDv i j ∧ Q (.int (i / j))) (qVar 0) (qC (.int 2))) (rNil))) (qCons (qCall sp_l_wide 1 (rCons (qOp (i2 fun i j Q => Q (.int (i - j))) (qVar 0) (qOp (i2 fun i j Q => CDv i j ∧ Q (.int (i / j))) (qVar 0) (qC (.int 2)))) (rNil))) (qNil))))))
set_option maxHeartbeats 4000000 in
theorem d_l_wide (T : Txt K w mg) {k : Nat} {k_l_wide : Nat} {sp_l_wide : FSpec} (G_l_wide : Fk P w K mg base k_l_wide T.f_l_wide T.d_l_wide ["_law_many"] (spD ⟨K, P, w, mg⟩ 1 sp_l_wide)) (h_l_wide : k_l_wide ≤ k) {cdv : Value} {A : Around} {outer : List Env} {s : Shared} {H : Hp} {E : XK} {B : Bd} (hr : Rm k (A.deeper (envOfC "_law_wide" (defScope s_l_wide) s.heap.objs.size T.f_l_wide cdv))) :
    DSs (cxOf (L2.CX P w) P w K mg base N_l_wide "_law_wide" (defScope s_l_wide) T.f_l_wide cdv A outer s H E).nox B (defBody s_l_wide) (t_l_wide sp_l_wide) :=
  dss_cons (ds_if (dt_cmp (o_eq hr.units) (dv 0) (de_int) (nomark _)) (dss_one (ds_ret (de_tup (da_cons (de_str) (da_cons (de_int) (da_nil)))))) (dss_nil)) (dss_one (ds_ret (de_tup (da_cons (de_str) (da_cons (de_call G_l_wide (hr.mono (by omega)) (by rfl) T.g_l_wide T.F_l_wide.kp T.b_l_wide (dr_cons (de_op o_fdiv (dv 0) (de_int)) (dr_nil))) (da_cons (de_call G_l_wide (hr.mono (by omega)) (by rfl) T.g_l_wide T.F_l_wide.kp T.b_l_wide (dr_cons (de_op o_sub (dv 0) (de_op o_fdiv (dv 0) (de_int))) (dr_nil))) (da_nil)))))))
def t_l_deep_1 : TDS := sAsg (qTup (qCons (qC (.str "choose")) (qCons (qTup (qCons (qVar 1) (qNil))) (qNil)))) (gN 1)
abbrev K_l_deep (P : Program) (w : World) (base : Heap) (T : Txt K w mg) (k : Nat) (sp : FSpec) : Prop := Fk P w K mg base k T.f_l_deep T.d_l_deep ["_law_many"] (spD ⟨K, P, w, mg⟩ 1 sp)
def t_l_deep : TDS := sSeq (sAsg (qTup (qCons (qC (.str "none")) (qNil))) (gN 1)) (sSeq (sFor (qRg1 (qCons (qOp (i2 fun i j Q => Q (.int (i - j))) (qVar 0) (qC (.int 1))) (qNil))) (gN 2) (t_l_deep_1)) (sRet (qVar 1)))
set_option maxHeartbeats 4000000 in
theorem d_l_deep (T : Txt K w mg) {k : Nat}  {cdv : Value} {A : Around} {outer : List Env} {s : Shared} {H : Hp} {E : XK} {B : Bd} (hr : Rm k (A.deeper (envOfC "_law_deep" (defScope s_l_deep) s.heap.objs.size T.f_l_deep cdv))) :
    DSs (cxOf (L2.CX P w) P w K mg base N_l_deep "_law_deep" (defScope s_l_deep) T.f_l_deep cdv A outer s H E).nox B (defBody s_l_deep) (t_l_deep) :=
  dss_cons (ds_set (i := 1) sc_l_deep.nd (de_tup (da_cons (de_str) (da_nil)))) (dss_cons (ds_for PassesOwn.never rfl (di_range1 (by rfl) T.z_range (da_cons (de_op o_sub (dv 0) (de_int)) (da_nil))) (dg_name (i := 2) sc_l_deep.nd) (dss_one (ds_set (i := 1) sc_l_deep.nd (de_tup (da_cons (de_str) (da_cons (de_tup (da_cons (dv 1) (da_nil))) (da_nil))))))) (dss_one (ds_ret (dv 1))))
abbrev K_l_word (P : Program) (w : World) (base : Heap) (T : Txt K w mg) (k : Nat) (sp : FSpec) : Prop := Fk P w K mg base k T.f_l_word T.d_l_word ["_law_pen_here"] (spD ⟨K, P, w, mg⟩ 1 sp)
def t_l_word (sp_l_take : FSpec) : TDS := sSeq (sAsg (qC (.str "num own need size at kids kid full with without many plus less times half rest lesser greater")) (gN 1)) (sSeq (sAsg (qOp addD (qVar 1) (qC (.str " below same has not and or gain none call both choose each all if number row text tree"))) (gN 1)) (sRet (qOp ixD (qSplit (qVar 1) (qC (.str " "))) (qCall sp_l_take 2 (rSlot 0 (rCons (qC (.int 36)) (rNil)))))))
set_option maxHeartbeats 4000000 in
theorem d_l_word (T : Txt K w mg) {k : Nat} {k_l_take : Nat} {sp_l_take : FSpec} (G_l_take : Fk P w K mg base k_l_take T.f_l_take T.d_l_take ["_law_pen_here", "_law_many"] (spD ⟨K, P, w, mg⟩ 2 sp_l_take)) (h_l_take : k_l_take ≤ k) {cdv : Value} {A : Around} {outer : List Env} {s : Shared} {H : Hp} {E : XK} {B : Bd} (hr : Rm k (A.deeper (envOfC "_law_word" (defScope s_l_word) s.heap.objs.size T.f_l_word cdv))) :
    DSs (cxOf (L2.CX P w) P w K mg base N_l_word "_law_word" (defScope s_l_word) T.f_l_word cdv A outer s H E).nox B (defBody s_l_word) (t_l_word sp_l_take) :=
  dss_cons (ds_set (i := 1) sc_l_word.nd (de_str)) (dss_cons (ds_set (i := 1) sc_l_word.nd (de_op o_add (dv 1) (de_str))) (dss_one (ds_ret (de_ix (o_ix (hu_of hr.toRoom)) (de_split (dv 1) (de_str)) (de_call G_l_take (hr.mono (by omega)) (by rfl) T.g_l_take T.F_l_take.kp T.b_l_take (dr_slot (i := 0) (pv 0) (dr_cons (de_int) (dr_nil))))))))
def t_l_bad_needs_1 (sp_l_take : FSpec) (sp_l_word : FSpec) : TD := qOp addD (qVar 1) (qTup (qCons (qTup (qCons (qC (.str "aq")) (qCons (qVar 5) (qNil)))) (qNil)))
def t_l_bad_needs_2 (sp_l_take : FSpec) (sp_l_word : FSpec) : TD := qOp addD (qVar 1) (qTup (qCons (qTup (qCons (qVar 7) (qCons (qC (.str "row")) (qNil)))) (qNil)))
def t_l_bad_needs_3 (sp_l_take : FSpec) (sp_l_word : FSpec) : TD := qOp addD (qVar 1) (qTup (qCons (qTup (qCons (qCall sp_l_word 1 (rSlot 0 (rNil))) (qCons (qC (.str "row")) (qNil)))) (qNil)))
abbrev K_l_bad_needs (P : Program) (w : World) (base : Heap) (T : Txt K w mg) (k : Nat) (sp : FSpec) : Prop := Fk P w K mg base k T.f_l_bad_needs T.d_l_bad_needs ["_law_pen_here", "_law_needs_here"] (spD ⟨K, P, w, mg⟩ 2 sp)
def t_l_bad_needs (sp_l_take : FSpec) (sp_l_word : FSpec) : TDS := sSeq (sAsg (qOp ixD (qVar 1) (qCall sp_l_take 2 (rSlot 0 (rCons (qC (.int 4)) (rNil))))) (gN 2)) (sSeq (sOwn 3 (fLst (qCons (qCl (n1 listD) (qCons (qVar 1) (qNil))) (qCons (qOp addD (qVar 1) (qTup (qCons (qTup (qCons (qC (.str "aq")) (qCons (qC (.str "row")) (qNil)))) (qCons (qTup (qCons (qC (.str "bq")) (qCons (qC (.str "row")) (qNil)))) (qCons (qTup (qCons (qC (.str "cq")) (qCons (qC (.str "row")) (qNil)))) (qNil)))))) (qCons (qOp addD (qVar 1) (qTup (qCons (qVar 2) (qNil)))) (qCons (qC .non) (qNil))))))) (sSeq (sApp 3 (qOp addD (qVar 1) (qTup (qCons (qC .non) (qNil))))) (sFz 3 (sSeq (sOwn 3 (fAdd (qVar 3) (qLst (qCons (qOp addD (qVar 1) (qTup (qCons (qTup (qCons (qOp addD (qOp ixD (qVar 2) (qC (.int 0))) (qC (.str "q"))) (qCons (qC (.str "rows")) (qNil)))) (qNil)))) (qCons (qOp addD (qVar 1) (qTup (qCons (qTup (qCons (qOp addD (qOp ixD (qVar 2) (qC (.int 0))) (qC (.str "q"))) (qCons (qC .non) (qNil)))) (qNil)))) (qCons (qOp addD (qVar 1) (qTup (qCons (qTup (qCons (qOp addD (qOp ixD (qVar 2) (qC (.int 0))) (qC (.str "q"))) (qNil))) (qNil)))) (qNil))))))) (sFz 3 (sSeq (sOwn 3 (fAdd (qVar 3) (qLst (qCons (qOp addD (qVar 1) (qTup (qCons (qLst (qCons (qOp addD (qOp ixD (qVar 2) (qC (.int 0))) (qC (.str "q"))) (qCons (qC (.str "row")) (qNil)))) (qNil)))) (qCons (qOp addD (qVar 1) (qTup (qCons (qTup (qCons (qOp addD (qOp ixD (qVar 2) (qC (.int 0))) (qC (.str "q"))) (qCons (qC (.str "row")) (qCons (qC (.str "row")) (qNil))))) (qNil)))) (qCons (qSl slD (qVar 1) (qNoPart) (qPart (qC (.int 3)))) (qCons (qSl slD (qVar 1) (qPart (qC (.int 1))) (qNoPart)) (qNil)))))))) (sSeq (sAsg (qLst (qCons (qC (.str "q")) (qCons (qC (.str "abcdefghi")) (qCons (qC (.str "Qa")) (qCons (qC (.str "q1")) (qCons (qC (.str "q a")) (qCons (qC (.str "")) (qCons (qC (.int 7)) (qCons (qC .non) (qCons (qC (.str "a_")) (qCons (qLst (qNil)) (qCons (qFz (fDct0)) (qCons (qC (.bl true)) (qCons (qTup (qCons (qC (.str "aq")) (qNil))) (qCons (qC (.str "aq\n")) (qCons (qC (.str " aq")) (qCons (qC (.str "aq ")) (qNil)))))))))))))))))) (gN 4)) (sFz 3 (sSeq (sOwn 3 (fAdd (qVar 3) (qFz (fComp (qIter (qTup (qCons (qC (.str "")) (qCons (qC (.str "tex")) (qCons (qC (.str "ow")) (qCons (qC (.str "number row")) (qCons (qC (.str "tre")) (qCons (qC (.str " row")) (qCons (qC (.int 7)) (qNil)))))))))) (gN 5) (qYes) ((t_l_bad_needs_1 sp_l_take sp_l_word)) [5])))) (sFz 3 (sSeq (sOwn 3 (fAdd (qOp addD (qVar 3) (qFz (fComp (qIter (qVar 4)) (gN 7) (qYes) ((t_l_bad_needs_2 sp_l_take sp_l_word)) [7]))) (qLst (qCons (qOp addD (qVar 1) (qTup (qCons (qTup (qCons (qC (.str "aq")) (qCons (qLst (qNil)) (qNil)))) (qNil)))) (qCons (qOp addD (qVar 1) (qTup (qCons (qTup (qCons (qC (.str "aq")) (qCons (qFz (fDct0)) (qNil)))) (qNil)))) (qNil)))))) (sFz 3 (sSeq (sOwn 3 (fAdd (qVar 3) (qFz (fComp (qRg1 (qCons (qC (.int 6)) (qNil))) (gN 6) (qYes) ((t_l_bad_needs_3 sp_l_take sp_l_word)) [6])))) (sFz 3 (sSeq (sOwn 3 (fAdd (qVar 3) (qLst (qCons (qOp addD (qTup (qCons (qOp addD (qSl slD (qVar 2) (qNoPart) (qPart (qC (.int 1)))) (qTup (qCons (qC (.str "rows")) (qNil)))) (qNil))) (qSl slD (qVar 1) (qPart (qC (.int 1))) (qNoPart))) (qCons (qOp addD (qOp addD (qSl slD (qVar 1) (qNoPart) (qPart (qC (.int 2)))) (qTup (qCons (qTup (qCons (qC (.str "q")) (qCons (qC (.str "row")) (qNil)))) (qNil)))) (qSl slD (qVar 1) (qPart (qC (.int 2))) (qNoPart))) (qNil)))))) (sFz 3 (sSeq (sOwn 3 (fAdd (qVar 3) (qLst (qCons (qOp addD (qTup (qCons (qC .non) (qNil))) (qVar 1)) (qCons (qOp addD (qSl slD (qVar 1) (qNoPart) (qPart (qC (.int 1)))) (qVar 1)) (qNil)))))) (sRet (qIxO 3 (qCall sp_l_take 2 (rSlot 0 (rCons (qClO (n1 lenD) 3) (rNil)))))))))))))))))))))))
set_option maxHeartbeats 4000000 in
theorem d_l_bad_needs (T : Txt K w mg) {k : Nat} {k_l_take : Nat} {sp_l_take : FSpec} (G_l_take : Fk P w K mg base k_l_take T.f_l_take T.d_l_take ["_law_pen_here", "_law_many"] (spD ⟨K, P, w, mg⟩ 2 sp_l_take)) (h_l_take : k_l_take ≤ k) {k_l_word : Nat} {sp_l_word : FSpec} (G_l_word : Fk P w K mg base k_l_word T.f_l_word T.d_l_word ["_law_pen_here"] (spD ⟨K, P, w, mg⟩ 1 sp_l_word)) (h_l_word : k_l_word ≤ k) {cdv : Value} {A : Around} {outer : List Env} {s : Shared} {H : Hp} {E : XK} {B : Bd} (hr : Rm k (A.deeper (envOfC "_law_bad_needs" (defScope s_l_bad_needs) s.heap.objs.size T.f_l_bad_needs cdv))) :
    DSs (cxOf (L2.CX P w) P w K mg base N_l_bad_needs "_law_bad_needs" (defScope s_l_bad_needs) T.f_l_bad_needs cdv A outer s H E).nox B (defBody s_l_bad_needs) (t_l_bad_needs sp_l_take sp_l_word) :=
  dss_cons (ds_set (i := 2) sc_l_bad_needs.nd (de_ix (o_ix (hu_of hr.toRoom)) (dv 1) (de_call G_l_take (hr.mono (by omega)) (by rfl) T.g_l_take T.F_l_take.kp T.b_l_take (dr_slot (i := 0) (pv 0) (dr_cons (de_int) (dr_nil)))))) (dss_cons (ds_own (i := 3) sc_l_bad_needs.nd (df_lst (da_cons (de_callTy (c_list) (by rfl) T.z_list (by decide +kernel) (da_cons (dv 1) (da_nil))) (da_cons (de_op o_add (dv 1) (de_tup (da_cons (de_tup (da_cons (de_str) (da_cons (de_str) (da_nil)))) (da_cons (de_tup (da_cons (de_str) (da_cons (de_str) (da_nil)))) (da_cons (de_tup (da_cons (de_str) (da_cons (de_str) (da_nil)))) (da_nil)))))) (da_cons (de_op o_add (dv 1) (de_tup (da_cons (dv 2) (da_nil)))) (da_cons (de_non) (da_nil))))))) (dss_cons (ds_append (i := 3) (pe_bm PySem.F.plainAttrs_list PySem.F.slot_list_append PySem.F.type_list_append mt_append (pv 3) (pa_cons (DE.pe (de_op o_add (dv 1) (de_tup (da_cons (de_non) (da_nil))))) pa_nil))) (dss_fz 3 (dss_cons (ds_own (i := 3) sc_l_bad_needs.nd (df_add (dv 3) (de_lst (da_cons (de_op o_add (dv 1) (de_tup (da_cons (de_tup (da_cons (de_op o_add (de_ix (o_ix (hu_of hr.toRoom)) (dv 2) (de_int)) (de_str)) (da_cons (de_str) (da_nil)))) (da_nil)))) (da_cons (de_op o_add (dv 1) (de_tup (da_cons (de_tup (da_cons (de_op o_add (de_ix (o_ix (hu_of hr.toRoom)) (dv 2) (de_int)) (de_str)) (da_cons (de_non) (da_nil)))) (da_nil)))) (da_cons (de_op o_add (dv 1) (de_tup (da_cons (de_tup (da_cons (de_op o_add (de_ix (o_ix (hu_of hr.toRoom)) (dv 2) (de_int)) (de_str)) (da_nil))) (da_nil)))) (da_nil))))))) (dss_fz 3 (dss_cons (ds_own (i := 3) sc_l_bad_needs.nd (df_add (dv 3) (de_lst (da_cons (de_op o_add (dv 1) (de_tup (da_cons (de_lst (da_cons (de_op o_add (de_ix (o_ix (hu_of hr.toRoom)) (dv 2) (de_int)) (de_str)) (da_cons (de_str) (da_nil)))) (da_nil)))) (da_cons (de_op o_add (dv 1) (de_tup (da_cons (de_tup (da_cons (de_op o_add (de_ix (o_ix (hu_of hr.toRoom)) (dv 2) (de_int)) (de_str)) (da_cons (de_str) (da_cons (de_str) (da_nil))))) (da_nil)))) (da_cons (de_slice o_sl (dv 1) (do_none) (do_some (de_int))) (da_cons (de_slice o_sl (dv 1) (do_some (de_int)) (do_none)) (da_nil)))))))) (dss_cons (ds_set (i := 4) sc_l_bad_needs.nd (de_lst (da_cons (de_str) (da_cons (de_str) (da_cons (de_str) (da_cons (de_str) (da_cons (de_str) (da_cons (de_str) (da_cons (de_int) (da_cons (de_non) (da_cons (de_str) (da_cons (de_lst (da_nil)) (da_cons (DF.de (df_dct0)) (da_cons (de_bl) (da_cons (de_tup (da_cons (de_str) (da_nil))) (da_cons (de_str) (da_cons (de_str) (da_cons (de_str) (da_nil))))))))))))))))))) (dss_fz 3 (dss_cons (ds_own (i := 3) sc_l_bad_needs.nd (df_add (dv 3) (DF.de (df_comp (own := [("_law_kind", 5)]) rfl sc_l_bad_needs.nd (di_any (de_tup (da_cons (de_str) (da_cons (de_str) (da_cons (de_str) (da_cons (de_str) (da_cons (de_str) (da_cons (de_str) (da_cons (de_int) (da_nil)))))))))) (blkOk_by (own := [("_law_kind", 5)]) (N := N_l_bad_needs) (sc := defScope s_l_bad_needs) (by decide +kernel)) (fun _ _ _ _ _ _ => dg_name (i := 5) sc_l_bad_needs.nd) (fun _ _ _ _ _ _ => dts_nil) (fun _ _ _ _ _ _ => de_op o_add (dv 1) (de_tup (da_cons (de_tup (da_cons (de_str) (da_cons (dv 5) (da_nil)))) (da_nil)))))))) (dss_fz 3 (dss_cons (ds_own (i := 3) sc_l_bad_needs.nd (df_add (de_op o_add (dv 3) (DF.de (df_comp (own := [("_law_name", 7)]) rfl sc_l_bad_needs.nd (di_any (dv 4)) (blkOk_by (own := [("_law_name", 7)]) (N := N_l_bad_needs) (sc := defScope s_l_bad_needs) (by decide +kernel)) (fun _ _ _ _ _ _ => dg_name (i := 7) sc_l_bad_needs.nd) (fun _ _ _ _ _ _ => dts_nil) (fun _ _ _ _ _ _ => de_op o_add (dv 1) (de_tup (da_cons (de_tup (da_cons (dv 7) (da_cons (de_str) (da_nil)))) (da_nil))))))) (de_lst (da_cons (de_op o_add (dv 1) (de_tup (da_cons (de_tup (da_cons (de_str) (da_cons (de_lst (da_nil)) (da_nil)))) (da_nil)))) (da_cons (de_op o_add (dv 1) (de_tup (da_cons (de_tup (da_cons (de_str) (da_cons (DF.de (df_dct0)) (da_nil)))) (da_nil)))) (da_nil)))))) (dss_fz 3 (dss_cons (ds_own (i := 3) sc_l_bad_needs.nd (df_add (dv 3) (DF.de (df_comp (own := [("_law_k", 6)]) rfl sc_l_bad_needs.nd (di_range1 (by rfl) T.z_range (da_cons (de_int) (da_nil))) (blkOk_by (own := [("_law_k", 6)]) (N := N_l_bad_needs) (sc := defScope s_l_bad_needs) (by decide +kernel)) (fun _ _ _ _ _ _ => dg_name (i := 6) sc_l_bad_needs.nd) (fun _ _ _ _ _ _ => dts_nil) (fun _ _ _ _ _ _ => de_op o_add (dv 1) (de_tup (da_cons (de_tup (da_cons (de_call G_l_word (hr.mono (by omega)) (by rfl) T.g_l_word T.F_l_word.kp T.b_l_word (dr_slot (i := 0) (pv 0) (dr_nil))) (da_cons (de_str) (da_nil)))) (da_nil)))))))) (dss_fz 3 (dss_cons (ds_own (i := 3) sc_l_bad_needs.nd (df_add (dv 3) (de_lst (da_cons (de_op o_add (de_tup (da_cons (de_op o_add (de_slice o_sl (dv 2) (do_none) (do_some (de_int))) (de_tup (da_cons (de_str) (da_nil)))) (da_nil))) (de_slice o_sl (dv 1) (do_some (de_int)) (do_none))) (da_cons (de_op o_add (de_op o_add (de_slice o_sl (dv 1) (do_none) (do_some (de_int))) (de_tup (da_cons (de_tup (da_cons (de_str) (da_cons (de_str) (da_nil)))) (da_nil)))) (de_slice o_sl (dv 1) (do_some (de_int)) (do_none))) (da_nil)))))) (dss_fz 3 (dss_cons (ds_own (i := 3) sc_l_bad_needs.nd (df_add (dv 3) (de_lst (da_cons (de_op o_add (de_tup (da_cons (de_non) (da_nil))) (dv 1)) (da_cons (de_op o_add (de_slice o_sl (dv 1) (do_none) (do_some (de_int))) (dv 1)) (da_nil)))))) (dss_one (ds_ret (de_ixO (i := 3) (pe_ix ix_list (pv 3) (DE.pe (de_call G_l_take (hr.mono (by omega)) (by rfl) T.g_l_take T.F_l_take.kp T.b_l_take (dr_slot (i := 0) (pv 0) (dr_cons (de_clO (i := 3) (c_len) (fun r h => pe_callB h (by rfl) T.z_len (by decide +kernel) (pa_cons (pv 3) pa_nil))) (dr_nil))))) (fun _ _ => rfl))))))))))))))))))))))
abbrev K_l_bad_mosts (P : Program) (w : World) (base : Heap) (T : Txt K w mg) (k : Nat) (sp : FSpec) : Prop := Fk P w K mg base k T.f_l_bad_mosts T.d_l_bad_mosts ["_law_needs_here", "_law_mosts"] (spD ⟨K, P, w, mg⟩ 2 sp)
def t_l_bad_mosts (sp_l_wide : FSpec) : TDS := sSeq (sAsg (qLst (qCons (qTup (qNil)) (qCons (qOp mulT (qVar 1) (qC (.int 4))) (qCons (qCl (n1 listD) (qCons (qVar 1) (qNil))) (qCons (qC .non) (qCons (qTup (qCons (qTup (qCons (qC (.str "own")) (qCons (qC (.int 0)) (qNil)))) (qNil))) (qCons (qTup (qCons (qTup (qCons (qC (.str "num")) (qCons (qUn negD (qC (.int 1))) (qNil)))) (qNil))) (qCons (qTup (qCons (qTup (qCons (qC (.str "num")) (qCons (qC (.bl true)) (qNil)))) (qNil))) (qNil))))))))) (gN 2)) (sSeq (sAsg (qOp addD (qVar 2) (qLst (qCons (qTup (qCons (qTup (qCons (qC (.str "times")) (qCons (qTup (qCons (qC (.str "num")) (qCons (qC (.int 1)) (qNil)))) (qCons (qTup (qCons (qC (.str "num")) (qCons (qC (.int 1)) (qNil)))) (qNil))))) (qNil))) (qCons (qTup (qCons (qTup (qCons (qC (.str "half")) (qCons (qTup (qCons (qC (.str "num")) (qCons (qC (.int 4)) (qNil)))) (qNil)))) (qNil))) (qCons (qTup (qCons (qTup (qCons (qC (.str "full")) (qCons (qTup (qCons (qC (.str "num")) (qCons (qC (.int 3)) (qNil)))) (qNil)))) (qNil))) (qNil)))))) (gN 2)) (sSeq (sAsg (qOp addD (qVar 2) (qLst (qCons (qTup (qCons (qCall sp_l_wide 1 (rCons (qC (.int 7)) (rNil))) (qNil))) (qCons (qTup (qCons (qTup (qCons (qC (.str "size")) (qCons (qOp ixD (qOp ixD (qVar 0) (qC (.int 1))) (qC (.int 0))) (qNil)))) (qNil))) (qCons (qTup (qCons (qTup (qCons (qC (.str "plus")) (qCons (qTup (qCons (qC (.str "num")) (qCons (qUn negD (qC (.int 1))) (qNil)))) (qCons (qTup (qCons (qC (.str "num")) (qCons (qC (.int 3)) (qNil)))) (qNil))))) (qNil))) (qNil)))))) (gN 2)) (sSeq (sAsg (qOp addD (qVar 2) (qLst (qCons (qTup (qCons (qTup (qCons (qC (.str "less")) (qCons (qTup (qCons (qC (.str "num")) (qCons (qC (.int 9)) (qNil)))) (qCons (qTup (qCons (qC (.str "full")) (qCons (qTup (qCons (qC (.str "num")) (qCons (qC (.int 3)) (qNil)))) (qNil)))) (qNil))))) (qNil))) (qCons (qTup (qCons (qTup (qCons (qC (.str "plus")) (qCons (qTup (qCons (qC (.str "num")) (qCons (qC (.int 1)) (qNil)))) (qCons (qTup (qCons (qC (.str "own")) (qCons (qC (.int 0)) (qNil)))) (qNil))))) (qNil))) (qCons (qTup (qCons (qTup (qCons (qLst (qNil)) (qCons (qC (.int 3)) (qNil)))) (qNil))) (qNil)))))) (gN 2)) (sSeq (sAsg (qOp addD (qVar 2) (qLst (qCons (qTup (qCons (qTup (qCons (qC (.str "need")) (qCons (qOp ixD (qOp ixD (qVar 0) (qC (.int 0))) (qC (.int 0))) (qNil)))) (qNil))) (qCons (qTup (qCons (qTup (qCons (qC (.str "plus")) (qCons (qTup (qCons (qC (.str "num")) (qCons (qC (.int 1)) (qNil)))) (qCons (qTup (qCons (qC (.str "at")) (qCons (qOp ixD (qOp ixD (qVar 0) (qC (.int 0))) (qC (.int 0))) (qCons (qTup (qCons (qC (.str "num")) (qCons (qC (.int 0)) (qNil)))) (qNil))))) (qNil))))) (qNil))) (qCons (qTup (qCons (qC (.int 3)) (qNil))) (qNil)))))) (gN 2)) (sSeq (sAsg (qTup (qCons (qC (.str "full")) (qCons (qTup (qCons (qC (.str "size")) (qCons (qOp ixD (qOp ixD (qVar 0) (qC (.int 0))) (qC (.int 0))) (qNil)))) (qNil)))) (gN 3)) (sSeq (sAsg (qOp addD (qVar 2) (qLst (qCons (qTup (qCons (qTup (qCons (qC (.str "size")) (qCons (qC (.str "nopeq")) (qNil)))) (qNil))) (qCons (qTup (qCons (qTup (qCons (qC (.str "need")) (qCons (qC (.str "nopeq")) (qNil)))) (qNil))) (qCons (qTup (qCons (qTup (qCons (qC (.str "plus")) (qCons (qTup (qCons (qC (.str "num")) (qCons (qC (.int 1)) (qNil)))) (qCons (qTup (qCons (qC (.str "size")) (qCons (qC (.str "nopeq")) (qNil)))) (qNil))))) (qNil))) (qNil)))))) (gN 2)) (sSeq (sAsg (qOp addD (qVar 2) (qLst (qCons (qTup (qCons (qTup (qCons (qC (.str "full")) (qCons (qTup (qCons (qC (.str "size")) (qCons (qOp ixD (qOp ixD (qVar 0) (qC (.int 1))) (qC (.int 0))) (qNil)))) (qNil)))) (qNil))) (qCons (qTup (qCons (qTup (qCons (qC (.str "full")) (qCons (qTup (qCons (qC (.str "size")) (qCons (qC (.str "nopeq")) (qNil)))) (qNil)))) (qNil))) (qCons (qTup (qCons (qTup (qCons (qC (.str "full")) (qCons (qTup (qCons (qC (.str "size")) (qNil))) (qNil)))) (qNil))) (qNil)))))) (gN 2)) (sSeq (sAsg (qOp addD (qVar 2) (qLst (qCons (qTup (qCons (qTup (qCons (qC (.str "full")) (qCons (qTup (qCons (qC (.str "need")) (qCons (qOp ixD (qOp ixD (qVar 0) (qC (.int 1))) (qC (.int 0))) (qNil)))) (qNil)))) (qNil))) (qCons (qTup (qCons (qTup (qCons (qC (.str "less")) (qCons (qTup (qCons (qC (.str "plus")) (qCons (qVar 3) (qCons (qVar 3) (qNil))))) (qCons (qCall sp_l_wide 1 (rCons (qC (.int 4)) (rNil))) (qNil))))) (qNil))) (qNil))))) (gN 2)) (sRet (qVar 2))))))))))
set_option maxHeartbeats 4000000 in
theorem d_l_bad_mosts (T : Txt K w mg) {k : Nat} {k_l_wide : Nat} {sp_l_wide : FSpec} (G_l_wide : Fk P w K mg base k_l_wide T.f_l_wide T.d_l_wide ["_law_many"] (spD ⟨K, P, w, mg⟩ 1 sp_l_wide)) (h_l_wide : k_l_wide ≤ k) {cdv : Value} {A : Around} {outer : List Env} {s : Shared} {H : Hp} {E : XK} {B : Bd} (hr : Rm k (A.deeper (envOfC "_law_bad_mosts" (defScope s_l_bad_mosts) s.heap.objs.size T.f_l_bad_mosts cdv))) :
    DSs (cxOf (L2.CX P w) P w K mg base N_l_bad_mosts "_law_bad_mosts" (defScope s_l_bad_mosts) T.f_l_bad_mosts cdv A outer s H E).nox B (defBody s_l_bad_mosts) (t_l_bad_mosts sp_l_wide) :=
  dss_cons (ds_set (i := 2) sc_l_bad_mosts.nd (de_lst (da_cons (de_tup (da_nil)) (da_cons (de_op o_mulT (dv 1) (de_int)) (da_cons (de_callTy (c_list) (by rfl) T.z_list (by decide +kernel) (da_cons (dv 1) (da_nil))) (da_cons (de_non) (da_cons (de_tup (da_cons (de_tup (da_cons (de_str) (da_cons (de_int) (da_nil)))) (da_nil))) (da_cons (de_tup (da_cons (de_tup (da_cons (de_str) (da_cons (de_un u_neg (de_int)) (da_nil)))) (da_nil))) (da_cons (de_tup (da_cons (de_tup (da_cons (de_str) (da_cons (de_bl) (da_nil)))) (da_nil))) (da_nil)))))))))) (dss_cons (ds_set (i := 2) sc_l_bad_mosts.nd (de_op o_add (dv 2) (de_lst (da_cons (de_tup (da_cons (de_tup (da_cons (de_str) (da_cons (de_tup (da_cons (de_str) (da_cons (de_int) (da_nil)))) (da_cons (de_tup (da_cons (de_str) (da_cons (de_int) (da_nil)))) (da_nil))))) (da_nil))) (da_cons (de_tup (da_cons (de_tup (da_cons (de_str) (da_cons (de_tup (da_cons (de_str) (da_cons (de_int) (da_nil)))) (da_nil)))) (da_nil))) (da_cons (de_tup (da_cons (de_tup (da_cons (de_str) (da_cons (de_tup (da_cons (de_str) (da_cons (de_int) (da_nil)))) (da_nil)))) (da_nil))) (da_nil))))))) (dss_cons (ds_set (i := 2) sc_l_bad_mosts.nd (de_op o_add (dv 2) (de_lst (da_cons (de_tup (da_cons (de_call G_l_wide (hr.mono (by omega)) (by rfl) T.g_l_wide T.F_l_wide.kp T.b_l_wide (dr_cons (de_int) (dr_nil))) (da_nil))) (da_cons (de_tup (da_cons (de_tup (da_cons (de_str) (da_cons (de_ix (o_ix (hu_of hr.toRoom)) (de_ix (o_ix (hu_of hr.toRoom)) (dv 0) (de_int)) (de_int)) (da_nil)))) (da_nil))) (da_cons (de_tup (da_cons (de_tup (da_cons (de_str) (da_cons (de_tup (da_cons (de_str) (da_cons (de_un u_neg (de_int)) (da_nil)))) (da_cons (de_tup (da_cons (de_str) (da_cons (de_int) (da_nil)))) (da_nil))))) (da_nil))) (da_nil))))))) (dss_cons (ds_set (i := 2) sc_l_bad_mosts.nd (de_op o_add (dv 2) (de_lst (da_cons (de_tup (da_cons (de_tup (da_cons (de_str) (da_cons (de_tup (da_cons (de_str) (da_cons (de_int) (da_nil)))) (da_cons (de_tup (da_cons (de_str) (da_cons (de_tup (da_cons (de_str) (da_cons (de_int) (da_nil)))) (da_nil)))) (da_nil))))) (da_nil))) (da_cons (de_tup (da_cons (de_tup (da_cons (de_str) (da_cons (de_tup (da_cons (de_str) (da_cons (de_int) (da_nil)))) (da_cons (de_tup (da_cons (de_str) (da_cons (de_int) (da_nil)))) (da_nil))))) (da_nil))) (da_cons (de_tup (da_cons (de_tup (da_cons (de_lst (da_nil)) (da_cons (de_int) (da_nil)))) (da_nil))) (da_nil))))))) (dss_cons (ds_set (i := 2) sc_l_bad_mosts.nd (de_op o_add (dv 2) (de_lst (da_cons (de_tup (da_cons (de_tup (da_cons (de_str) (da_cons (de_ix (o_ix (hu_of hr.toRoom)) (de_ix (o_ix (hu_of hr.toRoom)) (dv 0) (de_int)) (de_int)) (da_nil)))) (da_nil))) (da_cons (de_tup (da_cons (de_tup (da_cons (de_str) (da_cons (de_tup (da_cons (de_str) (da_cons (de_int) (da_nil)))) (da_cons (de_tup (da_cons (de_str) (da_cons (de_ix (o_ix (hu_of hr.toRoom)) (de_ix (o_ix (hu_of hr.toRoom)) (dv 0) (de_int)) (de_int)) (da_cons (de_tup (da_cons (de_str) (da_cons (de_int) (da_nil)))) (da_nil))))) (da_nil))))) (da_nil))) (da_cons (de_tup (da_cons (de_int) (da_nil))) (da_nil))))))) (dss_cons (ds_set (i := 3) sc_l_bad_mosts.nd (de_tup (da_cons (de_str) (da_cons (de_tup (da_cons (de_str) (da_cons (de_ix (o_ix (hu_of hr.toRoom)) (de_ix (o_ix (hu_of hr.toRoom)) (dv 0) (de_int)) (de_int)) (da_nil)))) (da_nil))))) (dss_cons (ds_set (i := 2) sc_l_bad_mosts.nd (de_op o_add (dv 2) (de_lst (da_cons (de_tup (da_cons (de_tup (da_cons (de_str) (da_cons (de_str) (da_nil)))) (da_nil))) (da_cons (de_tup (da_cons (de_tup (da_cons (de_str) (da_cons (de_str) (da_nil)))) (da_nil))) (da_cons (de_tup (da_cons (de_tup (da_cons (de_str) (da_cons (de_tup (da_cons (de_str) (da_cons (de_int) (da_nil)))) (da_cons (de_tup (da_cons (de_str) (da_cons (de_str) (da_nil)))) (da_nil))))) (da_nil))) (da_nil))))))) (dss_cons (ds_set (i := 2) sc_l_bad_mosts.nd (de_op o_add (dv 2) (de_lst (da_cons (de_tup (da_cons (de_tup (da_cons (de_str) (da_cons (de_tup (da_cons (de_str) (da_cons (de_ix (o_ix (hu_of hr.toRoom)) (de_ix (o_ix (hu_of hr.toRoom)) (dv 0) (de_int)) (de_int)) (da_nil)))) (da_nil)))) (da_nil))) (da_cons (de_tup (da_cons (de_tup (da_cons (de_str) (da_cons (de_tup (da_cons (de_str) (da_cons (de_str) (da_nil)))) (da_nil)))) (da_nil))) (da_cons (de_tup (da_cons (de_tup (da_cons (de_str) (da_cons (de_tup (da_cons (de_str) (da_nil))) (da_nil)))) (da_nil))) (da_nil))))))) (dss_cons (ds_set (i := 2) sc_l_bad_mosts.nd (de_op o_add (dv 2) (de_lst (da_cons (de_tup (da_cons (de_tup (da_cons (de_str) (da_cons (de_tup (da_cons (de_str) (da_cons (de_ix (o_ix (hu_of hr.toRoom)) (de_ix (o_ix (hu_of hr.toRoom)) (dv 0) (de_int)) (de_int)) (da_nil)))) (da_nil)))) (da_nil))) (da_cons (de_tup (da_cons (de_tup (da_cons (de_str) (da_cons (de_tup (da_cons (de_str) (da_cons (dv 3) (da_cons (dv 3) (da_nil))))) (da_cons (de_call G_l_wide (hr.mono (by omega)) (by rfl) T.g_l_wide T.F_l_wide.kp T.b_l_wide (dr_cons (de_int) (dr_nil))) (da_nil))))) (da_nil))) (da_nil)))))) (dss_one (ds_ret (dv 2)))))))))))
def t_l_bad_rows_1 (sp_l_take : FSpec) (sp_l_word : FSpec) (sp_l_bad_mosts : FSpec) : TD := qOp addD (qVar 2) (qTup (qCons (qTup (qCons (qOp ixD (qOp ixD (qVar 2) (qVar 12)) (qC (.int 0))) (qCons (qTup (qCons (qTup (qCons (qC (.str "num")) (qCons (qC (.int 1)) (qNil)))) (qNil))) (qCons (qTup (qCons (qC (.str "none")) (qNil))) (qNil))))) (qNil)))
def t_l_bad_rows_2 (sp_l_take : FSpec) (sp_l_word : FSpec) (sp_l_bad_mosts : FSpec) : TD := qOp addD (qSl slD (qVar 2) (qNoPart) (qPart (qC (.int 2)))) (qTup (qCons (qOp addD (qSl slD (qOp ixD (qVar 2) (qVar 12)) (qNoPart) (qPart (qC (.int 1)))) (qSl slD (qOp ixD (qVar 2) (qC (.int 2))) (qPart (qC (.int 1))) (qNoPart))) (qNil)))
def t_l_bad_rows_3 (sp_l_take : FSpec) (sp_l_word : FSpec) (sp_l_bad_mosts : FSpec) : TD := qOp addD (qVar 2) (qTup (qCons (qTup (qCons (qCall sp_l_word 1 (rSlot 0 (rNil))) (qCons (qVar 9) (qCons (qVar 10) (qNil))))) (qNil)))
def t_l_bad_rows_4 (sp_l_take : FSpec) (sp_l_word : FSpec) (sp_l_bad_mosts : FSpec) : TD := qOp addD (qVar 2) (qTup (qCons (qTup (qCons (qVar 5) (qCons (qVar 9) (qCons (qVar 10) (qNil))))) (qNil)))
def t_l_bad_rows_5 (sp_l_take : FSpec) (sp_l_word : FSpec) (sp_l_bad_mosts : FSpec) : TDS := sApp 3 (qOp addD (qOp addD (qSl slD (qVar 2) (qNoPart) (qPart (qVar 4))) (qTup (qCons (qOp addD (qTup (qCons (qVar 5) (qNil))) (qSl slD (qOp ixD (qVar 2) (qVar 4)) (qPart (qC (.int 1))) (qNoPart))) (qNil)))) (qSl slD (qVar 2) (qPart (qOp addD (qVar 4) (qC (.int 1)))) (qNoPart)))
def t_l_bad_rows_6 (sp_l_take : FSpec) (sp_l_word : FSpec) (sp_l_bad_mosts : FSpec) : TD := qOp addD (qSl slD (qVar 2) (qNoPart) (qPart (qC (.int 2)))) (qTup (qCons (qTup (qCons (qC (.str "bq")) (qCons (qVar 11) (qCons (qTup (qCons (qC (.str "none")) (qNil))) (qNil))))) (qNil)))
def t_l_bad_rows_7 (sp_l_take : FSpec) (sp_l_word : FSpec) (sp_l_bad_mosts : FSpec) : TDT := qAnd (qTest (qCl (isiD .tup) (qCons (qVar 11) (qCons (qC (.atm (.ty "tuple"))) qNil)))) (qTest (qOp eqD (qCl (n1 lenD) (qCons (qVar 11) (qNil))) (qC (.int 1))))
def t_l_bad_rows_8 (sp_l_take : FSpec) (sp_l_word : FSpec) (sp_l_bad_mosts : FSpec) : TD := qVar 11
def t_l_bad_rows_9 (sp_l_take : FSpec) (sp_l_word : FSpec) (sp_l_bad_mosts : FSpec) : TD := qOp addD (qSl slD (qVar 2) (qNoPart) (qPart (qC (.int 2)))) (qTup (qCons (qTup (qCons (qC (.str "bq")) (qCons (qOp addD (qOp addD (qTup (qCons (qTup (qCons (qC (.str "num")) (qCons (qC (.int 1)) (qNil)))) (qNil))) (qVar 11)) (qTup (qCons (qTup (qCons (qC (.str "num")) (qCons (qC (.int 2)) (qNil)))) (qNil)))) (qCons (qTup (qCons (qC (.str "none")) (qNil))) (qNil))))) (qNil)))
abbrev K_l_bad_rows (P : Program) (w : World) (base : Heap) (T : Txt K w mg) (k : Nat) (sp : FSpec) : Prop := Fk P w K mg base k T.f_l_bad_rows T.d_l_bad_rows ["_law_pen_here", "_law_needs_here", "_law_rows_here"] (spD ⟨K, P, w, mg⟩ 3 sp)
def t_l_bad_rows (sp_l_take : FSpec) (sp_l_word : FSpec) (sp_l_bad_mosts : FSpec) : TDS := sSeq (sAsg (qOp ixD (qVar 2) (qC (.int 0))) (gTupD 3 (gConsD (gN 8) (gConsD (gN 9) (gConsD (gN 10) (gNilD)))))) (sSeq (sOwn 3 (fLst (qCons (qTup (qNil)) (qCons (qCl (n1 listD) (qCons (qVar 2) (qNil))) (qCons (qC .non) (qCons (qOp addD (qVar 2) (qTup (qCons (qOp ixD (qVar 2) (qC (.int 0))) (qNil)))) (qCons (qOp addD (qVar 2) (qTup (qCons (qTup (qCons (qC (.str "bq")) (qCons (qVar 9) (qCons (qVar 10) (qNil))))) (qCons (qTup (qCons (qC (.str "cq")) (qCons (qVar 9) (qCons (qVar 10) (qNil))))) (qNil))))) (qCons (qOp addD (qVar 2) (qTup (qCons (qC .non) (qNil)))) (qNil))))))))) (sFz 3 (sSeq (sOwn 3 (fAdd (qVar 3) (qLst (qCons (qOp addD (qVar 2) (qTup (qCons (qTup (qCons (qOp ixD (qOp ixD (qVar 1) (qCall sp_l_take 2 (rSlot 0 (rCons (qC (.int 4)) (rNil))))) (qC (.int 0))) (qCons (qVar 9) (qCons (qVar 10) (qNil))))) (qNil)))) (qCons (qOp addD (qVar 2) (qTup (qCons (qTup (qCons (qC (.str "if")) (qCons (qVar 9) (qCons (qVar 10) (qNil))))) (qNil)))) (qNil)))))) (sFz 3 (sSeq (sOwn 3 (fAdd (qVar 3) (qLst (qCons (qOp addD (qVar 2) (qTup (qCons (qTup (qCons (qC (.str "b")) (qCons (qVar 9) (qCons (qVar 10) (qNil))))) (qNil)))) (qCons (qOp addD (qVar 2) (qTup (qCons (qTup (qCons (qC (.str "bq")) (qCons (qVar 9) (qNil)))) (qNil)))) (qCons (qOp addD (qVar 2) (qTup (qCons (qTup (qCons (qC (.str "bq")) (qCons (qVar 9) (qCons (qVar 10) (qCons (qVar 10) (qNil)))))) (qNil)))) (qNil))))))) (sFz 3 (sSeq (sOwn 3 (fAdd (qVar 3) (qFz (fComp (qRg1 (qCons (qC (.int 3)) (qNil))) (gN 12) (qYes) ((t_l_bad_rows_1 sp_l_take sp_l_word sp_l_bad_mosts)) [12])))) (sFz 3 (sSeq (sOwn 3 (fAdd (qVar 3) (qFz (fComp (qRg1 (qCons (qC (.int 2)) (qNil))) (gN 12) (qYes) ((t_l_bad_rows_2 sp_l_take sp_l_word sp_l_bad_mosts)) [12])))) (sSeq (sApp 3 (qOp addD (qTup (qCons (qOp addD (qSl slD (qOp ixD (qVar 2) (qC (.int 2))) (qNoPart) (qPart (qC (.int 1)))) (qSl slD (qOp ixD (qVar 2) (qC (.int 0))) (qPart (qC (.int 1))) (qNoPart))) (qNil))) (qSl slD (qVar 2) (qPart (qC (.int 1))) (qNoPart)))) (sFz 3 (sSeq (sOwn 3 (fAdd (qVar 3) (qLst (qCons (qOp addD (qVar 2) (qTup (qCons (qLst (qCons (qC (.str "bq")) (qCons (qVar 9) (qCons (qVar 10) (qNil))))) (qNil)))) (qCons (qOp addD (qVar 2) (qTup (qCons (qTup (qCons (qLst (qNil)) (qCons (qVar 9) (qCons (qVar 10) (qNil))))) (qNil)))) (qCons (qOp addD (qVar 2) (qTup (qCons (qTup (qCons (qC .non) (qCons (qVar 9) (qCons (qVar 10) (qNil))))) (qNil)))) (qNil))))))) (sFz 3 (sSeq (sOwn 3 (fAdd (qVar 3) (qFz (fComp (qRg1 (qCons (qC (.int 6)) (qNil))) (gN 12) (qYes) ((t_l_bad_rows_3 sp_l_take sp_l_word sp_l_bad_mosts)) [12])))) (sFz 3 (sSeq (sOwn 3 (fAdd (qVar 3) (qFz (fComp (qIter (qTup (qCons (qC (.str "Qa")) (qCons (qC (.str "f1")) (qCons (qC (.str "abcdefghi")) (qCons (qC (.str "q a")) (qCons (qC (.str "aq\n")) (qCons (qC (.str " aq")) (qNil))))))))) (gN 5) (qYes) ((t_l_bad_rows_4 sp_l_take sp_l_word sp_l_bad_mosts)) [5])))) (sSeq (sAsg (qCall sp_l_take 2 (rSlot 0 (rCons (qC (.int 2)) (rNil)))) (gN 4)) (sSeq (sFor (qIter (qTup (qCons (qOp ixD (qOp ixD (qVar 1) (qCall sp_l_take 2 (rSlot 0 (rCons (qC (.int 4)) (rNil))))) (qC (.int 0))) (qCons (qCall sp_l_word 1 (rSlot 0 (rNil))) (qCons (qC (.str "Qa")) (qCons (qC (.str "b")) (qCons (qC (.str "abcdefghi")) (qCons (qC .non) (qCons (qC (.str "aq ")) (qNil)))))))))) (gN 5) ((t_l_bad_rows_5 sp_l_take sp_l_word sp_l_bad_mosts))) (sSeq (sAsg (qCall sp_l_bad_mosts 2 (rCons (qVar 1) (rCons (qVar 9) (rNil)))) (gN 6)) (sFz 3 (sSeq (sOwn 3 (fAdd (qVar 3) (qFz (fComp (qIter (qVar 6)) (gN 11) (qYes) ((t_l_bad_rows_6 sp_l_take sp_l_word sp_l_bad_mosts)) [11])))) (sSeq (sFzAt 7 (sOwn 7 (fComp (qIter (qVar 6)) (gN 11) ((t_l_bad_rows_7 sp_l_take sp_l_word sp_l_bad_mosts)) ((t_l_bad_rows_8 sp_l_take sp_l_word sp_l_bad_mosts)) [11]))) (sFz 3 (sSeq (sOwn 3 (fAdd (qVar 3) (qFz (fComp (qIter (qVar 7)) (gN 11) (qYes) ((t_l_bad_rows_9 sp_l_take sp_l_word sp_l_bad_mosts)) [11])))) (sRet (qIxO 3 (qCall sp_l_take 2 (rSlot 0 (rCons (qClO (n1 lenD) 3) (rNil))))))))))))))))))))))))))))))
set_option maxHeartbeats 4000000 in
theorem d_l_bad_rows (T : Txt K w mg) {k : Nat} {k_l_take : Nat} {sp_l_take : FSpec} (G_l_take : Fk P w K mg base k_l_take T.f_l_take T.d_l_take ["_law_pen_here", "_law_many"] (spD ⟨K, P, w, mg⟩ 2 sp_l_take)) (h_l_take : k_l_take ≤ k) {k_l_word : Nat} {sp_l_word : FSpec} (G_l_word : Fk P w K mg base k_l_word T.f_l_word T.d_l_word ["_law_pen_here"] (spD ⟨K, P, w, mg⟩ 1 sp_l_word)) (h_l_word : k_l_word ≤ k) {k_l_bad_mosts : Nat} {sp_l_bad_mosts : FSpec} (G_l_bad_mosts : Fk P w K mg base k_l_bad_mosts T.f_l_bad_mosts T.d_l_bad_mosts ["_law_needs_here", "_law_mosts"] (spD ⟨K, P, w, mg⟩ 2 sp_l_bad_mosts)) (h_l_bad_mosts : k_l_bad_mosts ≤ k) {cdv : Value} {A : Around} {outer : List Env} {s : Shared} {H : Hp} {E : XK} {B : Bd} (hr : Rm k (A.deeper (envOfC "_law_bad_rows" (defScope s_l_bad_rows) s.heap.objs.size T.f_l_bad_rows cdv))) :
    DSs (cxOf (L2.CX P w) P w K mg base N_l_bad_rows "_law_bad_rows" (defScope s_l_bad_rows) T.f_l_bad_rows cdv A outer s H E).nox B (defBody s_l_bad_rows) (t_l_bad_rows sp_l_take sp_l_word sp_l_bad_mosts) :=
  dss_cons (ds_asg (de_ix (o_ix (hu_of hr.toRoom)) (dv 2) (de_int)) (dg_tup rfl (dgs_cons (dg_name (i := 8) sc_l_bad_rows.nd) (dgs_cons (dg_name (i := 9) sc_l_bad_rows.nd) (dgs_cons (dg_name (i := 10) sc_l_bad_rows.nd) (dgs_nil)))))) (dss_cons (ds_own (i := 3) sc_l_bad_rows.nd (df_lst (da_cons (de_tup (da_nil)) (da_cons (de_callTy (c_list) (by rfl) T.z_list (by decide +kernel) (da_cons (dv 2) (da_nil))) (da_cons (de_non) (da_cons (de_op o_add (dv 2) (de_tup (da_cons (de_ix (o_ix (hu_of hr.toRoom)) (dv 2) (de_int)) (da_nil)))) (da_cons (de_op o_add (dv 2) (de_tup (da_cons (de_tup (da_cons (de_str) (da_cons (dv 9) (da_cons (dv 10) (da_nil))))) (da_cons (de_tup (da_cons (de_str) (da_cons (dv 9) (da_cons (dv 10) (da_nil))))) (da_nil))))) (da_cons (de_op o_add (dv 2) (de_tup (da_cons (de_non) (da_nil)))) (da_nil))))))))) (dss_fz 3 (dss_cons (ds_own (i := 3) sc_l_bad_rows.nd (df_add (dv 3) (de_lst (da_cons (de_op o_add (dv 2) (de_tup (da_cons (de_tup (da_cons (de_ix (o_ix (hu_of hr.toRoom)) (de_ix (o_ix (hu_of hr.toRoom)) (dv 1) (de_call G_l_take (hr.mono (by omega)) (by rfl) T.g_l_take T.F_l_take.kp T.b_l_take (dr_slot (i := 0) (pv 0) (dr_cons (de_int) (dr_nil))))) (de_int)) (da_cons (dv 9) (da_cons (dv 10) (da_nil))))) (da_nil)))) (da_cons (de_op o_add (dv 2) (de_tup (da_cons (de_tup (da_cons (de_str) (da_cons (dv 9) (da_cons (dv 10) (da_nil))))) (da_nil)))) (da_nil)))))) (dss_fz 3 (dss_cons (ds_own (i := 3) sc_l_bad_rows.nd (df_add (dv 3) (de_lst (da_cons (de_op o_add (dv 2) (de_tup (da_cons (de_tup (da_cons (de_str) (da_cons (dv 9) (da_cons (dv 10) (da_nil))))) (da_nil)))) (da_cons (de_op o_add (dv 2) (de_tup (da_cons (de_tup (da_cons (de_str) (da_cons (dv 9) (da_nil)))) (da_nil)))) (da_cons (de_op o_add (dv 2) (de_tup (da_cons (de_tup (da_cons (de_str) (da_cons (dv 9) (da_cons (dv 10) (da_cons (dv 10) (da_nil)))))) (da_nil)))) (da_nil))))))) (dss_fz 3 (dss_cons (ds_own (i := 3) sc_l_bad_rows.nd (df_add (dv 3) (DF.de (df_comp (own := [("_law_k", 12)]) rfl sc_l_bad_rows.nd (di_range1 (by rfl) T.z_range (da_cons (de_int) (da_nil))) (blkOk_by (own := [("_law_k", 12)]) (N := N_l_bad_rows) (sc := defScope s_l_bad_rows) (by decide +kernel)) (fun _ _ _ _ _ _ => dg_name (i := 12) sc_l_bad_rows.nd) (fun _ _ _ _ _ _ => dts_nil) (fun _ _ _ _ _ _ => de_op o_add (dv 2) (de_tup (da_cons (de_tup (da_cons (de_ix (o_ix (hu_of hr.toRoom)) (de_ix (o_ix (hu_of hr.toRoom)) (dv 2) (dv 12)) (de_int)) (da_cons (de_tup (da_cons (de_tup (da_cons (de_str) (da_cons (de_int) (da_nil)))) (da_nil))) (da_cons (de_tup (da_cons (de_str) (da_nil))) (da_nil))))) (da_nil)))))))) (dss_fz 3 (dss_cons (ds_own (i := 3) sc_l_bad_rows.nd (df_add (dv 3) (DF.de (df_comp (own := [("_law_k", 12)]) rfl sc_l_bad_rows.nd (di_range1 (by rfl) T.z_range (da_cons (de_int) (da_nil))) (blkOk_by (own := [("_law_k", 12)]) (N := N_l_bad_rows) (sc := defScope s_l_bad_rows) (by decide +kernel)) (fun _ _ _ _ _ _ => dg_name (i := 12) sc_l_bad_rows.nd) (fun _ _ _ _ _ _ => dts_nil) (fun _ _ _ _ _ _ => de_op o_add (de_slice o_sl (dv 2) (do_none) (do_some (de_int))) (de_tup (da_cons (de_op o_add (de_slice o_sl (de_ix (o_ix (hu_of hr.toRoom)) (dv 2) (dv 12)) (do_none) (do_some (de_int))) (de_slice o_sl (de_ix (o_ix (hu_of hr.toRoom)) (dv 2) (de_int)) (do_some (de_int)) (do_none))) (da_nil)))))))) (dss_cons (ds_append (i := 3) (pe_bm PySem.F.plainAttrs_list PySem.F.slot_list_append PySem.F.type_list_append mt_append (pv 3) (pa_cons (DE.pe (de_op o_add (de_tup (da_cons (de_op o_add (de_slice o_sl (de_ix (o_ix (hu_of hr.toRoom)) (dv 2) (de_int)) (do_none) (do_some (de_int))) (de_slice o_sl (de_ix (o_ix (hu_of hr.toRoom)) (dv 2) (de_int)) (do_some (de_int)) (do_none))) (da_nil))) (de_slice o_sl (dv 2) (do_some (de_int)) (do_none)))) pa_nil))) (dss_fz 3 (dss_cons (ds_own (i := 3) sc_l_bad_rows.nd (df_add (dv 3) (de_lst (da_cons (de_op o_add (dv 2) (de_tup (da_cons (de_lst (da_cons (de_str) (da_cons (dv 9) (da_cons (dv 10) (da_nil))))) (da_nil)))) (da_cons (de_op o_add (dv 2) (de_tup (da_cons (de_tup (da_cons (de_lst (da_nil)) (da_cons (dv 9) (da_cons (dv 10) (da_nil))))) (da_nil)))) (da_cons (de_op o_add (dv 2) (de_tup (da_cons (de_tup (da_cons (de_non) (da_cons (dv 9) (da_cons (dv 10) (da_nil))))) (da_nil)))) (da_nil))))))) (dss_fz 3 (dss_cons (ds_own (i := 3) sc_l_bad_rows.nd (df_add (dv 3) (DF.de (df_comp (own := [("_law_k", 12)]) rfl sc_l_bad_rows.nd (di_range1 (by rfl) T.z_range (da_cons (de_int) (da_nil))) (blkOk_by (own := [("_law_k", 12)]) (N := N_l_bad_rows) (sc := defScope s_l_bad_rows) (by decide +kernel)) (fun _ _ _ _ _ _ => dg_name (i := 12) sc_l_bad_rows.nd) (fun _ _ _ _ _ _ => dts_nil) (fun _ _ _ _ _ _ => de_op o_add (dv 2) (de_tup (da_cons (de_tup (da_cons (de_call G_l_word (hr.mono (by omega)) (by rfl) T.g_l_word T.F_l_word.kp T.b_l_word (dr_slot (i := 0) (pv 0) (dr_nil))) (da_cons (dv 9) (da_cons (dv 10) (da_nil))))) (da_nil)))))))) (dss_fz 3 (dss_cons (ds_own (i := 3) sc_l_bad_rows.nd (df_add (dv 3) (DF.de (df_comp (own := [("_law_word_here", 5)]) rfl sc_l_bad_rows.nd (di_any (de_tup (da_cons (de_str) (da_cons (de_str) (da_cons (de_str) (da_cons (de_str) (da_cons (de_str) (da_cons (de_str) (da_nil))))))))) (blkOk_by (own := [("_law_word_here", 5)]) (N := N_l_bad_rows) (sc := defScope s_l_bad_rows) (by decide +kernel)) (fun _ _ _ _ _ _ => dg_name (i := 5) sc_l_bad_rows.nd) (fun _ _ _ _ _ _ => dts_nil) (fun _ _ _ _ _ _ => de_op o_add (dv 2) (de_tup (da_cons (de_tup (da_cons (dv 5) (da_cons (dv 9) (da_cons (dv 10) (da_nil))))) (da_nil)))))))) (dss_cons (ds_set (i := 4) sc_l_bad_rows.nd (de_call G_l_take (hr.mono (by omega)) (by rfl) T.g_l_take T.F_l_take.kp T.b_l_take (dr_slot (i := 0) (pv 0) (dr_cons (de_int) (dr_nil))))) (dss_cons (ds_for PassesOwn.never rfl (di_any (de_tup (da_cons (de_ix (o_ix (hu_of hr.toRoom)) (de_ix (o_ix (hu_of hr.toRoom)) (dv 1) (de_call G_l_take (hr.mono (by omega)) (by rfl) T.g_l_take T.F_l_take.kp T.b_l_take (dr_slot (i := 0) (pv 0) (dr_cons (de_int) (dr_nil))))) (de_int)) (da_cons (de_call G_l_word (hr.mono (by omega)) (by rfl) T.g_l_word T.F_l_word.kp T.b_l_word (dr_slot (i := 0) (pv 0) (dr_nil))) (da_cons (de_str) (da_cons (de_str) (da_cons (de_str) (da_cons (de_non) (da_cons (de_str) (da_nil)))))))))) (dg_name (i := 5) sc_l_bad_rows.nd) (dss_one (ds_append (i := 3) (pe_bm PySem.F.plainAttrs_list PySem.F.slot_list_append PySem.F.type_list_append mt_append (pv 3) (pa_cons (DE.pe (de_op o_add (de_op o_add (de_slice o_sl (dv 2) (do_none) (do_some (dv 4))) (de_tup (da_cons (de_op o_add (de_tup (da_cons (dv 5) (da_nil))) (de_slice o_sl (de_ix (o_ix (hu_of hr.toRoom)) (dv 2) (dv 4)) (do_some (de_int)) (do_none))) (da_nil)))) (de_slice o_sl (dv 2) (do_some (de_op o_add (dv 4) (de_int))) (do_none)))) pa_nil))))) (dss_cons (ds_set (i := 6) sc_l_bad_rows.nd (de_call G_l_bad_mosts (hr.mono (by omega)) (by rfl) T.g_l_bad_mosts T.F_l_bad_mosts.kp T.b_l_bad_mosts (dr_cons (dv 1) (dr_cons (dv 9) (dr_nil))))) (dss_fz 3 (dss_cons (ds_own (i := 3) sc_l_bad_rows.nd (df_add (dv 3) (DF.de (df_comp (own := [("_law_one", 11)]) rfl sc_l_bad_rows.nd (di_any (dv 6)) (blkOk_by (own := [("_law_one", 11)]) (N := N_l_bad_rows) (sc := defScope s_l_bad_rows) (by decide +kernel)) (fun _ _ _ _ _ _ => dg_name (i := 11) sc_l_bad_rows.nd) (fun _ _ _ _ _ _ => dts_nil) (fun _ _ _ _ _ _ => de_op o_add (de_slice o_sl (dv 2) (do_none) (do_some (de_int))) (de_tup (da_cons (de_tup (da_cons (de_str) (da_cons (dv 11) (da_cons (de_tup (da_cons (de_str) (da_nil))) (da_nil))))) (da_nil)))))))) (dss_cons (ds_keep 7 (ds_ownLc (i := 7) (own := [("_law_one", 11)]) rfl sc_l_bad_rows.nd (di_any (dv 6)) (blkOk_by (own := [("_law_one", 11)]) (N := N_l_bad_rows) (sc := defScope s_l_bad_rows) (by decide +kernel)) (fun _ _ _ _ _ _ => dg_name (i := 11) sc_l_bad_rows.nd) (fun _ _ _ _ _ _ => dts_one (DW.dt (dw_and (dt_val (de_callB (c_isi .tup) (by rfl) T.z_isinstance (by decide +kernel) (da_cons (dv 11) (da_cons (de_bty (by rfl) T.z_tuple (by decide +kernel)) da_nil)))) (dw_and1 (dt_cmp (o_eq hr.units) (de_callB (c_len) (by rfl) T.z_len (by decide +kernel) (da_cons (dv 11) (da_nil))) (de_int) (nomark _)))))) (fun _ _ _ _ _ _ => dv 11) (sw_true rfl rfl rfl (by decide +kernel)))) (dss_fz 3 (dss_cons (ds_own (i := 3) sc_l_bad_rows.nd (df_add (dv 3) (DF.de (df_comp (own := [("_law_one", 11)]) rfl sc_l_bad_rows.nd (di_any (dv 7)) (blkOk_by (own := [("_law_one", 11)]) (N := N_l_bad_rows) (sc := defScope s_l_bad_rows) (by decide +kernel)) (fun _ _ _ _ _ _ => dg_name (i := 11) sc_l_bad_rows.nd) (fun _ _ _ _ _ _ => dts_nil) (fun _ _ _ _ _ _ => de_op o_add (de_slice o_sl (dv 2) (do_none) (do_some (de_int))) (de_tup (da_cons (de_tup (da_cons (de_str) (da_cons (de_op o_add (de_op o_add (de_tup (da_cons (de_tup (da_cons (de_str) (da_cons (de_int) (da_nil)))) (da_nil))) (dv 11)) (de_tup (da_cons (de_tup (da_cons (de_str) (da_cons (de_int) (da_nil)))) (da_nil)))) (da_cons (de_tup (da_cons (de_str) (da_nil))) (da_nil))))) (da_nil)))))))) (dss_one (ds_ret (de_ixO (i := 3) (pe_ix ix_list (pv 3) (DE.pe (de_call G_l_take (hr.mono (by omega)) (by rfl) T.g_l_take T.F_l_take.kp T.b_l_take (dr_slot (i := 0) (pv 0) (dr_cons (de_clO (i := 3) (c_len) (fun r h => pe_callB h (by rfl) T.z_len (by decide +kernel) (pa_cons (pv 3) pa_nil))) (dr_nil))))) (fun _ _ => rfl)))))))))))))))))))))))))))))
def t_l_halves_1 : TDS := sAsg (qTup (qCons (qC (.str "half")) (qCons (qVar 1) (qNil)))) (gN 1)
abbrev K_l_halves (P : Program) (w : World) (base : Heap) (T : Txt K w mg) (k : Nat) (sp : FSpec) : Prop := Fk P w K mg base k T.f_l_halves T.d_l_halves ["_law_many"] (spD ⟨K, P, w, mg⟩ 1 sp)
def t_l_halves : TDS := sSeq (sAsg (qTup (qCons (qC (.str "own")) (qCons (qC (.int 0)) (qNil)))) (gN 1)) (sSeq (sFor (qRg1 (qCons (qVar 0) (qNil))) (gN 2) (t_l_halves_1)) (sRet (qVar 1)))
set_option maxHeartbeats 4000000 in
theorem d_l_halves (T : Txt K w mg) {k : Nat}  {cdv : Value} {A : Around} {outer : List Env} {s : Shared} {H : Hp} {E : XK} {B : Bd} (hr : Rm k (A.deeper (envOfC "_law_halves" (defScope s_l_halves) s.heap.objs.size T.f_l_halves cdv))) :
    DSs (cxOf (L2.CX P w) P w K mg base N_l_halves "_law_halves" (defScope s_l_halves) T.f_l_halves cdv A outer s H E).nox B (defBody s_l_halves) (t_l_halves) :=
  dss_cons (ds_set (i := 1) sc_l_halves.nd (de_tup (da_cons (de_str) (da_cons (de_int) (da_nil))))) (dss_cons (ds_for PassesOwn.never rfl (di_range1 (by rfl) T.z_range (da_cons (dv 0) (da_nil))) (dg_name (i := 2) sc_l_halves.nd) (dss_one (ds_set (i := 1) sc_l_halves.nd (de_tup (da_cons (de_str) (da_cons (dv 1) (da_nil))))))) (dss_one (ds_ret (dv 1))))
abbrev K_l_too_great (P : Program) (w : World) (base : Heap) (T : Txt K w mg) (k : Nat) (sp : FSpec) : Prop := Fk P w K mg base k T.f_l_too_great T.d_l_too_great ["_law_pen_here"] (spD ⟨K, P, w, mg⟩ 1 sp)
def t_l_too_great (sp_l_wide : FSpec) (sp_l_halves : FSpec) (sp_l_take : FSpec) : TDS := sSeq (sAsg (qTup (qCons (qC (.str "own")) (qCons (qC (.int 0)) (qNil)))) (gN 1)) (sSeq (sAsg (qTup (qCons (qC (.str "none")) (qNil))) (gN 2)) (sSeq (sAsg (qLst (qCons (qTup (qCons (qC (.str "if")) (qCons (qTup (qCons (qC (.str "below")) (qCons (qCall sp_l_wide 1 (rCons (qC (.int 29)) (rNil))) (qCons (qVar 1) (qNil))))) (qCons (qVar 2) (qCons (qVar 2) (qNil)))))) (qNil))) (gN 3)) (sSeq (sAsg (qOp addD (qVar 3) (qLst (qCons (qTup (qCons (qC (.str "if")) (qCons (qTup (qCons (qC (.str "not")) (qCons (qTup (qCons (qC (.str "same")) (qCons (qVar 1) (qCons (qCall sp_l_wide 1 (rCons (qC (.int 29)) (rNil))) (qNil))))) (qNil)))) (qCons (qVar 2) (qCons (qVar 2) (qNil)))))) (qCons (qTup (qCons (qC (.str "call")) (qCons (qC (.int 0)) (qCons (qTup (qCons (qCall sp_l_wide 1 (rCons (qC (.int 31)) (rNil))) (qNil))) (qNil))))) (qNil))))) (gN 3)) (sSeq (sAsg (qOp addD (qVar 3) (qLst (qCons (qTup (qCons (qC (.str "each")) (qCons (qCall sp_l_wide 1 (rCons (qC (.int 30)) (rNil))) (qCons (qVar 1) (qCons (qVar 2) (qNil)))))) (qCons (qTup (qCons (qC (.str "all")) (qCons (qVar 1) (qCons (qCall sp_l_wide 1 (rCons (qC (.int 30)) (rNil))) (qCons (qVar 2) (qNil)))))) (qCons (qTup (qCons (qC (.str "gain")) (qCons (qCall sp_l_wide 1 (rCons (qC (.int 31)) (rNil))) (qNil)))) (qNil)))))) (gN 3)) (sSeq (sAsg (qOp addD (qVar 3) (qLst (qCons (qTup (qCons (qC (.str "gain")) (qCons (qCall sp_l_halves 1 (rCons (qC (.int 11)) (rNil))) (qNil)))) (qCons (qTup (qCons (qC (.str "call")) (qCons (qC (.int 0)) (qCons (qTup (qCons (qCall sp_l_halves 1 (rCons (qC (.int 11)) (rNil))) (qNil))) (qNil))))) (qNil))))) (gN 3)) (sSeq (sAsg (qOp addD (qVar 3) (qLst (qCons (qTup (qCons (qC (.str "if")) (qCons (qTup (qCons (qC (.str "not")) (qCons (qTup (qCons (qC (.str "same")) (qCons (qVar 1) (qCons (qCall sp_l_halves 1 (rCons (qC (.int 9)) (rNil))) (qNil))))) (qNil)))) (qCons (qVar 2) (qCons (qVar 2) (qNil)))))) (qCons (qTup (qCons (qC (.str "each")) (qCons (qVar 1) (qCons (qCall sp_l_halves 1 (rCons (qC (.int 11)) (rNil))) (qCons (qVar 2) (qNil)))))) (qNil))))) (gN 3)) (sRet (qOp ixD (qVar 3) (qCall sp_l_take 2 (rSlot 0 (rCons (qC (.int 10)) (rNil))))))))))))
set_option maxHeartbeats 4000000 in
theorem d_l_too_great (T : Txt K w mg) {k : Nat} {k_l_wide : Nat} {sp_l_wide : FSpec} (G_l_wide : Fk P w K mg base k_l_wide T.f_l_wide T.d_l_wide ["_law_many"] (spD ⟨K, P, w, mg⟩ 1 sp_l_wide)) (h_l_wide : k_l_wide ≤ k) {k_l_halves : Nat} {sp_l_halves : FSpec} (G_l_halves : Fk P w K mg base k_l_halves T.f_l_halves T.d_l_halves ["_law_many"] (spD ⟨K, P, w, mg⟩ 1 sp_l_halves)) (h_l_halves : k_l_halves ≤ k) {k_l_take : Nat} {sp_l_take : FSpec} (G_l_take : Fk P w K mg base k_l_take T.f_l_take T.d_l_take ["_law_pen_here", "_law_many"] (spD ⟨K, P, w, mg⟩ 2 sp_l_take)) (h_l_take : k_l_take ≤ k) {cdv : Value} {A : Around} {outer : List Env} {s : Shared} {H : Hp} {E : XK} {B : Bd} (hr : Rm k (A.deeper (envOfC "_law_too_great" (defScope s_l_too_great) s.heap.objs.size T.f_l_too_great cdv))) :
    DSs (cxOf (L2.CX P w) P w K mg base N_l_too_great "_law_too_great" (defScope s_l_too_great) T.f_l_too_great cdv A outer s H E).nox B (defBody s_l_too_great) (t_l_too_great sp_l_wide sp_l_halves sp_l_take) :=
  dss_cons (ds_set (i := 1) sc_l_too_great.nd (de_tup (da_cons (de_str) (da_cons (de_int) (da_nil))))) (dss_cons (ds_set (i := 2) sc_l_too_great.nd (de_tup (da_cons (de_str) (da_nil)))) (dss_cons (ds_set (i := 3) sc_l_too_great.nd (de_lst (da_cons (de_tup (da_cons (de_str) (da_cons (de_tup (da_cons (de_str) (da_cons (de_call G_l_wide (hr.mono (by omega)) (by rfl) T.g_l_wide T.F_l_wide.kp T.b_l_wide (dr_cons (de_int) (dr_nil))) (da_cons (dv 1) (da_nil))))) (da_cons (dv 2) (da_cons (dv 2) (da_nil)))))) (da_nil)))) (dss_cons (ds_set (i := 3) sc_l_too_great.nd (de_op o_add (dv 3) (de_lst (da_cons (de_tup (da_cons (de_str) (da_cons (de_tup (da_cons (de_str) (da_cons (de_tup (da_cons (de_str) (da_cons (dv 1) (da_cons (de_call G_l_wide (hr.mono (by omega)) (by rfl) T.g_l_wide T.F_l_wide.kp T.b_l_wide (dr_cons (de_int) (dr_nil))) (da_nil))))) (da_nil)))) (da_cons (dv 2) (da_cons (dv 2) (da_nil)))))) (da_cons (de_tup (da_cons (de_str) (da_cons (de_int) (da_cons (de_tup (da_cons (de_call G_l_wide (hr.mono (by omega)) (by rfl) T.g_l_wide T.F_l_wide.kp T.b_l_wide (dr_cons (de_int) (dr_nil))) (da_nil))) (da_nil))))) (da_nil)))))) (dss_cons (ds_set (i := 3) sc_l_too_great.nd (de_op o_add (dv 3) (de_lst (da_cons (de_tup (da_cons (de_str) (da_cons (de_call G_l_wide (hr.mono (by omega)) (by rfl) T.g_l_wide T.F_l_wide.kp T.b_l_wide (dr_cons (de_int) (dr_nil))) (da_cons (dv 1) (da_cons (dv 2) (da_nil)))))) (da_cons (de_tup (da_cons (de_str) (da_cons (dv 1) (da_cons (de_call G_l_wide (hr.mono (by omega)) (by rfl) T.g_l_wide T.F_l_wide.kp T.b_l_wide (dr_cons (de_int) (dr_nil))) (da_cons (dv 2) (da_nil)))))) (da_cons (de_tup (da_cons (de_str) (da_cons (de_call G_l_wide (hr.mono (by omega)) (by rfl) T.g_l_wide T.F_l_wide.kp T.b_l_wide (dr_cons (de_int) (dr_nil))) (da_nil)))) (da_nil))))))) (dss_cons (ds_set (i := 3) sc_l_too_great.nd (de_op o_add (dv 3) (de_lst (da_cons (de_tup (da_cons (de_str) (da_cons (de_call G_l_halves (hr.mono (by omega)) (by rfl) T.g_l_halves T.F_l_halves.kp T.b_l_halves (dr_cons (de_int) (dr_nil))) (da_nil)))) (da_cons (de_tup (da_cons (de_str) (da_cons (de_int) (da_cons (de_tup (da_cons (de_call G_l_halves (hr.mono (by omega)) (by rfl) T.g_l_halves T.F_l_halves.kp T.b_l_halves (dr_cons (de_int) (dr_nil))) (da_nil))) (da_nil))))) (da_nil)))))) (dss_cons (ds_set (i := 3) sc_l_too_great.nd (de_op o_add (dv 3) (de_lst (da_cons (de_tup (da_cons (de_str) (da_cons (de_tup (da_cons (de_str) (da_cons (de_tup (da_cons (de_str) (da_cons (dv 1) (da_cons (de_call G_l_halves (hr.mono (by omega)) (by rfl) T.g_l_halves T.F_l_halves.kp T.b_l_halves (dr_cons (de_int) (dr_nil))) (da_nil))))) (da_nil)))) (da_cons (dv 2) (da_cons (dv 2) (da_nil)))))) (da_cons (de_tup (da_cons (de_str) (da_cons (dv 1) (da_cons (de_call G_l_halves (hr.mono (by omega)) (by rfl) T.g_l_halves T.F_l_halves.kp T.b_l_halves (dr_cons (de_int) (dr_nil))) (da_cons (dv 2) (da_nil)))))) (da_nil)))))) (dss_one (ds_ret (de_ix (o_ix (hu_of hr.toRoom)) (dv 3) (de_call G_l_take (hr.mono (by omega)) (by rfl) T.g_l_take T.F_l_take.kp T.b_l_take (dr_slot (i := 0) (pv 0) (dr_cons (de_int) (dr_nil)))))))))))))
abbrev K_l_turns_behind (P : Program) (w : World) (base : Heap) (T : Txt K w mg) (k : Nat) (sp : FSpec) : Prop := Fk P w K mg base k T.f_l_turns_behind T.d_l_turns_behind ["_law_own", "_law_far"] (spD ⟨K, P, w, mg⟩ 2 sp)
def t_l_turns_behind : TDS := sSeq (sAsg (qTup (qCons (qC (.str "each")) (qCons (qVar 0) (qCons (qVar 0) (qCons (qTup (qCons (qC (.str "none")) (qNil))) (qNil)))))) (gN 2)) (sSeq (sAsg (qTup (qCons (qC (.str "gain")) (qCons (qVar 1) (qNil)))) (gN 3)) (sSeq (sOwn 4 (fLst (qCons (qTup (qCons (qC (.str "both")) (qCons (qVar 2) (qCons (qVar 3) (qNil))))) (qCons (qTup (qCons (qC (.str "choose")) (qCons (qTup (qCons (qTup (qCons (qC (.str "all")) (qCons (qVar 0) (qCons (qVar 0) (qCons (qVar 3) (qNil)))))) (qCons (qVar 3) (qNil)))) (qNil)))) (qCons (qTup (qCons (qC (.str "if")) (qCons (qTup (qCons (qC (.str "same")) (qCons (qVar 0) (qCons (qVar 0) (qNil))))) (qCons (qVar 2) (qCons (qVar 3) (qNil)))))) (qNil)))))) (sFz 4 (sSeq (sOwn 4 (fAdd (qVar 4) (qLst (qCons (qTup (qCons (qC (.str "both")) (qCons (qVar 2) (qCons (qTup (qCons (qC (.str "each")) (qCons (qVar 1) (qCons (qVar 0) (qCons (qTup (qCons (qC (.str "none")) (qNil))) (qNil)))))) (qNil))))) (qCons (qTup (qCons (qC (.str "both")) (qCons (qVar 2) (qCons (qTup (qCons (qC (.str "call")) (qCons (qC (.int 0)) (qCons (qTup (qCons (qVar 1) (qNil))) (qNil))))) (qNil))))) (qNil)))))) (sFz 4 (sSeq (sOwn 4 (fAdd (qVar 4) (qLst (qCons (qTup (qCons (qC (.str "each")) (qCons (qVar 0) (qCons (qVar 0) (qCons (qTup (qCons (qC (.str "both")) (qCons (qTup (qCons (qC (.str "none")) (qNil))) (qCons (qTup (qCons (qC (.str "all")) (qCons (qVar 0) (qCons (qVar 0) (qCons (qTup (qCons (qC (.str "choose")) (qCons (qTup (qCons (qTup (qCons (qC (.str "none")) (qNil))) (qCons (qVar 2) (qNil)))) (qNil)))) (qNil)))))) (qNil))))) (qNil)))))) (qNil))))) (sSeq (sApp 4 (qTup (qCons (qC (.str "all")) (qCons (qVar 0) (qCons (qVar 0) (qCons (qTup (qCons (qC (.str "if")) (qCons (qTup (qCons (qC (.str "same")) (qCons (qVar 0) (qCons (qVar 0) (qNil))))) (qCons (qTup (qCons (qC (.str "none")) (qNil))) (qCons (qTup (qCons (qC (.str "each")) (qCons (qVar 0) (qCons (qVar 0) (qCons (qTup (qCons (qC (.str "both")) (qCons (qVar 2) (qCons (qTup (qCons (qC (.str "none")) (qNil))) (qNil))))) (qNil)))))) (qNil)))))) (qNil))))))) (sSeq (sApp 4 (qTup (qCons (qC (.str "both")) (qCons (qTup (qCons (qC (.str "all")) (qCons (qVar 0) (qCons (qVar 0) (qCons (qTup (qCons (qC (.str "each")) (qCons (qVar 0) (qCons (qVar 0) (qCons (qVar 3) (qNil)))))) (qNil)))))) (qCons (qTup (qCons (qC (.str "all")) (qCons (qVar 0) (qCons (qVar 0) (qCons (qTup (qCons (qC (.str "gain")) (qCons (qTup (qCons (qC (.str "own")) (qCons (qOp addD (qOp ixD (qVar 1) (qC (.int 1))) (qC (.int 1))) (qNil)))) (qNil)))) (qNil)))))) (qNil)))))) (sFz 4 (sRet (qVar 4)))))))))))
set_option maxHeartbeats 4000000 in
theorem d_l_turns_behind (T : Txt K w mg) {k : Nat}  {cdv : Value} {A : Around} {outer : List Env} {s : Shared} {H : Hp} {E : XK} {B : Bd} (hr : Rm k (A.deeper (envOfC "_law_turns_behind" (defScope s_l_turns_behind) s.heap.objs.size T.f_l_turns_behind cdv))) :
    DSs (cxOf (L2.CX P w) P w K mg base N_l_turns_behind "_law_turns_behind" (defScope s_l_turns_behind) T.f_l_turns_behind cdv A outer s H E).nox B (defBody s_l_turns_behind) (t_l_turns_behind) :=
  dss_cons (ds_set (i := 2) sc_l_turns_behind.nd (de_tup (da_cons (de_str) (da_cons (dv 0) (da_cons (dv 0) (da_cons (de_tup (da_cons (de_str) (da_nil))) (da_nil))))))) (dss_cons (ds_set (i := 3) sc_l_turns_behind.nd (de_tup (da_cons (de_str) (da_cons (dv 1) (da_nil))))) (dss_cons (ds_own (i := 4) sc_l_turns_behind.nd (df_lst (da_cons (de_tup (da_cons (de_str) (da_cons (dv 2) (da_cons (dv 3) (da_nil))))) (da_cons (de_tup (da_cons (de_str) (da_cons (de_tup (da_cons (de_tup (da_cons (de_str) (da_cons (dv 0) (da_cons (dv 0) (da_cons (dv 3) (da_nil)))))) (da_cons (dv 3) (da_nil)))) (da_nil)))) (da_cons (de_tup (da_cons (de_str) (da_cons (de_tup (da_cons (de_str) (da_cons (dv 0) (da_cons (dv 0) (da_nil))))) (da_cons (dv 2) (da_cons (dv 3) (da_nil)))))) (da_nil)))))) (dss_fz 4 (dss_cons (ds_own (i := 4) sc_l_turns_behind.nd (df_add (dv 4) (de_lst (da_cons (de_tup (da_cons (de_str) (da_cons (dv 2) (da_cons (de_tup (da_cons (de_str) (da_cons (dv 1) (da_cons (dv 0) (da_cons (de_tup (da_cons (de_str) (da_nil))) (da_nil)))))) (da_nil))))) (da_cons (de_tup (da_cons (de_str) (da_cons (dv 2) (da_cons (de_tup (da_cons (de_str) (da_cons (de_int) (da_cons (de_tup (da_cons (dv 1) (da_nil))) (da_nil))))) (da_nil))))) (da_nil)))))) (dss_fz 4 (dss_cons (ds_own (i := 4) sc_l_turns_behind.nd (df_add (dv 4) (de_lst (da_cons (de_tup (da_cons (de_str) (da_cons (dv 0) (da_cons (dv 0) (da_cons (de_tup (da_cons (de_str) (da_cons (de_tup (da_cons (de_str) (da_nil))) (da_cons (de_tup (da_cons (de_str) (da_cons (dv 0) (da_cons (dv 0) (da_cons (de_tup (da_cons (de_str) (da_cons (de_tup (da_cons (de_tup (da_cons (de_str) (da_nil))) (da_cons (dv 2) (da_nil)))) (da_nil)))) (da_nil)))))) (da_nil))))) (da_nil)))))) (da_nil))))) (dss_cons (ds_append (i := 4) (pe_bm PySem.F.plainAttrs_list PySem.F.slot_list_append PySem.F.type_list_append mt_append (pv 4) (pa_cons (DE.pe (de_tup (da_cons (de_str) (da_cons (dv 0) (da_cons (dv 0) (da_cons (de_tup (da_cons (de_str) (da_cons (de_tup (da_cons (de_str) (da_cons (dv 0) (da_cons (dv 0) (da_nil))))) (da_cons (de_tup (da_cons (de_str) (da_nil))) (da_cons (de_tup (da_cons (de_str) (da_cons (dv 0) (da_cons (dv 0) (da_cons (de_tup (da_cons (de_str) (da_cons (dv 2) (da_cons (de_tup (da_cons (de_str) (da_nil))) (da_nil))))) (da_nil)))))) (da_nil)))))) (da_nil))))))) pa_nil))) (dss_cons (ds_append (i := 4) (pe_bm PySem.F.plainAttrs_list PySem.F.slot_list_append PySem.F.type_list_append mt_append (pv 4) (pa_cons (DE.pe (de_tup (da_cons (de_str) (da_cons (de_tup (da_cons (de_str) (da_cons (dv 0) (da_cons (dv 0) (da_cons (de_tup (da_cons (de_str) (da_cons (dv 0) (da_cons (dv 0) (da_cons (dv 3) (da_nil)))))) (da_nil)))))) (da_cons (de_tup (da_cons (de_str) (da_cons (dv 0) (da_cons (dv 0) (da_cons (de_tup (da_cons (de_str) (da_cons (de_tup (da_cons (de_str) (da_cons (de_op o_add (de_ix (o_ix (hu_of hr.toRoom)) (dv 1) (de_int)) (de_int)) (da_nil)))) (da_nil)))) (da_nil)))))) (da_nil)))))) pa_nil))) (dss_fz 4 (dss_one (ds_ret (dv 4))))))))))))
def t_l_wrong_forms_1 : TD := qTup (qCons (qC (.str "gain")) (qCons (qTup (qCons (qC (.str "kid")) (qCons (qOp ixD (qOp ixD (qVar 0) (qVar 5)) (qC (.int 0))) (qCons (qVar 1) (qCons (qVar 1) (qNil)))))) (qNil)))
abbrev K_l_wrong_forms (P : Program) (w : World) (base : Heap) (T : Txt K w mg) (k : Nat) (sp : FSpec) : Prop := Fk P w K mg base k T.f_l_wrong_forms T.d_l_wrong_forms ["_law_needs_here", "_law_own"] (spD ⟨K, P, w, mg⟩ 2 sp)
def t_l_wrong_forms : TDS := sSeq (sAsg (qTup (qCons (qC (.str "none")) (qNil))) (gN 2)) (sSeq (sAsg (qTup (qCons (qC (.str "same")) (qCons (qVar 1) (qCons (qVar 1) (qNil))))) (gN 3)) (sSeq (sAsg (qLst (qCons (qTup (qCons (qC (.str "both")) (qCons (qVar 2) (qCons (qVar 2) (qCons (qVar 2) (qNil)))))) (qCons (qTup (qCons (qC (.str "each")) (qCons (qVar 1) (qCons (qVar 1) (qCons (qVar 2) (qCons (qVar 2) (qNil))))))) (qCons (qTup (qCons (qC (.str "all")) (qCons (qVar 1) (qCons (qVar 1) (qCons (qVar 2) (qCons (qC (.int 3)) (qNil))))))) (qNil))))) (gN 4)) (sSeq (sAsg (qOp addD (qVar 4) (qLst (qCons (qTup (qCons (qC (.str "if")) (qCons (qVar 3) (qCons (qVar 2) (qCons (qVar 2) (qCons (qVar 2) (qNil))))))) (qCons (qTup (qCons (qC (.str "call")) (qCons (qC (.int 0)) (qNil)))) (qCons (qTup (qCons (qC (.str "call")) (qNil))) (qCons (qTup (qCons (qC (.str "call")) (qCons (qC (.int 0)) (qCons (qTup (qCons (qVar 1) (qNil))) (qCons (qVar 1) (qNil)))))) (qCons (qTup (qCons (qC (.str "choose")) (qNil))) (qNil)))))))) (gN 4)) (sSeq (sAsg (qOp addD (qVar 4) (qLst (qCons (qTup (qCons (qC (.str "choose")) (qCons (qTup (qCons (qVar 2) (qNil))) (qCons (qVar 2) (qNil))))) (qCons (qTup (qCons (qC (.str "call")) (qCons (qC (.int 0)) (qCons (qC .non) (qNil))))) (qCons (qTup (qCons (qC (.str "call")) (qCons (qC (.int 0)) (qCons (qC (.int 3)) (qNil))))) (qCons (qTup (qCons (qC (.str "choose")) (qCons (qC .non) (qNil)))) (qCons (qTup (qCons (qC (.str "choose")) (qCons (qC (.int 7)) (qNil)))) (qNil)))))))) (gN 4)) (sSeq (sAsg (qOp addD (qVar 4) (qLst (qCons (qTup (qCons (qC (.str "if")) (qCons (qTup (qCons (qC (.str "and")) (qCons (qVar 3) (qCons (qVar 3) (qCons (qVar 3) (qNil)))))) (qCons (qVar 2) (qCons (qVar 2) (qNil)))))) (qCons (qTup (qCons (qC (.str "if")) (qCons (qTup (qCons (qC (.str "or")) (qCons (qVar 3) (qCons (qVar 3) (qCons (qVar 3) (qNil)))))) (qCons (qVar 2) (qCons (qVar 2) (qNil)))))) (qNil))))) (gN 4)) (sSeq (sAsg (qOp addD (qVar 4) (qLst (qCons (qTup (qCons (qC (.str "if")) (qCons (qTup (qCons (qC (.str "not")) (qCons (qVar 3) (qCons (qVar 3) (qNil))))) (qCons (qVar 2) (qCons (qVar 2) (qNil)))))) (qCons (qTup (qCons (qC (.str "call")) (qCons (qUn negD (qC (.int 1))) (qCons (qTup (qCons (qVar 1) (qCons (qVar 1) (qCons (qVar 1) (qNil))))) (qNil))))) (qCons (qTup (qCons (qC (.str "call")) (qCons (qUn negD (qC (.int 2))) (qCons (qTup (qCons (qVar 1) (qCons (qVar 1) (qNil)))) (qNil))))) (qNil)))))) (gN 4)) (sSeq (sAsg (qOp addD (qVar 4) (qLst (qCons (qTup (qCons (qC (.str "call")) (qCons (qUn negD (qC (.int 3))) (qCons (qTup (qCons (qVar 1) (qNil))) (qNil))))) (qCons (qTup (qCons (qC (.str "call")) (qCons (qC (.bl false)) (qCons (qTup (qCons (qVar 1) (qNil))) (qNil))))) (qCons (qTup (qCons (qC (.str "call")) (qCons (qC (.bl true)) (qCons (qTup (qCons (qVar 1) (qCons (qVar 1) (qNil)))) (qNil))))) (qCons (qTup (qCons (qC (.str "gain")) (qCons (qVar 3) (qNil)))) (qNil))))))) (gN 4)) (sSeq (sAsg (qOp addD (qVar 4) (qLst (qCons (qTup (qCons (qC (.str "call")) (qCons (qC (.int 0)) (qCons (qTup (qCons (qVar 3) (qNil))) (qNil))))) (qCons (qTup (qCons (qC (.str "gain")) (qCons (qTup (qCons (qC (.str "gain")) (qCons (qVar 1) (qNil)))) (qNil)))) (qCons (qTup (qCons (qC (.str "each")) (qCons (qTup (qCons (qC (.str "has")) (qCons (qVar 1) (qCons (qVar 1) (qNil))))) (qCons (qVar 1) (qCons (qVar 2) (qNil)))))) (qNil)))))) (gN 4)) (sSeq (sAsg (qOp addD (qVar 4) (qFz (fComp (qRg1 (qCons (qC (.int 3)) (qNil))) (gN 5) (qYes) (t_l_wrong_forms_1) [5]))) (gN 4)) (sRet (qOp addD (qVar 4) (qLst (qCons (qTup (qCons (qC (.str "gain")) (qCons (qTup (qCons (qC (.str "plus")) (qCons (qVar 1) (qCons (qVar 3) (qNil))))) (qNil)))) (qCons (qTup (qCons (qC (.str "if")) (qCons (qTup (qCons (qC (.str "below")) (qCons (qVar 3) (qCons (qVar 1) (qNil))))) (qCons (qVar 2) (qCons (qVar 2) (qNil)))))) (qNil)))))))))))))))
set_option maxHeartbeats 4000000 in
theorem d_l_wrong_forms (T : Txt K w mg) {k : Nat}  {cdv : Value} {A : Around} {outer : List Env} {s : Shared} {H : Hp} {E : XK} {B : Bd} (hr : Rm k (A.deeper (envOfC "_law_wrong_forms" (defScope s_l_wrong_forms) s.heap.objs.size T.f_l_wrong_forms cdv))) :
    DSs (cxOf (L2.CX P w) P w K mg base N_l_wrong_forms "_law_wrong_forms" (defScope s_l_wrong_forms) T.f_l_wrong_forms cdv A outer s H E).nox B (defBody s_l_wrong_forms) (t_l_wrong_forms) :=
  dss_cons (ds_set (i := 2) sc_l_wrong_forms.nd (de_tup (da_cons (de_str) (da_nil)))) (dss_cons (ds_set (i := 3) sc_l_wrong_forms.nd (de_tup (da_cons (de_str) (da_cons (dv 1) (da_cons (dv 1) (da_nil)))))) (dss_cons (ds_set (i := 4) sc_l_wrong_forms.nd (de_lst (da_cons (de_tup (da_cons (de_str) (da_cons (dv 2) (da_cons (dv 2) (da_cons (dv 2) (da_nil)))))) (da_cons (de_tup (da_cons (de_str) (da_cons (dv 1) (da_cons (dv 1) (da_cons (dv 2) (da_cons (dv 2) (da_nil))))))) (da_cons (de_tup (da_cons (de_str) (da_cons (dv 1) (da_cons (dv 1) (da_cons (dv 2) (da_cons (de_int) (da_nil))))))) (da_nil)))))) (dss_cons (ds_set (i := 4) sc_l_wrong_forms.nd (de_op o_add (dv 4) (de_lst (da_cons (de_tup (da_cons (de_str) (da_cons (dv 3) (da_cons (dv 2) (da_cons (dv 2) (da_cons (dv 2) (da_nil))))))) (da_cons (de_tup (da_cons (de_str) (da_cons (de_int) (da_nil)))) (da_cons (de_tup (da_cons (de_str) (da_nil))) (da_cons (de_tup (da_cons (de_str) (da_cons (de_int) (da_cons (de_tup (da_cons (dv 1) (da_nil))) (da_cons (dv 1) (da_nil)))))) (da_cons (de_tup (da_cons (de_str) (da_nil))) (da_nil))))))))) (dss_cons (ds_set (i := 4) sc_l_wrong_forms.nd (de_op o_add (dv 4) (de_lst (da_cons (de_tup (da_cons (de_str) (da_cons (de_tup (da_cons (dv 2) (da_nil))) (da_cons (dv 2) (da_nil))))) (da_cons (de_tup (da_cons (de_str) (da_cons (de_int) (da_cons (de_non) (da_nil))))) (da_cons (de_tup (da_cons (de_str) (da_cons (de_int) (da_cons (de_int) (da_nil))))) (da_cons (de_tup (da_cons (de_str) (da_cons (de_non) (da_nil)))) (da_cons (de_tup (da_cons (de_str) (da_cons (de_int) (da_nil)))) (da_nil))))))))) (dss_cons (ds_set (i := 4) sc_l_wrong_forms.nd (de_op o_add (dv 4) (de_lst (da_cons (de_tup (da_cons (de_str) (da_cons (de_tup (da_cons (de_str) (da_cons (dv 3) (da_cons (dv 3) (da_cons (dv 3) (da_nil)))))) (da_cons (dv 2) (da_cons (dv 2) (da_nil)))))) (da_cons (de_tup (da_cons (de_str) (da_cons (de_tup (da_cons (de_str) (da_cons (dv 3) (da_cons (dv 3) (da_cons (dv 3) (da_nil)))))) (da_cons (dv 2) (da_cons (dv 2) (da_nil)))))) (da_nil)))))) (dss_cons (ds_set (i := 4) sc_l_wrong_forms.nd (de_op o_add (dv 4) (de_lst (da_cons (de_tup (da_cons (de_str) (da_cons (de_tup (da_cons (de_str) (da_cons (dv 3) (da_cons (dv 3) (da_nil))))) (da_cons (dv 2) (da_cons (dv 2) (da_nil)))))) (da_cons (de_tup (da_cons (de_str) (da_cons (de_un u_neg (de_int)) (da_cons (de_tup (da_cons (dv 1) (da_cons (dv 1) (da_cons (dv 1) (da_nil))))) (da_nil))))) (da_cons (de_tup (da_cons (de_str) (da_cons (de_un u_neg (de_int)) (da_cons (de_tup (da_cons (dv 1) (da_cons (dv 1) (da_nil)))) (da_nil))))) (da_nil))))))) (dss_cons (ds_set (i := 4) sc_l_wrong_forms.nd (de_op o_add (dv 4) (de_lst (da_cons (de_tup (da_cons (de_str) (da_cons (de_un u_neg (de_int)) (da_cons (de_tup (da_cons (dv 1) (da_nil))) (da_nil))))) (da_cons (de_tup (da_cons (de_str) (da_cons (de_bl) (da_cons (de_tup (da_cons (dv 1) (da_nil))) (da_nil))))) (da_cons (de_tup (da_cons (de_str) (da_cons (de_bl) (da_cons (de_tup (da_cons (dv 1) (da_cons (dv 1) (da_nil)))) (da_nil))))) (da_cons (de_tup (da_cons (de_str) (da_cons (dv 3) (da_nil)))) (da_nil)))))))) (dss_cons (ds_set (i := 4) sc_l_wrong_forms.nd (de_op o_add (dv 4) (de_lst (da_cons (de_tup (da_cons (de_str) (da_cons (de_int) (da_cons (de_tup (da_cons (dv 3) (da_nil))) (da_nil))))) (da_cons (de_tup (da_cons (de_str) (da_cons (de_tup (da_cons (de_str) (da_cons (dv 1) (da_nil)))) (da_nil)))) (da_cons (de_tup (da_cons (de_str) (da_cons (de_tup (da_cons (de_str) (da_cons (dv 1) (da_cons (dv 1) (da_nil))))) (da_cons (dv 1) (da_cons (dv 2) (da_nil)))))) (da_nil))))))) (dss_cons (ds_set (i := 4) sc_l_wrong_forms.nd (de_op o_add (dv 4) (DF.de (df_comp (own := [("_law_k", 5)]) rfl sc_l_wrong_forms.nd (di_range1 (by rfl) T.z_range (da_cons (de_int) (da_nil))) (blkOk_by (own := [("_law_k", 5)]) (N := N_l_wrong_forms) (sc := defScope s_l_wrong_forms) (by decide +kernel)) (fun _ _ _ _ _ _ => dg_name (i := 5) sc_l_wrong_forms.nd) (fun _ _ _ _ _ _ => dts_nil) (fun _ _ _ _ _ _ => de_tup (da_cons (de_str) (da_cons (de_tup (da_cons (de_str) (da_cons (de_ix (o_ix (hu_of hr.toRoom)) (de_ix (o_ix (hu_of hr.toRoom)) (dv 0) (dv 5)) (de_int)) (da_cons (dv 1) (da_cons (dv 1) (da_nil)))))) (da_nil)))))))) (dss_one (ds_ret (de_op o_add (dv 4) (de_lst (da_cons (de_tup (da_cons (de_str) (da_cons (de_tup (da_cons (de_str) (da_cons (dv 1) (da_cons (dv 3) (da_nil))))) (da_nil)))) (da_cons (de_tup (da_cons (de_str) (da_cons (de_tup (da_cons (de_str) (da_cons (dv 3) (da_cons (dv 1) (da_nil))))) (da_cons (dv 2) (da_cons (dv 2) (da_nil)))))) (da_nil))))))))))))))))
def t_l_bad_body_1 (sp_l_deep : FSpec) (sp_l_wide : FSpec) (sp_l_too_great : FSpec) (sp_l_turns_behind : FSpec) (sp_l_wrong_forms : FSpec) (sp_l_take : FSpec) : TD := qCall sp_l_too_great 1 (rSlot 0 (rNil))
abbrev K_l_bad_body (P : Program) (w : World) (base : Heap) (T : Txt K w mg) (k : Nat) (sp : FSpec) : Prop := Fk P w K mg base k T.f_l_bad_body T.d_l_bad_body ["_law_pen_here", "_law_needs_here", "_law_many"] (spD ⟨K, P, w, mg⟩ 3 sp)
def t_l_bad_body (sp_l_deep : FSpec) (sp_l_wide : FSpec) (sp_l_too_great : FSpec) (sp_l_turns_behind : FSpec) (sp_l_wrong_forms : FSpec) (sp_l_take : FSpec) : TDS := sSeq (sAsg (qTup (qCons (qC (.str "own")) (qCons (qC (.int 0)) (qNil)))) (gN 3)) (sSeq (sAsg (qTup (qCons (qC (.str "own")) (qCons (qVar 2) (qNil)))) (gN 4)) (sSeq (sAsg (qTup (qCons (qC (.str "each")) (qCons (qVar 3) (qCons (qVar 3) (qCons (qTup (qCons (qC (.str "all")) (qCons (qVar 3) (qCons (qVar 3) (qCons (qTup (qCons (qC (.str "each")) (qCons (qVar 3) (qCons (qVar 3) (qCons (qTup (qCons (qC (.str "none")) (qNil))) (qNil)))))) (qNil)))))) (qNil)))))) (gN 5)) (sSeq (sAsg (qLst (qCons (qTup (qCons (qC (.str "both")) (qCons (qTup (qCons (qC (.str "choose")) (qCons (qTup (qCons (qTup (qCons (qC (.str "gain")) (qCons (qCall sp_l_wide 1 (rCons (qC (.int 29)) (rNil))) (qNil)))) (qNil))) (qNil)))) (qCons (qTup (qCons (qC (.str "none")) (qNil))) (qNil))))) (qCons (qCall sp_l_deep 1 (rCons (qC (.int 13)) (rNil))) (qCons (qVar 5) (qCons (qTup (qCons (qC (.str "call")) (qCons (qC (.int 3)) (qCons (qTup (qCons (qVar 3) (qNil))) (qNil))))) (qNil)))))) (gN 6)) (sSeq (sAsg (qOp addD (qVar 6) (qLst (qCons (qTup (qCons (qC (.str "call")) (qCons (qUn negD (qC (.int 1))) (qCons (qTup (qCons (qVar 3) (qNil))) (qNil))))) (qCons (qTup (qCons (qC (.str "call")) (qCons (qC (.bl true)) (qCons (qTup (qCons (qVar 3) (qNil))) (qNil))))) (qCons (qTup (qCons (qC (.str "call")) (qCons (qC (.int 0)) (qCons (qTup (qNil)) (qNil))))) (qCons (qTup (qCons (qC (.str "call")) (qCons (qC (.int 0)) (qCons (qTup (qCons (qVar 3) (qCons (qVar 3) (qNil)))) (qNil))))) (qNil))))))) (gN 6)) (sSeq (sAsg (qOp addD (qVar 6) (qLst (qCons (qTup (qCons (qC (.str "call")) (qCons (qC (.int 1)) (qCons (qTup (qCons (qVar 3) (qNil))) (qNil))))) (qCons (qTup (qCons (qC (.str "call")) (qCons (qC (.int 0)) (qCons (qLst (qCons (qVar 3) (qNil))) (qNil))))) (qCons (qTup (qCons (qC (.str "call")) (qCons (qC (.int 0)) (qCons (qVar 3) (qNil))))) (qCons (qTup (qCons (qC (.str "choose")) (qCons (qTup (qNil)) (qNil)))) (qCons (qTup (qCons (qC (.str "none")) (qCons (qTup (qNil)) (qNil)))) (qNil)))))))) (gN 6)) (sSeq (sAsg (qOp addD (qVar 6) (qLst (qCons (qTup (qCons (qC (.str "choose")) (qCons (qOp mulT (qTup (qCons (qTup (qCons (qC (.str "none")) (qNil))) (qNil))) (qC (.int 5))) (qNil)))) (qCons (qTup (qCons (qC (.str "choose")) (qCons (qLst (qCons (qTup (qCons (qC (.str "none")) (qNil))) (qNil))) (qNil)))) (qCons (qTup (qCons (qC (.str "choose")) (qCons (qTup (qCons (qC (.str "none")) (qNil))) (qNil)))) (qCons (qTup (qCons (qC (.str "gain")) (qCons (qVar 4) (qNil)))) (qNil))))))) (gN 6)) (sSeq (sAsg (qOp addD (qVar 6) (qLst (qCons (qTup (qCons (qC (.str "gain")) (qNil))) (qCons (qTup (qCons (qC (.str "gain")) (qCons (qC (.int 1)) (qNil)))) (qCons (qTup (qCons (qC (.str "gain")) (qCons (qVar 3) (qCons (qVar 3) (qNil))))) (qCons (qTup (qCons (qC (.str "both")) (qCons (qTup (qCons (qC (.str "none")) (qNil))) (qNil)))) (qCons (qTup (qCons (qC (.str "each")) (qCons (qVar 3) (qCons (qVar 3) (qNil))))) (qNil)))))))) (gN 6)) (sSeq (sAsg (qOp addD (qVar 6) (qLst (qCons (qVar 3) (qCons (qC .non) (qCons (qC (.int 3)) (qCons (qTup (qNil)) (qNil))))))) (gN 6)) (sSeq (sAsg (qOp addD (qVar 6) (qLst (qCons (qTup (qCons (qC (.str "each")) (qCons (qVar 3) (qCons (qVar 4) (qCons (qTup (qCons (qC (.str "none")) (qNil))) (qNil)))))) (qCons (qTup (qCons (qC (.str "gain")) (qCons (qTup (qCons (qC (.str "need")) (qCons (qC (.str "nopeq")) (qNil)))) (qNil)))) (qCons (qTup (qCons (qC (.str "gain")) (qCons (qTup (qCons (qC (.str "need")) (qCons (qOp ixD (qOp ixD (qVar 1) (qC (.int 0))) (qC (.int 0))) (qNil)))) (qNil)))) (qNil)))))) (gN 6)) (sSeq (sAsg (qOp addD (qVar 6) (qLst (qCons (qTup (qCons (qC (.str "if")) (qCons (qTup (qCons (qC (.str "below")) (qCons (qVar 3) (qCons (qVar 3) (qNil))))) (qCons (qTup (qCons (qC (.str "none")) (qNil))) (qNil))))) (qCons (qTup (qCons (qC (.str "if")) (qCons (qVar 3) (qCons (qTup (qCons (qC (.str "none")) (qNil))) (qCons (qTup (qCons (qC (.str "none")) (qNil))) (qNil)))))) (qCons (qLst (qCons (qC (.str "none")) (qNil))) (qCons (qTup (qCons (qC (.str "nones")) (qNil))) (qNil))))))) (gN 6)) (sSeq (sAsg (qOp addD (qVar 6) (qLst (qCons (qTup (qCons (qC (.str "gain")) (qCons (qTup (qCons (qC (.str "num")) (qCons (qC (.bl true)) (qNil)))) (qNil)))) (qCons (qTup (qCons (qC (.str "if")) (qCons (qTup (qCons (qC (.str "below")) (qCons (qVar 3) (qCons (qC (.int 1)) (qNil))))) (qCons (qTup (qCons (qC (.str "none")) (qNil))) (qCons (qTup (qCons (qC (.str "none")) (qNil))) (qNil)))))) (qNil))))) (gN 6)) (sSeq (sAsg (qOp addD (qVar 6) (qLst (qCons (qTup (qCons (qC (.str "all")) (qCons (qVar 3) (qCons (qVar 3) (qCons (qVar 4) (qNil)))))) (qCons (qTup (qCons (qC (.str "if")) (qCons (qTup (qCons (qC (.str "below")) (qCons (qVar 3) (qCons (qVar 4) (qNil))))) (qCons (qTup (qCons (qC (.str "none")) (qNil))) (qCons (qTup (qCons (qC (.str "none")) (qNil))) (qNil)))))) (qNil))))) (gN 6)) (sSeq (sAsg (qOp addD (qVar 6) (qLst (qCons (qTup (qCons (qC (.str "call")) (qCons (qC (.int 0)) (qCons (qTup (qCons (qVar 4) (qNil))) (qNil))))) (qCons (qTup (qCons (qC (.str "each")) (qCons (qVar 4) (qCons (qVar 3) (qCons (qTup (qCons (qC (.str "none")) (qNil))) (qNil)))))) (qCons (qTup (qCons (qLst (qNil)) (qNil))) (qCons (qTup (qCons (qFz (fDct0)) (qCons (qVar 3) (qNil)))) (qCons (qTup (qCons (qC (.str "call")) (qCons (qC (.int 1)) (qCons (qTup (qCons (qVar 3) (qCons (qVar 4) (qNil)))) (qNil))))) (qNil)))))))) (gN 6)) (sSeq (sAsg (qOp addD (qVar 6) (qLst (qCons (qTup (qCons (qC (.str "call")) (qCons (qC (.int 2)) (qCons (qTup (qCons (qVar 3) (qCons (qVar 3) (qCons (qVar 4) (qNil))))) (qNil))))) (qCons (qTup (qCons (qC (.str "call")) (qCons (qC (.int 2)) (qCons (qTup (qCons (qVar 3) (qCons (qC (.int 3)) (qCons (qVar 3) (qNil))))) (qNil))))) (qCons (qTup (qCons (qC (.str "call")) (qCons (qC (.int 1)) (qCons (qTup (qCons (qVar 3) (qCons (qTup (qCons (qC (.str "size")) (qCons (qC (.str "nopeq")) (qNil)))) (qNil)))) (qNil))))) (qNil)))))) (gN 6)) (sSeq (sAsg (qOp addD (qVar 6) (qLst (qCons (qTup (qCons (qC (.str "if")) (qCons (qTup (qCons (qC (.str "same")) (qCons (qTup (qCons (qC (.str "need")) (qCons (qC (.str "nopeq")) (qNil)))) (qCons (qVar 3) (qNil))))) (qCons (qTup (qCons (qC (.str "none")) (qNil))) (qCons (qTup (qCons (qC (.str "none")) (qNil))) (qNil)))))) (qCons (qTup (qCons (qLst (qNil)) (qCons (qVar 3) (qCons (qVar 3) (qNil))))) (qCons (qTup (qCons (qC (.str "call")) (qCons (qLst (qNil)) (qCons (qTup (qCons (qVar 3) (qNil))) (qNil))))) (qNil)))))) (gN 6)) (sSeq (sAsg (qOp addD (qOp addD (qVar 6) (qFz (fComp (qRg1 (qCons (qC (.int 8)) (qNil))) (gN 7) (qYes) ((t_l_bad_body_1 sp_l_deep sp_l_wide sp_l_too_great sp_l_turns_behind sp_l_wrong_forms sp_l_take)) [7]))) (qCall sp_l_turns_behind 2 (rCons (qVar 3) (rCons (qVar 4) (rNil))))) (gN 6)) (sSeq (sAsg (qOp addD (qVar 6) (qCall sp_l_wrong_forms 2 (rCons (qVar 1) (rCons (qVar 3) (rNil))))) (gN 6)) (sRet (qOp ixD (qVar 6) (qCall sp_l_take 2 (rSlot 0 (rCons (qCl (n1 lenD) (qCons (qVar 6) (qNil))) (rNil)))))))))))))))))))))))
set_option maxHeartbeats 4000000 in
theorem d_l_bad_body (T : Txt K w mg) {k : Nat} {k_l_deep : Nat} {sp_l_deep : FSpec} (G_l_deep : Fk P w K mg base k_l_deep T.f_l_deep T.d_l_deep ["_law_many"] (spD ⟨K, P, w, mg⟩ 1 sp_l_deep)) (h_l_deep : k_l_deep ≤ k) {k_l_wide : Nat} {sp_l_wide : FSpec} (G_l_wide : Fk P w K mg base k_l_wide T.f_l_wide T.d_l_wide ["_law_many"] (spD ⟨K, P, w, mg⟩ 1 sp_l_wide)) (h_l_wide : k_l_wide ≤ k) {k_l_too_great : Nat} {sp_l_too_great : FSpec} (G_l_too_great : Fk P w K mg base k_l_too_great T.f_l_too_great T.d_l_too_great ["_law_pen_here"] (spD ⟨K, P, w, mg⟩ 1 sp_l_too_great)) (h_l_too_great : k_l_too_great ≤ k) {k_l_turns_behind : Nat} {sp_l_turns_behind : FSpec} (G_l_turns_behind : Fk P w K mg base k_l_turns_behind T.f_l_turns_behind T.d_l_turns_behind ["_law_own", "_law_far"] (spD ⟨K, P, w, mg⟩ 2 sp_l_turns_behind)) (h_l_turns_behind : k_l_turns_behind ≤ k) {k_l_wrong_forms : Nat} {sp_l_wrong_forms : FSpec} (G_l_wrong_forms : Fk P w K mg base k_l_wrong_forms T.f_l_wrong_forms T.d_l_wrong_forms ["_law_needs_here", "_law_own"] (spD ⟨K, P, w, mg⟩ 2 sp_l_wrong_forms)) (h_l_wrong_forms : k_l_wrong_forms ≤ k) {k_l_take : Nat} {sp_l_take : FSpec} (G_l_take : Fk P w K mg base k_l_take T.f_l_take T.d_l_take ["_law_pen_here", "_law_many"] (spD ⟨K, P, w, mg⟩ 2 sp_l_take)) (h_l_take : k_l_take ≤ k) {cdv : Value} {A : Around} {outer : List Env} {s : Shared} {H : Hp} {E : XK} {B : Bd} (hr : Rm k (A.deeper (envOfC "_law_bad_body" (defScope s_l_bad_body) s.heap.objs.size T.f_l_bad_body cdv))) :
    DSs (cxOf (L2.CX P w) P w K mg base N_l_bad_body "_law_bad_body" (defScope s_l_bad_body) T.f_l_bad_body cdv A outer s H E).nox B (defBody s_l_bad_body) (t_l_bad_body sp_l_deep sp_l_wide sp_l_too_great sp_l_turns_behind sp_l_wrong_forms sp_l_take) :=
  dss_cons (ds_set (i := 3) sc_l_bad_body.nd (de_tup (da_cons (de_str) (da_cons (de_int) (da_nil))))) (dss_cons (ds_set (i := 4) sc_l_bad_body.nd (de_tup (da_cons (de_str) (da_cons (dv 2) (da_nil))))) (dss_cons (ds_set (i := 5) sc_l_bad_body.nd (de_tup (da_cons (de_str) (da_cons (dv 3) (da_cons (dv 3) (da_cons (de_tup (da_cons (de_str) (da_cons (dv 3) (da_cons (dv 3) (da_cons (de_tup (da_cons (de_str) (da_cons (dv 3) (da_cons (dv 3) (da_cons (de_tup (da_cons (de_str) (da_nil))) (da_nil)))))) (da_nil)))))) (da_nil))))))) (dss_cons (ds_set (i := 6) sc_l_bad_body.nd (de_lst (da_cons (de_tup (da_cons (de_str) (da_cons (de_tup (da_cons (de_str) (da_cons (de_tup (da_cons (de_tup (da_cons (de_str) (da_cons (de_call G_l_wide (hr.mono (by omega)) (by rfl) T.g_l_wide T.F_l_wide.kp T.b_l_wide (dr_cons (de_int) (dr_nil))) (da_nil)))) (da_nil))) (da_nil)))) (da_cons (de_tup (da_cons (de_str) (da_nil))) (da_nil))))) (da_cons (de_call G_l_deep (hr.mono (by omega)) (by rfl) T.g_l_deep T.F_l_deep.kp T.b_l_deep (dr_cons (de_int) (dr_nil))) (da_cons (dv 5) (da_cons (de_tup (da_cons (de_str) (da_cons (de_int) (da_cons (de_tup (da_cons (dv 3) (da_nil))) (da_nil))))) (da_nil))))))) (dss_cons (ds_set (i := 6) sc_l_bad_body.nd (de_op o_add (dv 6) (de_lst (da_cons (de_tup (da_cons (de_str) (da_cons (de_un u_neg (de_int)) (da_cons (de_tup (da_cons (dv 3) (da_nil))) (da_nil))))) (da_cons (de_tup (da_cons (de_str) (da_cons (de_bl) (da_cons (de_tup (da_cons (dv 3) (da_nil))) (da_nil))))) (da_cons (de_tup (da_cons (de_str) (da_cons (de_int) (da_cons (de_tup (da_nil)) (da_nil))))) (da_cons (de_tup (da_cons (de_str) (da_cons (de_int) (da_cons (de_tup (da_cons (dv 3) (da_cons (dv 3) (da_nil)))) (da_nil))))) (da_nil)))))))) (dss_cons (ds_set (i := 6) sc_l_bad_body.nd (de_op o_add (dv 6) (de_lst (da_cons (de_tup (da_cons (de_str) (da_cons (de_int) (da_cons (de_tup (da_cons (dv 3) (da_nil))) (da_nil))))) (da_cons (de_tup (da_cons (de_str) (da_cons (de_int) (da_cons (de_lst (da_cons (dv 3) (da_nil))) (da_nil))))) (da_cons (de_tup (da_cons (de_str) (da_cons (de_int) (da_cons (dv 3) (da_nil))))) (da_cons (de_tup (da_cons (de_str) (da_cons (de_tup (da_nil)) (da_nil)))) (da_cons (de_tup (da_cons (de_str) (da_cons (de_tup (da_nil)) (da_nil)))) (da_nil))))))))) (dss_cons (ds_set (i := 6) sc_l_bad_body.nd (de_op o_add (dv 6) (de_lst (da_cons (de_tup (da_cons (de_str) (da_cons (de_op o_mulT (de_tup (da_cons (de_tup (da_cons (de_str) (da_nil))) (da_nil))) (de_int)) (da_nil)))) (da_cons (de_tup (da_cons (de_str) (da_cons (de_lst (da_cons (de_tup (da_cons (de_str) (da_nil))) (da_nil))) (da_nil)))) (da_cons (de_tup (da_cons (de_str) (da_cons (de_tup (da_cons (de_str) (da_nil))) (da_nil)))) (da_cons (de_tup (da_cons (de_str) (da_cons (dv 4) (da_nil)))) (da_nil)))))))) (dss_cons (ds_set (i := 6) sc_l_bad_body.nd (de_op o_add (dv 6) (de_lst (da_cons (de_tup (da_cons (de_str) (da_nil))) (da_cons (de_tup (da_cons (de_str) (da_cons (de_int) (da_nil)))) (da_cons (de_tup (da_cons (de_str) (da_cons (dv 3) (da_cons (dv 3) (da_nil))))) (da_cons (de_tup (da_cons (de_str) (da_cons (de_tup (da_cons (de_str) (da_nil))) (da_nil)))) (da_cons (de_tup (da_cons (de_str) (da_cons (dv 3) (da_cons (dv 3) (da_nil))))) (da_nil))))))))) (dss_cons (ds_set (i := 6) sc_l_bad_body.nd (de_op o_add (dv 6) (de_lst (da_cons (dv 3) (da_cons (de_non) (da_cons (de_int) (da_cons (de_tup (da_nil)) (da_nil)))))))) (dss_cons (ds_set (i := 6) sc_l_bad_body.nd (de_op o_add (dv 6) (de_lst (da_cons (de_tup (da_cons (de_str) (da_cons (dv 3) (da_cons (dv 4) (da_cons (de_tup (da_cons (de_str) (da_nil))) (da_nil)))))) (da_cons (de_tup (da_cons (de_str) (da_cons (de_tup (da_cons (de_str) (da_cons (de_str) (da_nil)))) (da_nil)))) (da_cons (de_tup (da_cons (de_str) (da_cons (de_tup (da_cons (de_str) (da_cons (de_ix (o_ix (hu_of hr.toRoom)) (de_ix (o_ix (hu_of hr.toRoom)) (dv 1) (de_int)) (de_int)) (da_nil)))) (da_nil)))) (da_nil))))))) (dss_cons (ds_set (i := 6) sc_l_bad_body.nd (de_op o_add (dv 6) (de_lst (da_cons (de_tup (da_cons (de_str) (da_cons (de_tup (da_cons (de_str) (da_cons (dv 3) (da_cons (dv 3) (da_nil))))) (da_cons (de_tup (da_cons (de_str) (da_nil))) (da_nil))))) (da_cons (de_tup (da_cons (de_str) (da_cons (dv 3) (da_cons (de_tup (da_cons (de_str) (da_nil))) (da_cons (de_tup (da_cons (de_str) (da_nil))) (da_nil)))))) (da_cons (de_lst (da_cons (de_str) (da_nil))) (da_cons (de_tup (da_cons (de_str) (da_nil))) (da_nil)))))))) (dss_cons (ds_set (i := 6) sc_l_bad_body.nd (de_op o_add (dv 6) (de_lst (da_cons (de_tup (da_cons (de_str) (da_cons (de_tup (da_cons (de_str) (da_cons (de_bl) (da_nil)))) (da_nil)))) (da_cons (de_tup (da_cons (de_str) (da_cons (de_tup (da_cons (de_str) (da_cons (dv 3) (da_cons (de_int) (da_nil))))) (da_cons (de_tup (da_cons (de_str) (da_nil))) (da_cons (de_tup (da_cons (de_str) (da_nil))) (da_nil)))))) (da_nil)))))) (dss_cons (ds_set (i := 6) sc_l_bad_body.nd (de_op o_add (dv 6) (de_lst (da_cons (de_tup (da_cons (de_str) (da_cons (dv 3) (da_cons (dv 3) (da_cons (dv 4) (da_nil)))))) (da_cons (de_tup (da_cons (de_str) (da_cons (de_tup (da_cons (de_str) (da_cons (dv 3) (da_cons (dv 4) (da_nil))))) (da_cons (de_tup (da_cons (de_str) (da_nil))) (da_cons (de_tup (da_cons (de_str) (da_nil))) (da_nil)))))) (da_nil)))))) (dss_cons (ds_set (i := 6) sc_l_bad_body.nd (de_op o_add (dv 6) (de_lst (da_cons (de_tup (da_cons (de_str) (da_cons (de_int) (da_cons (de_tup (da_cons (dv 4) (da_nil))) (da_nil))))) (da_cons (de_tup (da_cons (de_str) (da_cons (dv 4) (da_cons (dv 3) (da_cons (de_tup (da_cons (de_str) (da_nil))) (da_nil)))))) (da_cons (de_tup (da_cons (de_lst (da_nil)) (da_nil))) (da_cons (de_tup (da_cons (DF.de (df_dct0)) (da_cons (dv 3) (da_nil)))) (da_cons (de_tup (da_cons (de_str) (da_cons (de_int) (da_cons (de_tup (da_cons (dv 3) (da_cons (dv 4) (da_nil)))) (da_nil))))) (da_nil))))))))) (dss_cons (ds_set (i := 6) sc_l_bad_body.nd (de_op o_add (dv 6) (de_lst (da_cons (de_tup (da_cons (de_str) (da_cons (de_int) (da_cons (de_tup (da_cons (dv 3) (da_cons (dv 3) (da_cons (dv 4) (da_nil))))) (da_nil))))) (da_cons (de_tup (da_cons (de_str) (da_cons (de_int) (da_cons (de_tup (da_cons (dv 3) (da_cons (de_int) (da_cons (dv 3) (da_nil))))) (da_nil))))) (da_cons (de_tup (da_cons (de_str) (da_cons (de_int) (da_cons (de_tup (da_cons (dv 3) (da_cons (de_tup (da_cons (de_str) (da_cons (de_str) (da_nil)))) (da_nil)))) (da_nil))))) (da_nil))))))) (dss_cons (ds_set (i := 6) sc_l_bad_body.nd (de_op o_add (dv 6) (de_lst (da_cons (de_tup (da_cons (de_str) (da_cons (de_tup (da_cons (de_str) (da_cons (de_tup (da_cons (de_str) (da_cons (de_str) (da_nil)))) (da_cons (dv 3) (da_nil))))) (da_cons (de_tup (da_cons (de_str) (da_nil))) (da_cons (de_tup (da_cons (de_str) (da_nil))) (da_nil)))))) (da_cons (de_tup (da_cons (de_lst (da_nil)) (da_cons (dv 3) (da_cons (dv 3) (da_nil))))) (da_cons (de_tup (da_cons (de_str) (da_cons (de_lst (da_nil)) (da_cons (de_tup (da_cons (dv 3) (da_nil))) (da_nil))))) (da_nil))))))) (dss_cons (ds_set (i := 6) sc_l_bad_body.nd (de_op o_add (de_op o_add (dv 6) (DF.de (df_comp (own := [("_law_k", 7)]) rfl sc_l_bad_body.nd (di_range1 (by rfl) T.z_range (da_cons (de_int) (da_nil))) (blkOk_by (own := [("_law_k", 7)]) (N := N_l_bad_body) (sc := defScope s_l_bad_body) (by decide +kernel)) (fun _ _ _ _ _ _ => dg_name (i := 7) sc_l_bad_body.nd) (fun _ _ _ _ _ _ => dts_nil) (fun _ _ _ _ _ _ => de_call G_l_too_great (hr.mono (by omega)) (by rfl) T.g_l_too_great T.F_l_too_great.kp T.b_l_too_great (dr_slot (i := 0) (pv 0) (dr_nil)))))) (de_call G_l_turns_behind (hr.mono (by omega)) (by rfl) T.g_l_turns_behind T.F_l_turns_behind.kp T.b_l_turns_behind (dr_cons (dv 3) (dr_cons (dv 4) (dr_nil)))))) (dss_cons (ds_set (i := 6) sc_l_bad_body.nd (de_op o_add (dv 6) (de_call G_l_wrong_forms (hr.mono (by omega)) (by rfl) T.g_l_wrong_forms T.F_l_wrong_forms.kp T.b_l_wrong_forms (dr_cons (dv 1) (dr_cons (dv 3) (dr_nil)))))) (dss_one (ds_ret (de_ix (o_ix (hu_of hr.toRoom)) (dv 6) (de_call G_l_take (hr.mono (by omega)) (by rfl) T.g_l_take T.F_l_take.kp T.b_l_take (dr_slot (i := 0) (pv 0) (dr_cons (de_callB (c_len) (by rfl) T.z_len (by decide +kernel) (da_cons (dv 6) (da_nil))) (dr_nil))))))))))))))))))))))))
abbrev K_l_put (P : Program) (w : World) (base : Heap) (T : Txt K w mg) (k : Nat) (sp : FSpec) : Prop := Fk P w K mg base k T.f_l_put T.d_l_put ["_law_pen_here", "_law_body", "_law_bad"] (spD ⟨K, P, w, mg⟩ 3 sp)
def t_l_put (sp_l_take : FSpec) : TDS := sSeq (sIf (qTest (qOp eqD (qCall sp_l_take 2 (rSlot 0 (rCons (qC (.int 3)) (rNil)))) (qC (.int 0)))) (sRet (qVar 2)) (sNext)) (sSeq (sAsg (qTup (qCons (qC (.str "same")) (qCons (qTup (qCons (qC (.str "num")) (qCons (qC (.int 0)) (qNil)))) (qCons (qTup (qCons (qC (.str "num")) (qCons (qC (.int 0)) (qNil)))) (qNil))))) (gN 3)) (sSeq (sAsg (qLst (qCons (qTup (qCons (qC (.str "both")) (qCons (qVar 1) (qCons (qVar 2) (qNil))))) (qCons (qTup (qCons (qC (.str "both")) (qCons (qVar 2) (qCons (qVar 1) (qNil))))) (qCons (qTup (qCons (qC (.str "choose")) (qCons (qTup (qCons (qVar 2) (qCons (qVar 1) (qNil)))) (qNil)))) (qCons (qTup (qCons (qC (.str "choose")) (qCons (qTup (qCons (qVar 1) (qCons (qTup (qCons (qC (.str "none")) (qNil))) (qCons (qVar 2) (qNil))))) (qNil)))) (qNil)))))) (gN 4)) (sSeq (sAsg (qOp addD (qVar 4) (qLst (qCons (qTup (qCons (qC (.str "if")) (qCons (qVar 3) (qCons (qVar 1) (qCons (qVar 2) (qNil)))))) (qCons (qTup (qCons (qC (.str "if")) (qCons (qVar 3) (qCons (qVar 2) (qCons (qVar 1) (qNil)))))) (qNil))))) (gN 4)) (sRet (qOp ixD (qVar 4) (qCall sp_l_take 2 (rSlot 0 (rCons (qC (.int 6)) (rNil)))))))))
set_option maxHeartbeats 4000000 in
theorem d_l_put (T : Txt K w mg) {k : Nat} {k_l_take : Nat} {sp_l_take : FSpec} (G_l_take : Fk P w K mg base k_l_take T.f_l_take T.d_l_take ["_law_pen_here", "_law_many"] (spD ⟨K, P, w, mg⟩ 2 sp_l_take)) (h_l_take : k_l_take ≤ k) {cdv : Value} {A : Around} {outer : List Env} {s : Shared} {H : Hp} {E : XK} {B : Bd} (hr : Rm k (A.deeper (envOfC "_law_put" (defScope s_l_put) s.heap.objs.size T.f_l_put cdv))) :
    DSs (cxOf (L2.CX P w) P w K mg base N_l_put "_law_put" (defScope s_l_put) T.f_l_put cdv A outer s H E).nox B (defBody s_l_put) (t_l_put sp_l_take) :=
  dss_cons (ds_if (dt_cmp (o_eq hr.units) (de_call G_l_take (hr.mono (by omega)) (by rfl) T.g_l_take T.F_l_take.kp T.b_l_take (dr_slot (i := 0) (pv 0) (dr_cons (de_int) (dr_nil)))) (de_int) (nomark _)) (dss_one (ds_ret (dv 2))) (dss_nil)) (dss_cons (ds_set (i := 3) sc_l_put.nd (de_tup (da_cons (de_str) (da_cons (de_tup (da_cons (de_str) (da_cons (de_int) (da_nil)))) (da_cons (de_tup (da_cons (de_str) (da_cons (de_int) (da_nil)))) (da_nil)))))) (dss_cons (ds_set (i := 4) sc_l_put.nd (de_lst (da_cons (de_tup (da_cons (de_str) (da_cons (dv 1) (da_cons (dv 2) (da_nil))))) (da_cons (de_tup (da_cons (de_str) (da_cons (dv 2) (da_cons (dv 1) (da_nil))))) (da_cons (de_tup (da_cons (de_str) (da_cons (de_tup (da_cons (dv 2) (da_cons (dv 1) (da_nil)))) (da_nil)))) (da_cons (de_tup (da_cons (de_str) (da_cons (de_tup (da_cons (dv 1) (da_cons (de_tup (da_cons (de_str) (da_nil))) (da_cons (dv 2) (da_nil))))) (da_nil)))) (da_nil))))))) (dss_cons (ds_set (i := 4) sc_l_put.nd (de_op o_add (dv 4) (de_lst (da_cons (de_tup (da_cons (de_str) (da_cons (dv 3) (da_cons (dv 1) (da_cons (dv 2) (da_nil)))))) (da_cons (de_tup (da_cons (de_str) (da_cons (dv 3) (da_cons (dv 2) (da_cons (dv 1) (da_nil)))))) (da_nil)))))) (dss_one (ds_ret (de_ix (o_ix (hu_of hr.toRoom)) (dv 4) (de_call G_l_take (hr.mono (by omega)) (by rfl) T.g_l_take T.F_l_take.kp T.b_l_take (dr_slot (i := 0) (pv 0) (dr_cons (de_int) (dr_nil))))))))))
def t_law_1 (sp_l_pen : FSpecO) (sp_l_needs : FSpec) (sp_l_rows : FSpec) (sp_l_told : FSpec) (sp_l_take : FSpec) (sp_l_bad_needs : FSpec) (sp_l_bad_rows : FSpec) (sp_l_put : FSpec) (sp_l_bad_body : FSpec) : TDS := sSeq (sIf (qTest (qOp neD (qCall sp_l_told 2 (rCons (qVar 2) (rCons (qVar 3) (rNil)))) (qC (.str "made")))) (sRet (qC (.bl false))) (sNext)) (sSeq (sAsg (qCall sp_l_take 2 (rSlot 1 (rCons (qC (.int 3)) (rNil)))) (gN 5)) (sSeq (sAsg (qC (.str "")) (gN 6)) (sSeq (sIf (qTest (qOp eqD (qVar 5) (qC (.int 0)))) (sAsg (qCall sp_l_told 2 (rCons (qCall sp_l_bad_needs 2 (rSlot 1 (rCons (qVar 2) (rNil)))) (rCons (qVar 3) (rNil)))) (gN 6)) (sIf (qTest (qOp eqD (qVar 5) (qC (.int 1)))) (sAsg (qCall sp_l_told 2 (rCons (qVar 2) (rCons (qCall sp_l_bad_rows 3 (rSlot 1 (rCons (qVar 2) (rCons (qVar 3) (rNil))))) (rNil)))) (gN 6)) (sSeq (sAsg (qCall sp_l_take 2 (rSlot 1 (rCons (qC (.int 3)) (rNil)))) (gN 7)) (sSeq (sAsg (qOp ixD (qVar 3) (qVar 7)) (gTupD 3 (gConsD (gN 9) (gConsD (gN 10) (gConsD (gN 11) (gNilD)))))) (sSeq (sAsg (qCall sp_l_put 3 (rSlot 1 (rCons (qVar 11) (rCons (qCall sp_l_bad_body 3 (rSlot 1 (rCons (qVar 2) (rCons (qCl (n1 lenD) (qCons (qVar 10) (qNil))) (rNil))))) (rNil))))) (gN 8)) (sAsg (qCall sp_l_told 2 (rCons (qVar 2) (rCons (qOp addD (qOp addD (qSl slD (qVar 3) (qNoPart) (qPart (qVar 7))) (qTup (qCons (qTup (qCons (qVar 9) (qCons (qVar 10) (qCons (qVar 8) (qNil))))) (qNil)))) (qSl slD (qVar 3) (qPart (qOp addD (qVar 7) (qC (.int 1)))) (qNoPart))) (rNil)))) (gN 6))))))) (sIf (qTest (qOp neD (qVar 6) (qC (.str "refused")))) (sRet (qC (.bl false))) (sNext)))))
abbrev K_law (P : Program) (w : World) (base : Heap) (T : Txt K w mg) (k : Nat) (sp : FSpec) : Prop := Fk P w K mg base k T.f_law T.d_law ["_law_script"] (spD ⟨K, P, w, mg⟩ 1 sp)
def t_law (sp_l_pen : FSpecO) (sp_l_needs : FSpec) (sp_l_rows : FSpec) (sp_l_told : FSpec) (sp_l_take : FSpec) (sp_l_bad_needs : FSpec) (sp_l_bad_rows : FSpec) (sp_l_put : FSpec) (sp_l_bad_body : FSpec) : TDS := sSeq (sOwn 1 (fCall sp_l_pen 1 (rCons (qVar 0) (rNil)))) (sCl 1 PenS (sSeq (sAsg (qCall sp_l_needs 1 (rSlot 1 (rNil))) (gN 2)) (sSeq (sAsg (qCall sp_l_rows 1 (rCons (qVar 2) (rNil))) (gN 3)) (sSeq (sFor (qRg1 (qCons (qC (.int 18)) (qNil))) (gN 4) ((t_law_1 sp_l_pen sp_l_needs sp_l_rows sp_l_told sp_l_take sp_l_bad_needs sp_l_bad_rows sp_l_put sp_l_bad_body))) (sRet (qOp eqD (qCall sp_l_told 2 (rCons (qVar 2) (rCons (qVar 3) (rNil)))) (qC (.str "made"))))))))
set_option maxHeartbeats 4000000 in
theorem d_law (T : Txt K w mg) {k : Nat} {k_l_pen : Nat} {sp_l_pen : FSpecO} (G_l_pen : Fk P w K mg base k_l_pen T.f_l_pen T.d_l_pen ["_law_script"] (spO ⟨K, P, w, mg⟩ 1 sp_l_pen)) (h_l_pen : k_l_pen ≤ k) {k_l_needs : Nat} {sp_l_needs : FSpec} (G_l_needs : Fk P w K mg base k_l_needs T.f_l_needs T.d_l_needs ["_law_pen_here"] (spD ⟨K, P, w, mg⟩ 1 sp_l_needs)) (h_l_needs : k_l_needs ≤ k) {k_l_rows : Nat} {sp_l_rows : FSpec} (G_l_rows : Fk P w K mg base k_l_rows T.f_l_rows T.d_l_rows ["_law_needs_here"] (spD ⟨K, P, w, mg⟩ 1 sp_l_rows)) (h_l_rows : k_l_rows ≤ k) {k_l_told : Nat} {sp_l_told : FSpec} (G_l_told : Fk P w K mg base k_l_told T.f_l_told T.d_l_told ["_law_needs_here", "_law_rows_here"] (spD ⟨K, P, w, mg⟩ 2 sp_l_told)) (h_l_told : k_l_told ≤ k) {k_l_take : Nat} {sp_l_take : FSpec} (G_l_take : Fk P w K mg base k_l_take T.f_l_take T.d_l_take ["_law_pen_here", "_law_many"] (spD ⟨K, P, w, mg⟩ 2 sp_l_take)) (h_l_take : k_l_take ≤ k) {k_l_bad_needs : Nat} {sp_l_bad_needs : FSpec} (G_l_bad_needs : Fk P w K mg base k_l_bad_needs T.f_l_bad_needs T.d_l_bad_needs ["_law_pen_here", "_law_needs_here"] (spD ⟨K, P, w, mg⟩ 2 sp_l_bad_needs)) (h_l_bad_needs : k_l_bad_needs ≤ k) {k_l_bad_rows : Nat} {sp_l_bad_rows : FSpec} (G_l_bad_rows : Fk P w K mg base k_l_bad_rows T.f_l_bad_rows T.d_l_bad_rows ["_law_pen_here", "_law_needs_here", "_law_rows_here"] (spD ⟨K, P, w, mg⟩ 3 sp_l_bad_rows)) (h_l_bad_rows : k_l_bad_rows ≤ k) {k_l_put : Nat} {sp_l_put : FSpec} (G_l_put : Fk P w K mg base k_l_put T.f_l_put T.d_l_put ["_law_pen_here", "_law_body", "_law_bad"] (spD ⟨K, P, w, mg⟩ 3 sp_l_put)) (h_l_put : k_l_put ≤ k) {k_l_bad_body : Nat} {sp_l_bad_body : FSpec} (G_l_bad_body : Fk P w K mg base k_l_bad_body T.f_l_bad_body T.d_l_bad_body ["_law_pen_here", "_law_needs_here", "_law_many"] (spD ⟨K, P, w, mg⟩ 3 sp_l_bad_body)) (h_l_bad_body : k_l_bad_body ≤ k) {cdv : Value} {A : Around} {outer : List Env} {s : Shared} {H : Hp} {E : XK} {B : Bd} (hr : Rm k (A.deeper (envOfC "law" (defScope s_law) s.heap.objs.size T.f_law cdv))) :
    DSs (cxOf (L2.CX P w) P w K mg base N_law "law" (defScope s_law) T.f_law cdv A outer s H E).nox B (defBody s_law) (t_law sp_l_pen sp_l_needs sp_l_rows sp_l_told sp_l_take sp_l_bad_needs sp_l_bad_rows sp_l_put sp_l_bad_body) :=
  dss_cons (ds_own (i := 1) sc_law.nd (df_call G_l_pen (hr.mono (by omega)) (by rfl) T.g_l_pen T.F_l_pen.kp T.b_l_pen (dr_cons (dv 0) (dr_nil)))) (dss_cl 1 PenS (dss_cons (ds_set (i := 2) sc_law.nd (de_call G_l_needs (hr.mono (by omega)) (by rfl) T.g_l_needs T.F_l_needs.kp T.b_l_needs (dr_slot (i := 1) (pv 1) (dr_nil)))) (dss_cons (ds_set (i := 3) sc_law.nd (de_call G_l_rows (hr.mono (by omega)) (by rfl) T.g_l_rows T.F_l_rows.kp T.b_l_rows (dr_cons (dv 2) (dr_nil)))) (dss_cons (ds_for PassesOwn.never rfl (di_range1 (by rfl) T.z_range (da_cons (de_int) (da_nil))) (dg_name (i := 4) sc_law.nd) (dss_cons (ds_if (dt_cmp (o_ne hr.units) (de_call G_l_told (hr.mono (by omega)) (by rfl) T.g_l_told T.F_l_told.kp T.b_l_told (dr_cons (dv 2) (dr_cons (dv 3) (dr_nil)))) (de_str) (nomark _)) (dss_one (ds_ret (de_bl))) (dss_nil)) (dss_cons (ds_set (i := 5) sc_law.nd (de_call G_l_take (hr.mono (by omega)) (by rfl) T.g_l_take T.F_l_take.kp T.b_l_take (dr_slot (i := 1) (pv 1) (dr_cons (de_int) (dr_nil))))) (dss_cons (ds_set (i := 6) sc_law.nd (de_str)) (dss_cons (ds_if (dt_cmp (o_eq hr.units) (dv 5) (de_int) (nomark _)) (dss_one (ds_set (i := 6) sc_law.nd (de_call G_l_told (hr.mono (by omega)) (by rfl) T.g_l_told T.F_l_told.kp T.b_l_told (dr_cons (de_call G_l_bad_needs (hr.mono (by omega)) (by rfl) T.g_l_bad_needs T.F_l_bad_needs.kp T.b_l_bad_needs (dr_slot (i := 1) (pv 1) (dr_cons (dv 2) (dr_nil)))) (dr_cons (dv 3) (dr_nil)))))) (dss_one (ds_if (dt_cmp (o_eq hr.units) (dv 5) (de_int) (nomark _)) (dss_one (ds_set (i := 6) sc_law.nd (de_call G_l_told (hr.mono (by omega)) (by rfl) T.g_l_told T.F_l_told.kp T.b_l_told (dr_cons (dv 2) (dr_cons (de_call G_l_bad_rows (hr.mono (by omega)) (by rfl) T.g_l_bad_rows T.F_l_bad_rows.kp T.b_l_bad_rows (dr_slot (i := 1) (pv 1) (dr_cons (dv 2) (dr_cons (dv 3) (dr_nil))))) (dr_nil)))))) (dss_cons (ds_set (i := 7) sc_law.nd (de_call G_l_take (hr.mono (by omega)) (by rfl) T.g_l_take T.F_l_take.kp T.b_l_take (dr_slot (i := 1) (pv 1) (dr_cons (de_int) (dr_nil))))) (dss_cons (ds_asg (de_ix (o_ix (hu_of hr.toRoom)) (dv 3) (dv 7)) (dg_tup rfl (dgs_cons (dg_name (i := 9) sc_law.nd) (dgs_cons (dg_name (i := 10) sc_law.nd) (dgs_cons (dg_name (i := 11) sc_law.nd) (dgs_nil)))))) (dss_cons (ds_set (i := 8) sc_law.nd (de_call G_l_put (hr.mono (by omega)) (by rfl) T.g_l_put T.F_l_put.kp T.b_l_put (dr_slot (i := 1) (pv 1) (dr_cons (dv 11) (dr_cons (de_call G_l_bad_body (hr.mono (by omega)) (by rfl) T.g_l_bad_body T.F_l_bad_body.kp T.b_l_bad_body (dr_slot (i := 1) (pv 1) (dr_cons (dv 2) (dr_cons (de_callB (c_len) (by rfl) T.z_len (by decide +kernel) (da_cons (dv 10) (da_nil))) (dr_nil))))) (dr_nil)))))) (dss_one (ds_set (i := 6) sc_law.nd (de_call G_l_told (hr.mono (by omega)) (by rfl) T.g_l_told T.F_l_told.kp T.b_l_told (dr_cons (dv 2) (dr_cons (de_op o_add (de_op o_add (de_slice o_sl (dv 3) (do_none) (do_some (dv 7))) (de_tup (da_cons (de_tup (da_cons (dv 9) (da_cons (dv 10) (da_cons (dv 8) (da_nil))))) (da_nil)))) (de_slice o_sl (dv 3) (do_some (de_op o_add (dv 7) (de_int))) (do_none))) (dr_nil)))))))))))) (dss_one (ds_if (dt_cmp (o_ne hr.units) (dv 6) (de_str) (nomark _)) (dss_one (ds_ret (de_bl))) (dss_nil)))))))) (dss_one (ds_ret (de_cmp (o_eq hr.units) (de_call G_l_told (hr.mono (by omega)) (by rfl) T.g_l_told T.F_l_told.kp T.b_l_told (dr_cons (dv 2) (dr_cons (dv 3) (dr_nil)))) (de_str) (nomark _))))))))
end
set_option maxHeartbeats 8000000 in
theorem txt_z {K : PySem.W.Frag} {w : World} {h : Heap} {mg : Str → Option Value} (X : K.In h) (G : h.Ns mainGlobals mg) (c : SaysZ (fza ++ fzb) ddz tz w K) :
    ∃ T : Txt K w mg, mg "law" = some (.ref T.f_law) ∧ ∀ (s : Shared) (v : Value), BindsTo s T.d_law ⟨[v], []⟩ [("_law_script", v)] := by
  obtain ⟨d0, F0⟩ := c.def_ 0 (d := dd_is_whole) (st := s_is_whole) rfl rfl rfl rfl
  have b0 := F0.binds (ps := ["thing"]) fun _ _ _ _ _ _ us hl => match us, hl with | [_], _ => rfl
  obtain ⟨d1, F1⟩ := c.def_ 1 (d := dd_kind_of) (st := s_kind_of) rfl rfl rfl rfl
  have b1 := F1.binds (ps := ["needs", "name"]) fun _ _ _ _ _ _ us hl => match us, hl with | [_, _], _ => rfl
  obtain ⟨d2, F2⟩ := c.def_ 2 (d := dd_is_part) (st := s_is_part) rfl rfl rfl rfl
  have b2 := F2.binds (ps := ["kind", "part", "needs", "many"]) fun _ _ _ _ _ _ us hl => match us, hl with | [_, _, _, _], _ => rfl
  obtain ⟨d3, F3⟩ := c.def_ 3 (d := dd_is_sum) (st := s_is_sum) rfl rfl rfl rfl
  have b3 := F3.binds (ps := ["thing", "needs", "many"]) fun _ _ _ _ _ _ us hl => match us, hl with | [_, _, _], _ => rfl
  obtain ⟨d4, F4⟩ := c.def_ 4 (d := dd_is_cond) (st := s_is_cond) rfl rfl rfl rfl
  have b4 := F4.binds (ps := ["thing", "needs", "many"]) fun _ _ _ _ _ _ us hl => match us, hl with | [_, _, _], _ => rfl
  obtain ⟨d5, F5⟩ := c.def_ 5 (d := dd_is_name) (st := s_is_name) rfl rfl rfl rfl
  have b5 := F5.binds (ps := ["thing"]) fun _ _ _ _ _ _ us hl => match us, hl with | [_], _ => rfl
  obtain ⟨d6, F6⟩ := c.def_ 6 (d := dd_are_needs) (st := s_are_needs) rfl rfl rfl rfl
  have b6 := F6.binds (ps := ["thing"]) fun _ _ _ _ _ _ us hl => match us, hl with | [_], _ => rfl
  obtain ⟨d7, F7⟩ := c.def_ 7 (d := dd_is_most) (st := s_is_most) rfl rfl rfl rfl
  have b7 := F7.binds (ps := ["thing", "needs"]) fun _ _ _ _ _ _ us hl => match us, hl with | [_, _], _ => rfl
  obtain ⟨d8, F8⟩ := c.def_ 8 (d := dd_are_sums) (st := s_are_sums) rfl rfl rfl rfl
  have b8 := F8.binds (ps := ["thing", "many", "needs", "own"]) fun _ _ _ _ _ _ us hl => match us, hl with | [_, _, _, _], _ => rfl
  obtain ⟨d9, F9⟩ := c.def_ 9 (d := dd_is_call) (st := s_is_call) rfl rfl rfl rfl
  have b9 := F9.binds (ps := ["thing", "house", "own"]) fun _ _ _ _ _ _ us hl => match us, hl with | [_, _, _], _ => rfl
  obtain ⟨d10, F10⟩ := c.def_ 10 (d := dd_is_choice) (st := s_is_choice) rfl rfl rfl rfl
  have b10 := F10.binds (ps := ["thing", "house", "own", "turns"]) fun _ _ _ _ _ _ us hl => match us, hl with | [_, _, _, _], _ => rfl
  obtain ⟨d11, F11⟩ := c.def_ 11 (d := dd_is_turned) (st := s_is_turned) rfl rfl rfl rfl
  have b11 := F11.binds (ps := ["thing", "house", "own", "turns"]) fun _ _ _ _ _ _ us hl => match us, hl with | [_, _, _, _], _ => rfl
  obtain ⟨d12, F12⟩ := c.def_ 12 (d := dd_is_body) (st := s_is_body) rfl rfl rfl rfl
  have b12 := F12.binds (ps := ["thing", "house", "own", "turns"]) fun _ _ _ _ _ _ us hl => match us, hl with | [_, _, _, _], _ => rfl
  obtain ⟨d13, F13⟩ := c.def_ 13 (d := dd_is_worded) (st := s_is_worded) rfl rfl rfl rfl
  have b13 := F13.binds (ps := ["thing"]) fun _ _ _ _ _ _ us hl => match us, hl with | [_], _ => rfl
  obtain ⟨d14, F14⟩ := c.def_ 14 (d := dd_count_parts) (st := s_count_parts) rfl rfl rfl rfl
  have b14 := F14.binds (ps := ["thing"]) fun _ _ _ _ _ _ us hl => match us, hl with | [_], _ => rfl
  obtain ⟨d15, F15⟩ := c.def_ 15 (d := dd_deepness) (st := s_deepness) rfl rfl rfl rfl
  have b15 := F15.binds (ps := ["thing"]) fun _ _ _ _ _ _ us hl => match us, hl with | [_], _ => rfl
  obtain ⟨d16, F16⟩ := c.def_ 16 (d := dd_is_head) (st := s_is_head) rfl rfl rfl rfl
  have b16 := F16.binds (ps := ["thing", "needs"]) fun _ _ _ _ _ _ us hl => match us, hl with | [_, _], _ => rfl
  obtain ⟨d17, F17⟩ := c.def_ 17 (d := dd_are_functions) (st := s_are_functions) rfl rfl rfl rfl
  have b17 := F17.binds (ps := ["thing", "needs"]) fun _ _ _ _ _ _ us hl => match us, hl with | [_, _], _ => rfl
  obtain ⟨d18, F18⟩ := c.def_ 18 (d := dd_program_of) (st := s_program_of) rfl rfl rfl rfl
  have b18 := F18.binds (ps := ["needs", "functions"]) fun _ _ _ _ _ _ us hl => match us, hl with | [_, _], _ => rfl
  obtain ⟨d19, F19⟩ := c.def_ 19 (d := dd_l_pen) (st := s_l_pen) rfl rfl rfl rfl
  have b19 := F19.binds (ps := ["_law_script"]) fun _ _ _ _ _ _ us hl => match us, hl with | [_], _ => rfl
  obtain ⟨d20, F20⟩ := c.def_ 20 (d := dd_l_take) (st := s_l_take) rfl rfl rfl rfl
  have b20 := F20.binds (ps := ["_law_pen_here", "_law_many"]) fun _ _ _ _ _ _ us hl => match us, hl with | [_, _], _ => rfl
  obtain ⟨d21, F21⟩ := c.def_ 21 (d := dd_l_told) (st := s_l_told) rfl rfl rfl rfl
  have b21 := F21.binds (ps := ["_law_needs_here", "_law_rows_here"]) fun _ _ _ _ _ _ us hl => match us, hl with | [_, _], _ => rfl
  obtain ⟨d22, F22⟩ := c.def_ 22 (d := dd_l_needs) (st := s_l_needs) rfl rfl rfl rfl
  have b22 := F22.binds (ps := ["_law_pen_here"]) fun _ _ _ _ _ _ us hl => match us, hl with | [_], _ => rfl
  obtain ⟨d23, F23⟩ := c.def_ 23 (d := dd_l_rows) (st := s_l_rows) rfl rfl rfl rfl
  have b23 := F23.binds (ps := ["_law_needs_here"]) fun _ _ _ _ _ _ us hl => match us, hl with | [_], _ => rfl
  obtain ⟨d24, F24⟩ := c.def_ 24 (d := dd_l_wide) (st := s_l_wide) rfl rfl rfl rfl
  have b24 := F24.binds (ps := ["_law_many"]) fun _ _ _ _ _ _ us hl => match us, hl with | [_], _ => rfl
  obtain ⟨d25, F25⟩ := c.def_ 25 (d := dd_l_deep) (st := s_l_deep) rfl rfl rfl rfl
  have b25 := F25.binds (ps := ["_law_many"]) fun _ _ _ _ _ _ us hl => match us, hl with | [_], _ => rfl
  obtain ⟨d26, F26⟩ := c.def_ 26 (d := dd_l_word) (st := s_l_word) rfl rfl rfl rfl
  have b26 := F26.binds (ps := ["_law_pen_here"]) fun _ _ _ _ _ _ us hl => match us, hl with | [_], _ => rfl
  obtain ⟨d27, F27⟩ := c.def_ 27 (d := dd_l_bad_needs) (st := s_l_bad_needs) rfl rfl rfl rfl
  have b27 := F27.binds (ps := ["_law_pen_here", "_law_needs_here"]) fun _ _ _ _ _ _ us hl => match us, hl with | [_, _], _ => rfl
  obtain ⟨d28, F28⟩ := c.def_ 28 (d := dd_l_bad_mosts) (st := s_l_bad_mosts) rfl rfl rfl rfl
  have b28 := F28.binds (ps := ["_law_needs_here", "_law_mosts"]) fun _ _ _ _ _ _ us hl => match us, hl with | [_, _], _ => rfl
  obtain ⟨d29, F29⟩ := c.def_ 29 (d := dd_l_bad_rows) (st := s_l_bad_rows) rfl rfl rfl rfl
  have b29 := F29.binds (ps := ["_law_pen_here", "_law_needs_here", "_law_rows_here"]) fun _ _ _ _ _ _ us hl => match us, hl with | [_, _, _], _ => rfl
  obtain ⟨d30, F30⟩ := c.def_ 30 (d := dd_l_halves) (st := s_l_halves) rfl rfl rfl rfl
  have b30 := F30.binds (ps := ["_law_many"]) fun _ _ _ _ _ _ us hl => match us, hl with | [_], _ => rfl
  obtain ⟨d31, F31⟩ := c.def_ 31 (d := dd_l_too_great) (st := s_l_too_great) rfl rfl rfl rfl
  have b31 := F31.binds (ps := ["_law_pen_here"]) fun _ _ _ _ _ _ us hl => match us, hl with | [_], _ => rfl
  obtain ⟨d32, F32⟩ := c.def_ 32 (d := dd_l_turns_behind) (st := s_l_turns_behind) rfl rfl rfl rfl
  have b32 := F32.binds (ps := ["_law_own", "_law_far"]) fun _ _ _ _ _ _ us hl => match us, hl with | [_, _], _ => rfl
  obtain ⟨d33, F33⟩ := c.def_ 33 (d := dd_l_wrong_forms) (st := s_l_wrong_forms) rfl rfl rfl rfl
  have b33 := F33.binds (ps := ["_law_needs_here", "_law_own"]) fun _ _ _ _ _ _ us hl => match us, hl with | [_, _], _ => rfl
  obtain ⟨d34, F34⟩ := c.def_ 34 (d := dd_l_bad_body) (st := s_l_bad_body) rfl rfl rfl rfl
  have b34 := F34.binds (ps := ["_law_pen_here", "_law_needs_here", "_law_many"]) fun _ _ _ _ _ _ us hl => match us, hl with | [_, _, _], _ => rfl
  obtain ⟨d35, F35⟩ := c.def_ 35 (d := dd_l_put) (st := s_l_put) rfl rfl rfl rfl
  have b35 := F35.binds (ps := ["_law_pen_here", "_law_body", "_law_bad"]) fun _ _ _ _ _ _ us hl => match us, hl with | [_, _, _], _ => rfl
  obtain ⟨d36, F36⟩ := c.def_ 36 (d := dd_law) (st := s_law) rfl rfl rfl rfl
  have b36 := F36.binds (ps := ["_law_script"]) fun _ _ _ _ _ _ us hl => match us, hl with | [_], _ => rfl
  have bl : ∀ (s : Shared) (v : Value), BindsTo s d36 ⟨[v], []⟩ [("_law_script", v)] := fun s v => by
    obtain ⟨_, _, _, _, _, _, _, _, _, e, _, _⟩ := F36.ex
    rw [e]; exact .of_eq rfl
  exact ⟨{ X_NoProgram := He.ga K "NoProgram", gx_NoProgram := He.glo_ok X G (c.fact 37), xc_NoProgram := ⟨He.exc_ok (c.fact 38)⟩, X_RoomError := He.ga K "RoomError", gx_RoomError := He.glo_ok X G (c.fact 40), X_NoBack := He.ga K "NoBack", gx_NoBack := He.glo_ok X G (c.fact 41), X_NoCell := He.ga K "NoCell", gx_NoCell := He.glo_ok X G (c.fact 42), X_NoGiven := He.ga K "NoGiven", gx_NoGiven := He.glo_ok X G (c.fact 43), X_NoName := He.ga K "NoName", gx_NoName := He.glo_ok X G (c.fact 44), X_NoRoad := He.ga K "NoRoad", gx_NoRoad := He.glo_ok X G (c.fact 45), X_NoRow := He.ga K "NoRow", gx_NoRow := He.glo_ok X G (c.fact 46), X_NoRule := He.ga K "NoRule", gx_NoRule := He.glo_ok X G (c.fact 47), X_NoText := He.ga K "NoText", gx_NoText := He.glo_ok X G (c.fact 48), X_NoTurn := He.ga K "NoTurn", gx_NoTurn := He.glo_ok X G (c.fact 49), X_Ring := He.ga K "Ring", gx_Ring := He.glo_ok X G (c.fact 50), X_TooGreat := He.ga K "TooGreat", gx_TooGreat := He.glo_ok X G (c.fact 51), X_TooLong := He.ga K "TooLong", gx_TooLong := He.glo_ok X G (c.fact 52), xt := List.forall_mem_cons.mpr ⟨⟨_, _, He.glo_ok X G (c.fact 37), He.glo_ok X G (c.fact 40), He.exm_ok (c.fact 53)⟩, fun _ h => nomatch h⟩, ki := List.forall_mem_cons.mpr ⟨⟨_, He.glo_ok X G (c.fact 37), xcc_ok (c.fz 39), ⟨_, He.glo_ok X G (c.fact 41), kit_ok (c.fz 54)⟩⟩, List.forall_mem_cons.mpr ⟨⟨_, He.glo_ok X G (c.fact 37), xcc_ok (c.fz 39), ⟨_, He.glo_ok X G (c.fact 42), kit_ok (c.fz 55)⟩⟩, List.forall_mem_cons.mpr ⟨⟨_, He.glo_ok X G (c.fact 37), xcc_ok (c.fz 39), ⟨_, He.glo_ok X G (c.fact 43), kit_ok (c.fz 56)⟩⟩, List.forall_mem_cons.mpr ⟨⟨_, He.glo_ok X G (c.fact 37), xcc_ok (c.fz 39), ⟨_, He.glo_ok X G (c.fact 44), kit_ok (c.fz 57)⟩⟩, List.forall_mem_cons.mpr ⟨⟨_, He.glo_ok X G (c.fact 37), xcc_ok (c.fz 39), ⟨_, He.glo_ok X G (c.fact 37), kit_ok (c.fz 58)⟩⟩, List.forall_mem_cons.mpr ⟨⟨_, He.glo_ok X G (c.fact 37), xcc_ok (c.fz 39), ⟨_, He.glo_ok X G (c.fact 45), kit_ok (c.fz 59)⟩⟩, List.forall_mem_cons.mpr ⟨⟨_, He.glo_ok X G (c.fact 37), xcc_ok (c.fz 39), ⟨_, He.glo_ok X G (c.fact 46), kit_ok (c.fz 60)⟩⟩, List.forall_mem_cons.mpr ⟨⟨_, He.glo_ok X G (c.fact 37), xcc_ok (c.fz 39), ⟨_, He.glo_ok X G (c.fact 47), kit_ok (c.fz 61)⟩⟩, List.forall_mem_cons.mpr ⟨⟨_, He.glo_ok X G (c.fact 37), xcc_ok (c.fz 39), ⟨_, He.glo_ok X G (c.fact 48), kit_ok (c.fz 62)⟩⟩, List.forall_mem_cons.mpr ⟨⟨_, He.glo_ok X G (c.fact 37), xcc_ok (c.fz 39), ⟨_, He.glo_ok X G (c.fact 49), kit_ok (c.fz 63)⟩⟩, List.forall_mem_cons.mpr ⟨⟨_, He.glo_ok X G (c.fact 37), xcc_ok (c.fz 39), ⟨_, He.glo_ok X G (c.fact 50), kit_ok (c.fz 64)⟩⟩, List.forall_mem_cons.mpr ⟨⟨_, He.glo_ok X G (c.fact 37), xcc_ok (c.fz 39), ⟨_, He.glo_ok X G (c.fact 51), kit_ok (c.fz 65)⟩⟩, List.forall_mem_cons.mpr ⟨⟨_, He.glo_ok X G (c.fact 37), xcc_ok (c.fz 39), ⟨_, He.glo_ok X G (c.fact 52), kit_ok (c.fz 66)⟩⟩, List.forall_mem_cons.mpr ⟨⟨_, He.glo_ok X G (c.fact 37), xcc_ok (c.fz 39), kitT_ok (c.fz 67)⟩, fun _ h => nomatch h⟩⟩⟩⟩⟩⟩⟩⟩⟩⟩⟩⟩⟩⟩, f_is_whole := He.fAd K dd_is_whole.at_, d_is_whole := d0, F_is_whole := F0, b_is_whole := b0, g_is_whole := He.glo_ok X G (c.fact 0), f_kind_of := He.fAd K dd_kind_of.at_, d_kind_of := d1, F_kind_of := F1, b_kind_of := b1, g_kind_of := He.glo_ok X G (c.fact 1), f_is_part := He.fAd K dd_is_part.at_, d_is_part := d2, F_is_part := F2, b_is_part := b2, g_is_part := He.glo_ok X G (c.fact 2), f_is_sum := He.fAd K dd_is_sum.at_, d_is_sum := d3, F_is_sum := F3, b_is_sum := b3, g_is_sum := He.glo_ok X G (c.fact 3), f_is_cond := He.fAd K dd_is_cond.at_, d_is_cond := d4, F_is_cond := F4, b_is_cond := b4, g_is_cond := He.glo_ok X G (c.fact 4), f_is_name := He.fAd K dd_is_name.at_, d_is_name := d5, F_is_name := F5, b_is_name := b5, g_is_name := He.glo_ok X G (c.fact 5), f_are_needs := He.fAd K dd_are_needs.at_, d_are_needs := d6, F_are_needs := F6, b_are_needs := b6, g_are_needs := He.glo_ok X G (c.fact 6), f_is_most := He.fAd K dd_is_most.at_, d_is_most := d7, F_is_most := F7, b_is_most := b7, g_is_most := He.glo_ok X G (c.fact 7), f_are_sums := He.fAd K dd_are_sums.at_, d_are_sums := d8, F_are_sums := F8, b_are_sums := b8, g_are_sums := He.glo_ok X G (c.fact 8), f_is_call := He.fAd K dd_is_call.at_, d_is_call := d9, F_is_call := F9, b_is_call := b9, g_is_call := He.glo_ok X G (c.fact 9), f_is_choice := He.fAd K dd_is_choice.at_, d_is_choice := d10, F_is_choice := F10, b_is_choice := b10, g_is_choice := He.glo_ok X G (c.fact 10), f_is_turned := He.fAd K dd_is_turned.at_, d_is_turned := d11, F_is_turned := F11, b_is_turned := b11, g_is_turned := He.glo_ok X G (c.fact 11), f_is_body := He.fAd K dd_is_body.at_, d_is_body := d12, F_is_body := F12, b_is_body := b12, g_is_body := He.glo_ok X G (c.fact 12), f_is_worded := He.fAd K dd_is_worded.at_, d_is_worded := d13, F_is_worded := F13, b_is_worded := b13, g_is_worded := He.glo_ok X G (c.fact 13), f_count_parts := He.fAd K dd_count_parts.at_, d_count_parts := d14, F_count_parts := F14, b_count_parts := b14, g_count_parts := He.glo_ok X G (c.fact 14), f_deepness := He.fAd K dd_deepness.at_, d_deepness := d15, F_deepness := F15, b_deepness := b15, g_deepness := He.glo_ok X G (c.fact 15), f_is_head := He.fAd K dd_is_head.at_, d_is_head := d16, F_is_head := F16, b_is_head := b16, g_is_head := He.glo_ok X G (c.fact 16), f_are_functions := He.fAd K dd_are_functions.at_, d_are_functions := d17, F_are_functions := F17, b_are_functions := b17, g_are_functions := He.glo_ok X G (c.fact 17), f_program_of := He.fAd K dd_program_of.at_, d_program_of := d18, F_program_of := F18, b_program_of := b18, g_program_of := He.glo_ok X G (c.fact 18), f_l_pen := He.fAd K dd_l_pen.at_, d_l_pen := d19, F_l_pen := F19, b_l_pen := b19, g_l_pen := He.glo_ok X G (c.fact 19), f_l_take := He.fAd K dd_l_take.at_, d_l_take := d20, F_l_take := F20, b_l_take := b20, g_l_take := He.glo_ok X G (c.fact 20), f_l_told := He.fAd K dd_l_told.at_, d_l_told := d21, F_l_told := F21, b_l_told := b21, g_l_told := He.glo_ok X G (c.fact 21), f_l_needs := He.fAd K dd_l_needs.at_, d_l_needs := d22, F_l_needs := F22, b_l_needs := b22, g_l_needs := He.glo_ok X G (c.fact 22), f_l_rows := He.fAd K dd_l_rows.at_, d_l_rows := d23, F_l_rows := F23, b_l_rows := b23, g_l_rows := He.glo_ok X G (c.fact 23), f_l_wide := He.fAd K dd_l_wide.at_, d_l_wide := d24, F_l_wide := F24, b_l_wide := b24, g_l_wide := He.glo_ok X G (c.fact 24), f_l_deep := He.fAd K dd_l_deep.at_, d_l_deep := d25, F_l_deep := F25, b_l_deep := b25, g_l_deep := He.glo_ok X G (c.fact 25), f_l_word := He.fAd K dd_l_word.at_, d_l_word := d26, F_l_word := F26, b_l_word := b26, g_l_word := He.glo_ok X G (c.fact 26), f_l_bad_needs := He.fAd K dd_l_bad_needs.at_, d_l_bad_needs := d27, F_l_bad_needs := F27, b_l_bad_needs := b27, g_l_bad_needs := He.glo_ok X G (c.fact 27), f_l_bad_mosts := He.fAd K dd_l_bad_mosts.at_, d_l_bad_mosts := d28, F_l_bad_mosts := F28, b_l_bad_mosts := b28, g_l_bad_mosts := He.glo_ok X G (c.fact 28), f_l_bad_rows := He.fAd K dd_l_bad_rows.at_, d_l_bad_rows := d29, F_l_bad_rows := F29, b_l_bad_rows := b29, g_l_bad_rows := He.glo_ok X G (c.fact 29), f_l_halves := He.fAd K dd_l_halves.at_, d_l_halves := d30, F_l_halves := F30, b_l_halves := b30, g_l_halves := He.glo_ok X G (c.fact 30), f_l_too_great := He.fAd K dd_l_too_great.at_, d_l_too_great := d31, F_l_too_great := F31, b_l_too_great := b31, g_l_too_great := He.glo_ok X G (c.fact 31), f_l_turns_behind := He.fAd K dd_l_turns_behind.at_, d_l_turns_behind := d32, F_l_turns_behind := F32, b_l_turns_behind := b32, g_l_turns_behind := He.glo_ok X G (c.fact 32), f_l_wrong_forms := He.fAd K dd_l_wrong_forms.at_, d_l_wrong_forms := d33, F_l_wrong_forms := F33, b_l_wrong_forms := b33, g_l_wrong_forms := He.glo_ok X G (c.fact 33), f_l_bad_body := He.fAd K dd_l_bad_body.at_, d_l_bad_body := d34, F_l_bad_body := F34, b_l_bad_body := b34, g_l_bad_body := He.glo_ok X G (c.fact 34), f_l_put := He.fAd K dd_l_put.at_, d_l_put := d35, F_l_put := F35, b_l_put := b35, g_l_put := He.glo_ok X G (c.fact 35), f_law := He.fAd K dd_law.at_, d_law := d36, F_law := F36, b_law := b36, g_law := He.glo_ok X G (c.fact 36), m_OF_SUMS := con_ok X G (c.fz 68), m_WORDS := con_ok X G (c.fz 69), m_LETTERS := con_ok X G (c.fz 70), m_MOST_NEEDS := con_ok X G (c.fz 71), m_NEED_KINDS := con_ok X G (c.fz 72), m_MOST_CHOICES := con_ok X G (c.fz 73), m_MOST_TURNS := con_ok X G (c.fz 74), m_MOST_PLACES := con_ok X G (c.fz 75), m_MOST_MOST := con_ok X G (c.fz 76), m_MOST_FUNCTIONS := con_ok X G (c.fz 77), m_MOST_PARTS := con_ok X G (c.fz 78), m_MOST_DEEP := con_ok X G (c.fz 79), m_KINDS := tab_ok X G (c.tab 0) (c.fz 80), m_FORMS := tab_ok X G (c.tab 1) (c.fz 81), m_OF_CONDS := tab_ok X G (c.tab 2) (c.fz 82), z_isinstance := He.free_ok X G (c.fact 83), z_int := He.free_ok X G (c.fact 84), z_bool := He.free_ok X G (c.fact 85), z_tuple := He.free_ok X G (c.fact 86), z_len := He.free_ok X G (c.fact 87), z_str := He.free_ok X G (c.fact 88), z_all := He.free_ok X G (c.fact 89), z_zip := He.free_ok X G (c.fact 90), z_set := He.free_ok X G (c.fact 91), z_sum := He.free_ok X G (c.fact 92), z_max := He.free_ok X G (c.fact 93), z_abs := He.free_ok X G (c.fact 94), z_ValueError := He.free_ok X G (c.fact 95), z_range := He.free_ok X G (c.fact 96), z_list := He.free_ok X G (c.fact 97) }, He.glo_ok X G (c.fact 36), bl⟩
end Y

local macro_rules | `(tactic| walk_at "w") => `(tactic| conv => whnf)
local macro_rules | `(tactic| walk_at "sd") => `(tactic| first | ((with_reducible refine L2.DL.len_pos ?_); exact rfl) | ((with_reducible refine L2.DL.len_lt ?_); exact rfl) | assumption | exact rfl | omega | exact ⟨by decide, by decide, by decide⟩ | exact ⟨by omega, by omega⟩ | exact L2.DL.cdv_small (by omega) (by omega) | exact L2.DL.cml_l (by omega) (by omega) | exact L2.DL.cml_r (by omega) (by omega) | exact Nat.le_of_ble_eq_true rfl | exact L2.DL.cml_sz (by assumption) (by assumption) | decide)
local macro_rules | `(tactic| walk_at "es") => `(tactic| repeat (first | (refine Exists.intro _ (And.intro rfl ?_); conv => whnf) | (refine Exists.intro _ (Exists.intro _ (And.intro rfl ?_)); conv => whnf) | (refine Exists.intro _ (Exists.intro _ (Exists.intro _ (And.intro rfl ?_))); conv => whnf) | (refine Exists.intro _ (Exists.intro _ (Exists.intro _ (Exists.intro _ (And.intro rfl ?_)))); conv => whnf) | (refine And.intro (by walk_at "sd") ?_; conv => whnf)))
local macro_rules | `(tactic| walk_at "sp") => `(tactic| (split <;> rename_i hsp <;> (try simp only [decide_eq_true_eq, decide_eq_false_iff_not, Bool.not_eq_true', Bool.not_eq_false'] at hsp) <;> conv => whnf))
local macro_rules | `(tactic| walk_at "ei") => `(tactic| repeat (first | (refine Exists.intro _ (And.intro rfl ?_); conv => whnf) | (refine Exists.intro _ (Exists.intro _ (And.intro rfl ?_)); conv => whnf) | (refine Exists.intro _ (Exists.intro _ (Exists.intro _ (And.intro rfl ?_))); conv => whnf) | (refine Exists.intro _ (Exists.intro _ (Exists.intro _ (Exists.intro _ (And.intro rfl ?_)))); conv => whnf) | (refine And.intro (by walk_at "sd") ?_; conv => whnf) | (intro _; conv => whnf)))
local macro_rules | `(tactic| walk_at "fc") => `(tactic| (refine Eq.mpr (L2.DL.forL_cons _ _ _ _ _) ?_; conv => whnf))
local macro_rules | `(tactic| walk_at "fn") => `(tactic| (refine Eq.mpr (L2.DL.forL_nil _ _ _) ?_; conv => whnf))
local macro_rules | `(tactic| walk_at "mc") => `(tactic| (refine Eq.mpr (L2.DL.mapL_cons _ _ _ _ _ _ _ _) ?_; conv => whnf))
local macro_rules | `(tactic| walk_at "mn") => `(tactic| (refine Eq.mpr (L2.DL.mapL_nil _ _ _ _ _ _) ?_; conv => whnf))
local macro_rules | `(tactic| walk_at "sq") => `(tactic| first | ((with_reducible refine L2.DL.len_pos ?_); exact rfl) | ((with_reducible refine L2.DL.len_lt ?_); exact rfl) | assumption | (with_reducible exact rfl) | omega | exact ⟨by omega, by omega⟩ | exact ⟨by decide, by decide, by decide⟩ | exact L2.DL.cdv_small (by omega) (by omega) | exact L2.DL.cml_l (by omega) (by omega) | exact L2.DL.cml_r (by omega) (by omega) | ((simp only [List.length_append, List.length_cons, List.length_nil]); done) | ((simp only [List.length_append, List.length_cons, List.length_nil]); decide))
local macro_rules | `(tactic| walk_at "ek") => `(tactic| repeat (first | (refine Exists.intro _ (And.intro rfl ?_); conv => whnf) | (refine Exists.intro _ (Exists.intro _ (And.intro rfl ?_)); conv => whnf) | (refine Exists.intro _ (Exists.intro _ (Exists.intro _ (And.intro rfl ?_))); conv => whnf) | (refine Exists.intro _ (Exists.intro _ (Exists.intro _ (Exists.intro _ (And.intro rfl ?_)))); conv => whnf) | (refine And.intro (by walk_at "sq") ?_; conv => whnf) | (refine Exists.intro _ (And.intro (L2.atI_nat (j := 0) rfl) ?_); conv => whnf) | (refine Exists.intro _ (And.intro (L2.atI_nat (j := 1) rfl) ?_); conv => whnf) | (refine Exists.intro _ (And.intro (L2.atI_nat (j := 2) rfl) ?_); conv => whnf) | (refine Exists.intro _ (And.intro (L2.atI_nat (j := 3) rfl) ?_); conv => whnf) | (refine Exists.intro _ (And.intro (L2.atI_nat (j := 4) rfl) ?_); conv => whnf) | (refine Exists.intro _ (And.intro (L2.atI_nat (j := 5) rfl) ?_); conv => whnf) | (refine Exists.intro _ (And.intro (L2.atI_nat (j := 6) rfl) ?_); conv => whnf) | (refine Exists.intro _ (And.intro (L2.atI_nat (j := 7) rfl) ?_); conv => whnf) | (refine L2.DL.ex_some (by assumption) ?_; conv => whnf) | (intro _; conv => whnf)))
local macro_rules | `(tactic| walk_at "lz") => `(tactic| repeat ((refine And.intro (by ((simp only [List.length_append, List.length_cons, List.length_nil]); decide)) ?_); conv => whnf))
local macro_rules | `(tactic| walk_at "aj") => `(tactic| repeat (first | ((refine Exists.intro _ (And.intro (L2.atI_nat (j := 0) rfl) ?_)); conv => whnf) | ((refine And.intro (by first | exact rfl | exact ⟨rfl, rfl⟩ | ((simp only [List.length_append, List.length_cons, List.length_nil]); decide)) ?_); conv => whnf)))
namespace Y
open PySem PySem.Spec PyProof.Rows L2 L2.DL
section
variable {P : Program} {w : World} {K : PySem.W.Frag} {mg : Str → Option Value} {base : Heap}
def HDa : List Str := ["num", "own", "need", "size", "at", "kids", "kid", "full", "with", "without", "many", "plus", "less", "times", "half", "rest", "lesser", "greater"]
def HDb : List Str := ["below", "same", "has", "not", "and", "or", "gain", "none", "call", "both", "choose", "each", "all", "if", "nones", ""]
/-- the words that may stand at a head -/
def HD : List Str := HDa ++ HDb
/-- the kind of a need -/
def kindN : List (Str × Str) → D → Str
  | [], _ => ""
  | p :: r, d => match hitN p.1 d with
    | true => p.2
    | false => kindN r d
def nD (p : Str × Str) : D := .tup [.str p.1, .str p.2]
def ndD (nd : List (Str × Str)) : D := .tup (nd.map nD)
def isW : D → Bool
  | .int _ => true
  | _ => false
def isO (m : Int) : D → Bool
  | .int i => decide (0 ≤ i) && decide (i < m)
  | _ => false
def kin (k : Str) (w : Str) : Bool := match tabGet y_KINDS k with
  | some (.tup ys) => ys.any fun y => eqF y (.str w)
  | _ => false
def leafP (nd : List (Str × Str)) (m : Int) (k : Str) (d : D) : Bool := match decide (k = "n") with
  | true => isW d
  | false => match decide (k = "o") with
    | true => isO m d
    | false => kin k (kindN nd d)
/-- a sum's form: a kind for each part -/
def formS (z : Str) : List Str := match tabGet y_FORMS z with
  | some (.str f) => f.cps.toList.map fun c => ⟨#[c]⟩
  | _ => []
mutual
/-- whether data is a sum -/
def isS (nd : List (Str × Str)) (m : Int) : D → Bool
  | .tup xs => isT nd m xs
  | _ => false
def isT (nd : List (Str × Str)) (m : Int) : List D → Bool
  | .str z :: ds => (tabGet y_FORMS z).isSome && isPs nd m ds (formS z)
  | _ => false
def isPs (nd : List (Str × Str)) (m : Int) : List D → List Str → Bool
  | d :: ds, k :: ks => (match decide (k = "s") with
    | true => isS nd m d
    | false => leafP nd m k d) && isPs nd m ds ks
  | [], [] => true
  | _, _ => false
end
def partP (nd : List (Str × Str)) (m : Int) (k : Str) (d : D) : Bool := match decide (k = "s") with
  | true => isS nd m d
  | false => leafP nd m k d
theorem isPs_cons (nd : List (Str × Str)) (m : Int) (d : D) (ds : List D) (k : Str) (ks : List Str) : isPs nd m (d :: ds) (k :: ks) = (partP nd m k d && isPs nd m ds ks) := by rw [isPs]; rfl
theorem isPs_nil (nd : List (Str × Str)) (m : Int) : isPs nd m [] [] = true := by rw [isPs]
theorem isPs_len (nd : List (Str × Str)) (m : Int) : ∀ (ds : List D) (ks : List Str), ds.length ≠ ks.length → isPs nd m ds ks = false
  | [], [], h => absurd rfl h
  | [], _ :: _, _ => by rw [isPs] <;> simp
  | _ :: _, [], _ => by rw [isPs] <;> simp
  | d :: ds, k :: ks, h => by rw [isPs_cons, isPs_len nd m ds ks (fun e => h (by rw [List.length_cons, List.length_cons, e])), Bool.and_false]
def KS : List Str := ["s", "n", "o", "x", "z", "l", "t"]
/-- what may be asked whether it is a sum: tuples with known words at their heads, to a depth -/
def Wf (L : Nat) : Nat → D → Prop
  | _, .atm _ => False
  | _, .scr _ => False
  | _, .dcn _ => False
  | _, .ins _ _ => False
  | 0, .tup _ => False
  | n + 1, .tup ds => ds.length ≤ L ∧ (∀ z r, ds = .str z :: r → HD.contains z = true) ∧ ∀ d ∈ ds, Wf L n d
  | _, _ => True
theorem Wf.na {L n : Nat} {d : D} (h : Wf L n d) : noAtm d = true := by
  cases d with
  | atm v => cases n <;> exact h.elim
  | dcn v => cases n <;> exact h.elim
  | ins n0 v => cases n <;> exact h.elim
  | _ => rfl
theorem Wf.mono {L M : Nat} (hl : L ≤ M) : ∀ {n m : Nat} {d : D}, n ≤ m → Wf L n d → Wf M m d
  | 0, m, .tup ds, _, h => h.elim
  | n + 1, 0, .tup ds, l, _ => absurd l (Nat.not_succ_le_zero n)
  | n + 1, m + 1, .tup ds, l, h => ⟨Nat.le_trans h.1 hl, h.2.1, fun d hd => Wf.mono hl (Nat.le_of_succ_le_succ l) (h.2.2 d hd)⟩
  | n, m, .atm v, _, h => by cases n <;> exact h.elim
  | n, m, .scr v, _, h => by cases n <;> exact h.elim
  | n, m, .dcn v, _, h => by cases n <;> exact h.elim
  | n, m, .ins n0 v, _, h => by cases n <;> exact h.elim
  | n, m, .non, _, _ => by cases m <;> trivial
  | n, m, .bl _, _, _ => by cases m <;> trivial
  | n, m, .int _, _, _ => by cases m <;> trivial
  | n, m, .str _, _, _ => by cases m <;> trivial
  | n, m, .lst _, _, _ => by cases m <;> trivial
  | n, m, .dct _, _, _ => by cases m <;> trivial
theorem KS_cases {k : Str} (h : k ∈ KS) : k = "s" ∨ k = "n" ∨ k = "o" ∨ k = "x" ∨ k = "z" ∨ k = "l" ∨ k = "t" := by
  simpa [KS] using h
/-- a word at a head is a sum's, with a form of known kinds, or none -/
theorem head_form {z : Str} (h : HD.contains z = true) : (∃ f : Str, tabGet y_FORMS z = some (.str f) ∧ f.length ≤ 3 ∧ (∀ c ∈ f.cps.toList, (⟨#[c]⟩ : Str) ∈ KS)) ∨ (tabGet y_FORMS z = none ∧ tabNo n_FORMS z = true) := by
  have h : z ∈ HD := by simpa using h
  have key : ∀ z ∈ HD, ((match tabGet y_FORMS z with
    | some (.str f) => decide (f.length ≤ 3) && f.cps.toList.all fun c => KS.contains ⟨#[c]⟩
    | some _ => false
    | none => tabNo n_FORMS z) = true) := by decide +kernel
  have k := key z h
  cases e : tabGet y_FORMS z with
  | none => rw [e] at k; exact .inr ⟨rfl, k⟩
  | some d =>
    rw [e] at k
    cases d with
    | str f =>
      have k : (decide (f.length ≤ 3) && f.cps.toList.all fun c => KS.contains ⟨#[c]⟩) = true := k
      rw [Bool.and_eq_true, decide_eq_true_eq, List.all_eq_true] at k
      exact .inl ⟨f, rfl, k.1, fun c hc => by simpa using k.2 c hc⟩
    | _ => cases k
theorem cut_tail {α : Type} (x : α) (xs : List α) : DL.cutD (x :: xs) (some 1) none = xs := by
  unfold DL.cutD HT.sIx
  have e1 : ¬ ((1 : Int) < 0) := by omega
  simp [e1]
def sp_is_whole : FSpec := fun cs Q => ∃ d : D, cs = [.val d] ∧ noAtm d = true ∧ ∀ b, b = isW d → Q (.bl b) [.none]
set_option maxHeartbeats 4000000 in
theorem ok_is_whole (T : Txt K w mg) : K_is_whole P w base T 1 sp_is_whole :=
  okD T.F_is_whole sc_is_whole fun cdv A outer s H E B cs Q hr hl hs => ⟨_, d_is_whole T hr, by
    obtain ⟨d, rfl, hn, hq⟩ := hs
    cases d with
    | atm v => cases hn
    | dcn v => cases hn
    | ins n0 v => cases hn
    | _ =>
      walk_at "w"
      walk_at "ei"
      exact ⟨[.none], rfl, ⟨trivial, outs_nil⟩, hq _ rfl⟩⟩
def sp_kind_of : FSpec := fun cs Q => ∃ (nd : List (Str × Str)) (d : D), cs = [.val (ndD nd), .val d] ∧ noAtm d = true ∧ ∀ z, z = kindN nd d → Q (.str z) [.none, .none]
set_option maxHeartbeats 4000000 in
theorem kind_loop (d : D) (hn : noAtm d = true) (c0 : Cell) (DD : DEnds) : ∀ (nd : List (Str × Str)) (c2 c3 : Cell),
    (∀ c2 c3, kindN nd d = "" → DD.nx [c0, .val d, c2, c3]) → (∀ env, DD.rt (.str (kindN nd d)) (c0 :: .val d :: env)) →
    forL (fun x DD env => gTupD 2 (gConsD (gN 2) (gConsD (gN 3) gNilD)) x env fun env2 => t_kind_of_1 DD env2) (nd.map nD) DD [c0, .val d, c2, c3]
  | [], c2, c3, h1, h2 => by
    walk_at "fn"
    exact h1 _ _ rfl
  | p :: r, c2, c3, h1, h2 => by
    walk_at "fc"
    walk_at "ei"
    refine eqZ_hit hn ?_
    have e : kindN (p :: r) d = (match hitN p.1 d with | true => p.2 | false => kindN r d) := rfl
    cases hh : hitN p.1 d with
    | true =>
      walk_at "w"
      have := h2 [.val (.str p.1), .val (.str p.2)]
      rw [e, hh] at this
      exact this
    | false =>
      walk_at "w"
      refine kind_loop d hn c0 DD r _ _ (fun c2 c3 q => h1 c2 c3 (by rw [e, hh]; exact q)) (fun env => ?_)
      have := h2 env
      rw [e, hh] at this
      exact this
set_option maxHeartbeats 4000000 in
theorem ok_kind_of (T : Txt K w mg) : K_kind_of P w base T 1 sp_kind_of :=
  okD T.F_kind_of sc_kind_of fun cdv A outer s H E B cs Q hr hl hs => ⟨_, d_kind_of T hr, by
    obtain ⟨nd, d, rfl, hn, hq⟩ := hs
    walk_at "w"
    refine kind_loop d hn _ _ nd _ _ (fun c2 c3 e => ?_) (fun env => ?_)
    · walk_at "w"
      exact ⟨[.none, .none], rfl, ⟨trivial, trivial, outs_nil⟩, hq _ e.symm⟩
    · exact ⟨[.none, .none], rfl, ⟨trivial, trivial, outs_nil⟩, hq _ rfl⟩⟩
def sp_is_part (L n : Nat) : FSpec := fun cs Q => ∃ (k : Str) (d : D) (nd : List (Str × Str)) (m : Int), cs = [.val (.str k), .val d, .val (ndD nd), .val (.int m)] ∧ k ∈ KS ∧ Wf L n d ∧ ∀ b, b = partP nd m k d → Q (.bl b) [.none, .none, .none, .none]
def sp_is_sum (L n : Nat) : FSpec := fun cs Q => ∃ (d : D) (nd : List (Str × Str)) (m : Int), cs = [.val d, .val (ndD nd), .val (.int m)] ∧ Wf L n d ∧ ∀ b, b = isS nd m d → Q (.bl b) [.none, .none, .none]
set_option maxHeartbeats 8000000 in
theorem ok_is_part (T : Txt K w mg) {k L n : Nat} (h1 : 1 ≤ k) (G : K_is_sum P w base T k (sp_is_sum L n)) : K_is_part P w base T (k + 1) (sp_is_part L n) :=
  okD T.F_is_part sc_is_part fun cdv A outer s H E B cs Q hr hl hs => ⟨_, d_is_part T G (Nat.le_refl _) (ok_is_whole T) h1 (ok_kind_of T) h1 hr, by
    obtain ⟨k, d, nd, m, rfl, hk, wf, hq⟩ := hs
    have fin : ∀ {b : Bool} {env : DEnv}, b = partP nd m k d → Outs env [.none, .none, .none, .none] → ∃ cs' : List Cell, cs'.length = 4 ∧ Outs env cs' ∧ Q (.bl b) cs' := fun h o => ⟨_, rfl, o, hq _ h⟩
    have na := wf.na
    rcases KS_cases hk with rfl | rfl | rfl | rfl | rfl | rfl | rfl
    · walk_at "w"
      refine ⟨d, nd, m, rfl, wf, fun b hb => ?_⟩
      walk_at "w"
      exact fin hb ⟨trivial, trivial, trivial, trivial, outs_nil⟩
    · walk_at "w"
      refine ⟨d, rfl, na, fun b hb => ?_⟩
      walk_at "w"
      exact fin hb ⟨trivial, trivial, trivial, trivial, outs_nil⟩
    · walk_at "w"
      refine ⟨d, rfl, na, fun b hb => ?_⟩
      cases d with
      | atm v => cases na
      | dcn v => cases na
      | ins n0 v => cases na
      | int i =>
        subst hb
        walk_at "w"
        cases h0 : decide (0 ≤ i) with
        | false =>
          walk_at "w"
          exact fin (show false = (decide (0 ≤ i) && decide (i < m)) by rw [h0]; rfl) ⟨trivial, trivial, trivial, trivial, outs_nil⟩
        | true =>
          walk_at "w"
          exact fin (show decide (i < m) = (decide (0 ≤ i) && decide (i < m)) by rw [h0]; rfl) ⟨trivial, trivial, trivial, trivial, outs_nil⟩
      | _ =>
        subst hb
        walk_at "w"
        exact fin rfl ⟨trivial, trivial, trivial, trivial, outs_nil⟩
    all_goals
      walk_at "w"
      refine ⟨nd, d, rfl, na, fun z hz => ?_⟩
      subst hz
      walk_at "w"
      refine ⟨rfl, rfl, ?_⟩
      walk_at "w"
      exact fin rfl ⟨trivial, trivial, trivial, trivial, outs_nil⟩⟩
theorem no_is_part (T : Txt K w mg) : K_is_part P w base T 1 (fun _ _ => False) := okD T.F_is_part sc_is_part fun _ _ _ _ _ _ _ _ _ _ _ hs => hs.elim
def sp_ip (L : Nat) : Nat → FSpec
  | 0 => fun _ _ => False
  | n + 1 => sp_is_part L n
section
variable (L n : Nat) (nd : List (Str × Str)) (m : Int) (c0 c3 : Cell)
set_option maxHeartbeats 4000000 in
theorem sum_parts : ∀ (ks : List Str) (ds : List D) (Q : List D → DEnv → Prop), (∀ k ∈ ks, k ∈ KS) → (∀ d ∈ ds, Wf L n d) → ks.length = ds.length →
    (∀ bs : List Bool, bs.all id = isPs nd m ds ks → Q (bs.map D.bl) [c0, .val (ndD nd), .val (.int m), c3, .none, .none]) →
    mapL [4, 5] (gTupD 2 (gConsD (gN 4) (gConsD (gN 5) gNilD))) qYes (t_is_sum_1 (sp_is_part L n)) (zipD (ks.map D.str) ds) [c0, .val (ndD nd), .val (.int m), c3, .none, .none] Q
  | [], [], Q, _, _, _, h => by
    walk_at "mn"
    exact h [] (by rw [isPs_nil]; rfl)
  | [], _ :: _, _, _, _, l, _ => by cases l
  | _ :: _, [], _, _, _, l, _ => by cases l
  | k :: ks, d :: ds, Q, hk, hd, l, h => by
    walk_at "mc"
    walk_at "ei"
    refine ⟨hk k List.mem_cons_self, hd d List.mem_cons_self, fun b hb => ?_⟩
    walk_at "w"
    refine sum_parts ks ds _ (fun k m => hk k (List.mem_cons_of_mem _ m)) (fun d m => hd d (List.mem_cons_of_mem _ m)) (by simpa using l) fun bs hbs => ?_
    exact h (b :: bs) (by rw [isPs_cons, List.all_cons, hbs, hb]; rfl)
end
theorem eq0_len {α : Type} (xs : List α) : decide ((((xs.length + 1 : Nat) : Int)) = 0) = false := decide_eq_false (by omega)
set_option maxHeartbeats 8000000 in
theorem sum_step (T : Txt K w mg) {k L n : Nat} (G : K_is_part P w base T k (sp_ip L n)) : K_is_sum P w base T (k + 1) (sp_is_sum L n) :=
  okD T.F_is_sum sc_is_sum fun cdv A outer s H E B cs Q hr hl hs => ⟨_, d_is_sum T G (Nat.le_refl _) hr, by
    obtain ⟨d, nd, m, rfl, wf, hq⟩ := hs
    have fin : ∀ {b : Bool} {env : DEnv}, b = isS nd m d → Outs env [.none, .none, .none] → ∃ cs' : List Cell, cs'.length = 3 ∧ Outs env cs' ∧ Q (.bl b) cs' := fun h o => ⟨_, rfl, o, hq _ h⟩
    cases d with
    | atm v => exact absurd wf.na (by intro h; cases h)
    | dcn v => exact absurd wf.na (by intro h; cases h)
    | ins n0 v => exact absurd wf.na (by intro h; cases h)
    | tup xs =>
      cases n with
      | zero => exact wf.elim
      | succ n =>
        obtain ⟨_, hh, hp⟩ := wf
        cases xs with
        | nil =>
          walk_at "w"
          walk_at "ei"
          exact fin rfl ⟨trivial, trivial, trivial, outs_nil⟩
        | cons x ds =>
          walk_at "w"
          walk_at "ei"
          refine ⟨x, atI_nat (j := 0) rfl, ?_⟩
          cases x with
          | atm v => exact absurd (hp (.atm v) List.mem_cons_self).na (by intro h; cases h)
          | dcn v => exact absurd (hp (.dcn v) List.mem_cons_self).na (by intro h; cases h)
          | ins n0 v => exact absurd (hp (.ins n0 v) List.mem_cons_self).na (by intro h; cases h)
          | str z =>
            walk_at "w"
            walk_at "ei"
            refine ⟨.str z, atI_nat (j := 0) rfl, ?_⟩
            walk_at "w"
            rcases head_form (hh z ds rfl) with ⟨f, hf, hl3, hk⟩ | ⟨hf, hno⟩
            · rw [hf]
              walk_at "w"
              refine ⟨.str z, atI_nat (j := 0) rfl, ?_⟩
              walk_at "w"
              rw [hf]
              walk_at "w"
              have sz : f.length ≤ sizeLine := Nat.le_trans hl3 (by decide)
              have isv : isS nd m (.tup (.str z :: ds)) = isPs nd m ds (f.cps.toList.map fun c => ⟨#[c]⟩) := by
                show isT nd m (.str z :: ds) = _
                rw [isT, formS, hf]; rfl
              have fl : f.cps.toList.length = f.length := Array.length_toList
              refine ⟨sz, ?_⟩
              walk_at "w"
              walk_at "sp"
              · rename_i hsp
                refine fin ?_ ⟨trivial, trivial, trivial, outs_nil⟩
                rw [isv, isPs_len]
                rw [List.length_map, fl]
                intro e
                apply hsp
                show (((ds.length + 1 : Nat) : Int)) = 1 + ((f.length : Nat) : Int)
                omega
              · rename_i hsp
                have hds : ds.length = f.length := by
                  have e : (((ds.length + 1 : Nat) : Int)) = 1 + ((f.length : Nat) : Int) := by simpa using hsp
                  omega
                walk_at "w"
                rw [cut_tail]
                have zz : List.map (fun c => D.str ⟨#[c]⟩) f.cps.toList = (f.cps.toList.map fun c => (⟨#[c]⟩ : Str)).map D.str := by rw [List.map_map]; rfl
                rw [zz]
                refine ⟨by
                  show (List.zipWith (fun x y => D.tup [x, y]) _ ds).length ≤ sizeLine
                  rw [List.length_zipWith]; omega, ?_⟩
                walk_at "w"
                refine sum_parts L n nd m _ _ _ ds _ (fun k hkm => ?_) (fun d m => hp d (List.mem_cons_of_mem _ m)) (by rw [List.length_map, fl, hds]) fun bs hbs => ?_
                · obtain ⟨c, hc, rfl⟩ := List.mem_map.mp hkm
                  exact hk c hc
                · walk_at "w"
                  refine ⟨bs, rfl, ?_⟩
                  walk_at "w"
                  exact fin (by rw [isv, hbs]) ⟨trivial, trivial, trivial, outs_nil⟩
            · rw [hf]
              walk_at "w"
              rw [hno]
              walk_at "w"
              exact fin (show false = isT nd m (.str z :: ds) by rw [isT, hf]; rfl) ⟨trivial, trivial, trivial, outs_nil⟩
          | _ =>
            walk_at "w"
            walk_at "ei"
            exact fin (show false = isT nd m _ by rw [isT] <;> (intro z r e; cases e)) ⟨trivial, trivial, trivial, outs_nil⟩
    | _ =>
      walk_at "w"
      walk_at "ei"
      exact fin rfl ⟨trivial, trivial, trivial, outs_nil⟩⟩
theorem ok_is_sum (T : Txt K w mg) (L : Nat) : ∀ n : Nat, K_is_sum P w base T (2 * n + 2) (sp_is_sum L n)
  | 0 => sum_step T (no_is_part T)
  | n + 1 => sum_step T (ok_is_part T (by omega) (ok_is_sum T L n))
/-- the words of conditions of conditions, with how many parts -/
def condC (z : Str) : Option Int := match tabGet y_OF_CONDS z with
  | some (.int i) => some i
  | _ => none
def ofS (z : Str) : Bool := decide (z = "below") || decide (z = "same") || decide (z = "has")
mutual
/-- whether data is a condition -/
def isC (nd : List (Str × Str)) (m : Int) : D → Bool
  | .tup xs => isCT nd m xs
  | _ => false
def isCT (nd : List (Str × Str)) (m : Int) : List D → Bool
  | .str z :: ds => (match condC z with
    | some i => decide ((ds.length : Int) = i) && isCs nd m ds
    | none => ofS z && (decide (ds.length = 2) && ds.all (isS nd m)))
  | _ => false
def isCs (nd : List (Str × Str)) (m : Int) : List D → Bool
  | d :: ds => isC nd m d && isCs nd m ds
  | [] => true
end
theorem isCs_nil (nd : List (Str × Str)) (m : Int) : isCs nd m [] = true := by rw [isCs]
theorem isCs_cons (nd : List (Str × Str)) (m : Int) (d : D) (ds : List D) : isCs nd m (d :: ds) = (isC nd m d && isCs nd m ds) := by rw [isCs]
theorem isC_some {nd : List (Str × Str)} {m i : Int} {z : Str} {ds : List D} (h : condC z = some i) : isC nd m (.tup (.str z :: ds)) = (decide ((ds.length : Int) = i) && isCs nd m ds) := by
  show isCT nd m _ = _
  rw [isCT, h]
theorem isC_none {nd : List (Str × Str)} {m : Int} {z : Str} {ds : List D} (h : condC z = none) : isC nd m (.tup (.str z :: ds)) = (ofS z && (decide (ds.length = 2) && ds.all (isS nd m))) := by
  show isCT nd m _ = _
  rw [isCT, h]
theorem HD_cases {z : Str} (h : HD.contains z = true) : (z = "not" ∨ z = "and" ∨ z = "or") ∨ (z = "below" ∨ z = "same" ∨ z = "has") ∨
    (z = "num" ∨ z = "own" ∨ z = "need" ∨ z = "size" ∨ z = "at" ∨ z = "kids" ∨ z = "kid" ∨ z = "full" ∨ z = "with" ∨ z = "without" ∨ z = "many" ∨ z = "plus" ∨ z = "less" ∨ z = "times" ∨ z = "half" ∨ z = "rest" ∨ z = "lesser" ∨ z = "greater" ∨ z = "gain" ∨ z = "none" ∨ z = "call" ∨ z = "both" ∨ z = "choose" ∨ z = "each" ∨ z = "all" ∨ z = "if" ∨ z = "nones" ∨ z = "") := by
  have h : z ∈ HD := by simpa using h
  simp only [HD, HDa, HDb, List.cons_append, List.nil_append, List.mem_cons, List.not_mem_nil, or_false] at h
  rcases h with h | h | h | h | h | h | h | h | h | h | h | h | h | h | h | h | h | h | h | h | h | h | h | h | h | h | h | h | h | h | h | h | h | h <;> simp [h]
def sp_is_cond (L n : Nat) : FSpec := fun cs Q => ∃ (d : D) (nd : List (Str × Str)) (m : Int), cs = [.val d, .val (ndD nd), .val (.int m)] ∧ Wf L n d ∧ ∀ b, b = isC nd m d → Q (.bl b) [.none, .none, .none]
def sp_ic (L : Nat) : Nat → FSpec
  | 0 => fun _ _ => False
  | n + 1 => sp_is_cond L n
section
variable (L n N : Nat) (nd : List (Str × Str)) (m : Int) (c0 : Cell)
set_option maxHeartbeats 4000000 in
theorem cond_parts (sp : FSpec) : ∀ (ds : List D) (Q : List D → DEnv → Prop), (∀ d ∈ ds, Wf L n d) →
    (∀ bs : List Bool, bs.all id = isCs nd m ds → Q (bs.map D.bl) [c0, .val (ndD nd), .val (.int m), .none]) →
    mapL [3] (gN 3) qYes (t_is_cond_1 (sp_is_cond L n) sp) ds [c0, .val (ndD nd), .val (.int m), .none] Q
  | [], Q, _, h => by
    walk_at "mn"
    exact h [] (by rw [isCs_nil]; rfl)
  | d :: ds, Q, hd, h => by
    walk_at "mc"
    refine ⟨d, nd, m, rfl, hd d List.mem_cons_self, fun b hb => ?_⟩
    walk_at "w"
    refine cond_parts sp ds _ (fun d m => hd d (List.mem_cons_of_mem _ m)) fun bs hbs => ?_
    exact h (b :: bs) (by rw [isCs_cons, List.all_cons, hbs, hb]; rfl)
set_option maxHeartbeats 4000000 in
theorem cond_sums (sp : FSpec) : ∀ (ds : List D) (Q : List D → DEnv → Prop), (∀ d ∈ ds, Wf L n d) →
    (∀ bs : List Bool, bs.all id = ds.all (isS nd m) → Q (bs.map D.bl) [c0, .val (ndD nd), .val (.int m), .none]) →
    mapL [3] (gN 3) qYes (t_is_cond_2 sp (sp_is_sum L n)) ds [c0, .val (ndD nd), .val (.int m), .none] Q
  | [], Q, _, h => by
    walk_at "mn"
    exact h [] rfl
  | d :: ds, Q, hd, h => by
    walk_at "mc"
    refine ⟨d, nd, m, rfl, hd d List.mem_cons_self, fun b hb => ?_⟩
    walk_at "w"
    refine cond_sums sp ds _ (fun d m => hd d (List.mem_cons_of_mem _ m)) fun bs hbs => ?_
    exact h (b :: bs) (by rw [List.all_cons, List.all_cons, hbs, hb]; rfl)
end
theorem no_is_cond (T : Txt K w mg) : K_is_cond P w base T 1 (fun _ _ => False) := okD T.F_is_cond sc_is_cond fun _ _ _ _ _ _ _ _ _ _ _ hs => hs.elim
set_option maxHeartbeats 16000000 in
theorem cond_step (T : Txt K w mg) {k L n N : Nat} (hN : n ≤ N) (h2 : 2 * N + 2 ≤ k) (G : K_is_cond P w base T k (sp_ic L n)) : K_is_cond P w base T (k + 1) (sp_is_cond L n) :=
  okD T.F_is_cond sc_is_cond fun cdv A outer s H E B cs Q hr hl hs => ⟨_, d_is_cond T G (Nat.le_refl _) (ok_is_sum T L N) h2 hr, by
    obtain ⟨d, nd, m, rfl, wf, hq⟩ := hs
    have fin : ∀ {b : Bool} {env : DEnv}, b = isC nd m d → Outs env [.none, .none, .none] → ∃ cs' : List Cell, cs'.length = 3 ∧ Outs env cs' ∧ Q (.bl b) cs' := fun h o => ⟨_, rfl, o, hq _ h⟩
    cases d with
    | atm v => exact absurd wf.na (by intro h; cases h)
    | dcn v => exact absurd wf.na (by intro h; cases h)
    | ins n0 v => exact absurd wf.na (by intro h; cases h)
    | tup xs =>
      cases n with
      | zero => exact wf.elim
      | succ n =>
        obtain ⟨lL, hh, hp⟩ := wf
        cases xs with
        | nil =>
          walk_at "w"
          walk_at "ei"
          exact fin rfl ⟨trivial, trivial, trivial, outs_nil⟩
        | cons x ds =>
          have sz : ∀ k : Nat, ((ds.length + 1 : Nat) : Int) = 1 + (k : Int) → ds.length = k := fun k e => by omega
          have hp' : ∀ d ∈ ds, Wf L n d := fun d m => hp d (List.mem_cons_of_mem _ m)
          walk_at "w"
          walk_at "ei"
          refine ⟨x, atI_nat (j := 0) rfl, ?_⟩
          cases x with
          | atm v => exact absurd (hp (.atm v) List.mem_cons_self).na (by intro h; cases h)
          | dcn v => exact absurd (hp (.dcn v) List.mem_cons_self).na (by intro h; cases h)
          | ins n0 v => exact absurd (hp (.ins n0 v) List.mem_cons_self).na (by intro h; cases h)
          | str z =>
            walk_at "w"
            walk_at "ei"
            refine ⟨.str z, atI_nat (j := 0) rfl, ?_⟩
            rcases HD_cases (hh z ds rfl) with h | h | h
            · rcases h with rfl | rfl | rfl
              all_goals
                walk_at "w"
                refine ⟨_, atI_nat (j := 0) rfl, ?_⟩
                walk_at "w"
                generalize hd : decide (((_ : List D).length : Int) = _) = bb
                have hd : decide (((ds.length + 1 : Nat) : Int) = 1 + _) = bb := hd
                cases bb with
                | false =>
                  walk_at "w"
                  refine fin ?_ ⟨trivial, trivial, trivial, outs_nil⟩
                  rw [isC_some rfl, decide_eq_false (fun e => of_decide_eq_false hd (by omega))]; rfl
                | true =>
                  have hd := of_decide_eq_true hd
                  walk_at "w"
                  rw [cut_tail]
                  refine ⟨Nat.le_trans (show ds.length ≤ 2 by omega) (by decide), ?_⟩
                  walk_at "w"
                  refine cond_parts L n nd m _ _ ds _ hp' fun bs hbs => ?_
                  walk_at "w"
                  refine ⟨bs, rfl, ?_⟩
                  refine fin ?_ ⟨trivial, trivial, trivial, outs_nil⟩
                  rw [isC_some rfl, hbs, decide_eq_true (show (ds.length : Int) = _ by omega)]; rfl
            · rcases h with rfl | rfl | rfl
              all_goals
                walk_at "w"
                refine ⟨_, atI_nat (j := 0) rfl, ?_⟩
                walk_at "w"
                refine ⟨rfl, rfl, ?_⟩
                walk_at "w"
                generalize hd : decide (((_ : List D).length : Int) = _) = bb
                have hd : decide (((ds.length + 1 : Nat) : Int) = 3) = bb := hd
                cases bb with
                | false =>
                  walk_at "w"
                  refine fin ?_ ⟨trivial, trivial, trivial, outs_nil⟩
                  rw [isC_none rfl, decide_eq_false (fun e : ds.length = 2 => of_decide_eq_false hd (by omega))]; rfl
                | true =>
                  have hd := of_decide_eq_true hd
                  walk_at "w"
                  rw [cut_tail]
                  refine ⟨Nat.le_trans (show ds.length ≤ 2 by omega) (by decide), ?_⟩
                  walk_at "w"
                  refine cond_sums L N nd m _ _ ds _ (fun d m => (hp' d m).mono (Nat.le_refl _) (by omega)) fun bs hbs => ?_
                  walk_at "w"
                  refine ⟨bs, rfl, ?_⟩
                  refine fin ?_ ⟨trivial, trivial, trivial, outs_nil⟩
                  rw [isC_none rfl, hbs, decide_eq_true (show ds.length = 2 by omega)]; rfl
            · rcases h with rfl | rfl | rfl | rfl | rfl | rfl | rfl | rfl | rfl | rfl | rfl | rfl | rfl | rfl | rfl | rfl | rfl | rfl | rfl | rfl | rfl | rfl | rfl | rfl | rfl | rfl | rfl | rfl
              all_goals
                walk_at "w"
                refine ⟨_, atI_nat (j := 0) rfl, ?_⟩
                walk_at "w"
                refine ⟨rfl, rfl, ?_⟩
                walk_at "w"
                refine fin ?_ ⟨trivial, trivial, trivial, outs_nil⟩
                rw [isC_none rfl]; rfl
          | _ =>
            walk_at "w"
            walk_at "ei"
            exact fin (show false = isCT nd m _ by rw [isCT] <;> (intro z r e; cases e)) ⟨trivial, trivial, trivial, outs_nil⟩
    | _ =>
      walk_at "w"
      walk_at "ei"
      exact fin rfl ⟨trivial, trivial, trivial, outs_nil⟩⟩
theorem ok_is_cond (T : Txt K w mg) (L N : Nat) : ∀ n : Nat, n ≤ N → K_is_cond P w base T (2 * N + 3 + n) (sp_is_cond L n)
  | 0, h => (cond_step (N := N) T h (Nat.le_refl _) ((no_is_cond T).up (show 1 ≤ 2 * N + 2 by omega)))
  | n + 1, h => (cond_step (N := N) T h (show 2 * N + 2 ≤ 2 * N + 3 + n by omega) (ok_is_cond T L N n (by omega)))
def letsL : List Nat := (match c_LETTERS with | .str l => l.cps.toList | _ => [])
def worL : List D := (match c_WORDS with | .tup ys => ys | _ => [])
/-- a right name -/
def nokB (s : Str) : Bool := (decide (2 ≤ s.length) && decide (s.length ≤ 8)) && (!(worL.any fun y => eqF y (.str s)) && s.cps.toList.all fun c => letsL.contains c)
def nameB : D → Bool
  | .str s => nokB s
  | _ => false
/-- texts are short -/
def shB : D → Bool
  | .str z => decide (z.length ≤ 1000)
  | _ => true
def sp_is_name : FSpec := fun cs Q => ∃ d : D, cs = [.val d] ∧ noAtm d = true ∧ shB d = true ∧ ∀ b, b = nameB d → Q (.bl b) [.none]
set_option maxHeartbeats 4000000 in
theorem name_comp (c0 : Cell) : ∀ (cs : List Nat) (Q : List D → DEnv → Prop), (∀ bs : List Bool, bs.all id = (cs.all fun c => letsL.contains c) → Q (bs.map D.bl) [c0, .none]) →
    mapL [1] (gN 1) qYes t_is_name_1 (cs.map fun c => D.str ⟨#[c]⟩) [c0, .none] Q
  | [], Q, h => by
    walk_at "mn"
    exact h [] rfl
  | d :: r, Q, h => by
    walk_at "mc"
    refine ⟨d, rfl, ?_⟩
    show mapL [1] (gN 1) qYes t_is_name_1 (r.map fun c => D.str ⟨#[c]⟩) [c0, .none] fun xs env => Q (D.bl (decide (d ∈ letsL)) :: xs) env
    refine name_comp c0 r _ fun bs hb => h (decide (d ∈ letsL) :: bs) ?_
    rw [List.all_cons, List.all_cons, hb]
    show (decide (d ∈ letsL) && _) = _
    rw [List.contains_eq_mem]
set_option maxHeartbeats 4000000 in
theorem ok_is_name (T : Txt K w mg) : K_is_name P w base T 1 sp_is_name :=
  okD T.F_is_name sc_is_name fun cdv A outer s H E B cs Q hr hl hs => ⟨_, d_is_name T hr, by
    obtain ⟨d, rfl, hn, hsh, hq⟩ := hs
    have fin : ∀ {b : Bool} {env : DEnv}, b = nameB d → Outs env [.none] → ∃ cs' : List Cell, cs'.length = 1 ∧ Outs env cs' ∧ Q (.bl b) cs' := fun h o => ⟨_, rfl, o, hq _ h⟩
    cases d with
    | atm v => cases hn
    | dcn v => cases hn
    | ins n0 v => cases hn
    | str z =>
      have sz : z.length ≤ sizeLine := Nat.le_trans (of_decide_eq_true hsh) (by decide)
      walk_at "w"
      walk_at "ei"
      cases e1 : decide ((2 : Int) ≤ (z.length : Nat)) with
      | false =>
        walk_at "w"
        exact fin (show false = nokB z by rw [nokB, decide_eq_false (fun h => of_decide_eq_false e1 (by omega))]; rfl) ⟨trivial, outs_nil⟩
      | true =>
        walk_at "w"
        walk_at "ei"
        cases e2 : decide (((z.length : Nat) : Int) ≤ 8) with
        | false =>
          walk_at "w"
          refine fin (show false = nokB z by
            have : decide (z.length ≤ 8) = false := decide_eq_false (fun h => of_decide_eq_false e2 (by omega))
            rw [nokB, this, Bool.and_false]; rfl) ⟨trivial, outs_nil⟩
        | true =>
          have h8 : z.length ≤ 8 := by have := of_decide_eq_true e2; omega
          have h2 : 2 ≤ z.length := by have := of_decide_eq_true e1; omega
          have en : nokB z = (!(worL.any fun y => eqF y (.str z)) && z.cps.toList.all fun c => letsL.contains c) := by rw [nokB, decide_eq_true h2, decide_eq_true h8]; rfl
          walk_at "w"
          refine ⟨rfl, by decide +kernel, ?_⟩
          walk_at "w"
          generalize hw : List.any _ _ = bb
          have hw : (worL.any fun y => eqF y (.str z)) = bb := hw
          cases bb with
          | true =>
            walk_at "w"
            exact fin (show false = nokB z by rw [en, hw]; rfl) ⟨trivial, outs_nil⟩
          | false =>
            walk_at "w"
            refine ⟨by rw [List.length_map, Array.length_toList]; exact sz, ?_⟩
            walk_at "w"
            refine name_comp _ z.cps.toList _ fun bs hb => ?_
            walk_at "w"
            refine ⟨bs, rfl, ?_⟩
            exact fin (show _ = nokB z by rw [en, hw, hb]; rfl) ⟨trivial, outs_nil⟩
    | _ =>
      walk_at "w"
      walk_at "ei"
      exact fin rfl ⟨trivial, outs_nil⟩⟩
/-- no atom, and short if a text -/
def lfB (d : D) : Bool := noAtm d && shB d
/-- data without atoms to a depth -/
def naB : Nat → D → Bool
  | 0, d => lfB d
  | n + 1, .tup xs => xs.all (naB n)
  | _ + 1, d => lfB d
theorem lfB_na {d : D} (h : lfB d = true) : noAtm d = true := by
  rw [lfB, Bool.and_eq_true] at h
  exact h.1
def kndL : List D := (match c_NEED_KINDS with | .tup ys => ys | _ => [])
def kndB : D → Bool
  | .str k => kndL.any fun y => eqF y (.str k)
  | _ => false
/-- a right need -/
def needB : D → Bool
  | .tup [a, b] => nameB a && kndB b
  | _ => false
def name1 : D → Str
  | .tup (.str z :: _) => z
  | _ => ""
def needsB : D → Bool
  | .tup xs => decide (xs.length ≤ 6) && (xs.all needB && decide (uq (xs.map name1) = xs.length))
  | _ => false
def sp_are_needs : FSpec := fun cs Q => ∃ d : D, cs = [.val d] ∧ naB 2 d = true ∧ ∀ b, b = needsB d → Q (.bl b) [.none]
theorem nameB_str {d : D} (h : nameB d = true) : ∃ z, d = .str z := by
  cases d with
  | str z => exact ⟨z, rfl⟩
  | _ => cases h
theorem kndB_str {d : D} (h : kndB d = true) : ∃ z, d = .str z := by
  cases d with
  | str z => exact ⟨z, rfl⟩
  | _ => cases h
theorem needB_of {x : D} (h : needB x = true) : ∃ z k, x = .tup [.str z, .str k] := by
  cases x with
  | tup xs =>
    match xs with
    | [] => cases h
    | [_] => cases h
    | [a, b] =>
      have h : (nameB a && kndB b) = true := h
      rw [Bool.and_eq_true] at h
      obtain ⟨z, rfl⟩ := nameB_str h.1
      obtain ⟨k, rfl⟩ := kndB_str h.2
      exact ⟨z, k, rfl⟩
    | _ :: _ :: _ :: _ => cases h
  | _ => cases h
theorem nall_cons (x : D) (r : List D) (f : D → Bool) : (x :: r).all f = (f x && r.all f) := rfl
set_option maxHeartbeats 8000000 in
theorem needs_loop (c0 : Cell) (DD : DEnds) : ∀ (xs : List D) (c1 : Cell), (∀ x ∈ xs, naB 1 x = true) → (∀ c1, xs.all needB = true → DD.nx [c0, c1]) → (∀ c1, xs.all needB = false → DD.rt (.bl false) [c0, c1]) →
    forL (fun x DD env => gN 1 x env fun env2 => t_are_needs_1 sp_is_name DD env2) xs DD [c0, c1]
  | [], c1, _, h1, h2 => by
    walk_at "fn"
    exact h1 _ rfl
  | x :: r, c1, hx, h1, h2 => by
    have ih := fun c1 => needs_loop c0 DD r c1 (fun q m => hx q (List.mem_cons_of_mem _ m))
    have nx := hx x List.mem_cons_self
    have bad : needB x = false → (x :: r).all needB = false := fun e => by rw [nall_cons, e]; rfl
    have good : needB x = true → (x :: r).all needB = r.all needB := fun e => by rw [nall_cons, e]; rfl
    cases x with
    | atm v => cases nx
    | dcn v => cases nx
    | ins n0 v => cases nx
    | tup ys =>
      have ny : ∀ y ∈ ys, lfB y = true := by
        have nx : ys.all (naB 0) = true := nx
        rw [List.all_eq_true] at nx
        exact nx
      match ys, ny with
      | [], _ =>
        walk_at "fc"
        walk_at "ei"
        exact h2 _ (bad rfl)
      | [a], _ =>
        walk_at "fc"
        walk_at "ei"
        exact h2 _ (bad rfl)
      | [a, b], ny =>
        have na := ny a List.mem_cons_self
        have nb := lfB_na (ny b (List.mem_cons_of_mem _ List.mem_cons_self))
        rw [lfB, Bool.and_eq_true] at na
        obtain ⟨na1, na2⟩ := na
        have nv : needB (.tup [a, b]) = (nameB a && kndB b) := rfl
        walk_at "fc"
        walk_at "ei"
        rename_i v hv
        cases ha : nameB a with
        | false =>
          rw [ha] at hv
          subst hv
          walk_at "w"
          exact h2 _ (bad (by rw [nv, ha]; rfl))
        | true =>
          rw [ha] at hv
          subst hv
          walk_at "w"
          refine ⟨b, atI_nat (j := 1) rfl, ?_⟩
          cases b with
          | atm v => cases nb
          | dcn v => cases nb
          | ins n0 v => cases nb
          | str k =>
            walk_at "w"
            walk_at "ei"
            generalize hk : List.any _ _ = bb
            have hk : (kndL.any fun y => eqF y (.str k)) = bb := hk
            cases bb with
            | true =>
              walk_at "w"
              have g := good (by rw [nv, ha]; exact hk)
              exact ih _ (fun c1 e => h1 c1 (by rw [g]; exact e)) (fun c1 e => h2 c1 (by rw [g]; exact e))
            | false =>
              walk_at "w"
              exact h2 _ (bad (by rw [nv, ha]; exact hk))
          | _ =>
            walk_at "w"
            walk_at "ei"
            exact h2 _ (bad (by rw [nv, ha]; rfl))
      | a :: b :: c :: ys, _ =>
        walk_at "fc"
        walk_at "ei"
        generalize hd : decide (((ys.length + 1 + 1 + 1 : Nat) : Int) = 2) = bb
        have hd : decide (((ys.length + 1 + 1 + 1 : Nat) : Int) = 2) = bb := hd
        rw [decide_eq_false (by omega)] at hd
        subst hd
        walk_at "w"
        exact h2 _ (bad rfl)
    | _ =>
      walk_at "fc"
      walk_at "ei"
      exact h2 _ (bad rfl)
set_option maxHeartbeats 4000000 in
theorem needs_comp (c0 : Cell) : ∀ (xs : List D) (Q : List D → DEnv → Prop), xs.all needB = true → Q ((xs.map name1).map D.str) [c0, .none] →
    mapL [1] (gN 1) qYes (t_are_needs_2 sp_is_name) xs [c0, .none] Q
  | [], Q, _, h => by
    walk_at "mn"
    exact h
  | d :: r, Q, hx, h => by
    rw [nall_cons, Bool.and_eq_true] at hx
    obtain ⟨z, k, rfl⟩ := needB_of hx.1
    walk_at "mc"
    refine ⟨_, atI_nat (j := 0) rfl, ?_⟩
    walk_at "w"
    exact needs_comp c0 r _ hx.2 h
set_option maxHeartbeats 4000000 in
theorem ok_are_needs (T : Txt K w mg) : K_are_needs P w base T 2 sp_are_needs :=
  okD T.F_are_needs sc_are_needs fun cdv A outer s H E B cs Q hr hl hs => ⟨_, d_are_needs T (ok_is_name T) (by decide) hr, by
    obtain ⟨d, rfl, hn, hq⟩ := hs
    have fin : ∀ {b : Bool} {env : DEnv}, b = needsB d → Outs env [.none] → ∃ cs' : List Cell, cs'.length = 1 ∧ Outs env cs' ∧ Q (.bl b) cs' := fun h o => ⟨_, rfl, o, hq _ h⟩
    cases d with
    | atm v => cases hn
    | dcn v => cases hn
    | ins n0 v => cases hn
    | tup xs =>
      have hx : ∀ x ∈ xs, naB 1 x = true := by
        have hn : xs.all (naB 1) = true := hn
        rwa [List.all_eq_true] at hn
      have nv : needsB (.tup xs) = (decide (xs.length ≤ 6) && (xs.all needB && decide (uq (xs.map name1) = xs.length))) := rfl
      walk_at "w"
      walk_at "ei"
      cases e1 : decide ((6 : Int) < (xs.length : Nat)) with
      | true =>
        walk_at "w"
        exact fin (by rw [nv, decide_eq_false (show ¬ xs.length ≤ 6 by have := of_decide_eq_true e1; omega)]; rfl) ⟨trivial, outs_nil⟩
      | false =>
        have h6 : xs.length ≤ 6 := by have := of_decide_eq_false e1; omega
        have sz : xs.length ≤ sizeLine := Nat.le_trans h6 (by decide)
        walk_at "w"
        walk_at "ei"
        refine needs_loop _ _ xs _ hx (fun c1 e => ?_) (fun c1 e => ?_)
        · walk_at "w"
          walk_at "ei"
          refine needs_comp _ xs _ e ?_
          walk_at "w"
          refine ⟨xs.map name1, rfl, by rw [List.length_map]; omega, ?_⟩
          walk_at "w"
          refine fin ?_ ⟨trivial, outs_nil⟩
          rw [nv, decide_eq_true h6, e]
          show decide (((uq (xs.map name1) : Nat) : Int) = ((xs.length : Nat) : Int)) = decide (uq (xs.map name1) = xs.length)
          by_cases q : uq (xs.map name1) = xs.length
          · rw [decide_eq_true q, decide_eq_true (by omega)]
          · rw [decide_eq_false q, decide_eq_false (by omega)]
        · exact fin (by rw [nv, e, Bool.false_and, Bool.and_false]) ⟨trivial, outs_nil⟩
    | _ =>
      walk_at "w"
      walk_at "ei"
      exact fin rfl ⟨trivial, outs_nil⟩⟩
def kstr : D → Str × Str
  | .tup [.str z, .str k] => (z, k)
  | _ => ("", "")
/-- the needs that data tells -/
def ndOf : D → List (Str × Str)
  | .tup xs => xs.map kstr
  | _ => []
theorem needs_nd {d : D} (h : needsB d = true) : d = ndD (ndOf d) := by
  cases d with
  | tup xs =>
    have h : (decide (xs.length ≤ 6) && (xs.all needB && decide (uq (xs.map name1) = xs.length))) = true := h
    rw [Bool.and_eq_true, Bool.and_eq_true, List.all_eq_true] at h
    show D.tup xs = D.tup ((xs.map kstr).map nD)
    rw [List.map_map]
    congr 1
    refine Eq.symm ((List.map_congr_left fun x m => ?_).trans (List.map_id xs))
    obtain ⟨z, k, rfl⟩ := needB_of (h.2.1 x m)
    rfl
  | _ => cases h
/-! ### mosts, of any data -/
def mostR (f : D → Bool) : D → Bool
  | .tup [.str z, a] => (match decide (z = "num") with
      | true => (match a with | .int i => decide (0 ≤ i) | _ => false)
      | false => match decide (z = "full") with
        | true => (match a with | .tup (.str y :: _) => decide (y = "size") | _ => false)
        | false => decide (z = "need") || decide (z = "size"))
  | .tup [.str z, a, b] => (decide (z = "plus") || decide (z = "less")) && (f a && f b)
  | _ => false
def mostB (nd : List (Str × Str)) : Nat → D → Bool
  | 0, _ => false
  | n + 1, d => isS nd 0 d && mostR (mostB nd n) d
theorem mostB_s (nd : List (Str × Str)) (n : Nat) (d : D) : mostB nd (n + 1) d = (isS nd 0 d && mostR (mostB nd n) d) := rfl
def W1 : List Str := ["num", "own", "need", "size", "full", "many", "half"]
def W2 : List Str := ["at", "kids", "with", "without", "plus", "less", "times", "rest", "lesser", "greater"]
theorem isPs_len' {nd : List (Str × Str)} {m : Int} {ds : List D} {ks : List Str} (h : isPs nd m ds ks = true) : ds.length = ks.length := by
  by_cases e : ds.length = ks.length
  · exact e
  · rw [isPs_len nd m ds ks e] at h; cases h
theorem len1 {α : Type} {ds : List α} (h : ds.length = 1) : ∃ a, ds = [a] := by
  match ds, h with
  | [a], _ => exact ⟨a, rfl⟩
theorem len2 {α : Type} {ds : List α} (h : ds.length = 2) : ∃ a b, ds = [a, b] := by
  match ds, h with
  | [a, b], _ => exact ⟨a, b, rfl⟩
theorem len3 {α : Type} {ds : List α} (h : ds.length = 3) : ∃ a b c, ds = [a, b, c] := by
  match ds, h with
  | [a, b, c], _ => exact ⟨a, b, c, rfl⟩
theorem form_cases {z : Str} (h : HD.contains z = true) (hs : (tabGet y_FORMS z).isSome = true) : (z ∈ W1 ∧ (formS z).length = 1) ∨ (z ∈ W2 ∧ (formS z).length = 2) ∨ (z = "kid" ∧ (formS z).length = 3) := by
  have h : z ∈ HD := by simpa using h
  have key : ∀ z ∈ HD, (tabGet y_FORMS z).isSome = true → (z ∈ W1 ∧ (formS z).length = 1) ∨ (z ∈ W2 ∧ (formS z).length = 2) ∨ (z = "kid" ∧ (formS z).length = 3) := by decide +kernel
  exact key z h hs
/-- the shape of a right sum -/
theorem sum_shape {nd : List (Str × Str)} {m : Int} {L n : Nat} {d : D} (wf : Wf L (n + 1) d) (h : isS nd m d = true) : ∃ z : Str, (z ∈ W1 ∧ ∃ a, d = .tup [.str z, a] ∧ isPs nd m [a] (formS z) = true ∧ Wf L n a) ∨
    (z ∈ W2 ∧ ∃ a b, d = .tup [.str z, a, b] ∧ isPs nd m [a, b] (formS z) = true ∧ Wf L n a ∧ Wf L n b) ∨ (z = "kid" ∧ ∃ a b c, d = .tup [.str z, a, b, c]) := by
  cases d with
  | tup xs =>
    obtain ⟨_, hh, hp⟩ := wf
    cases xs with
    | nil =>
      have h : isT nd m [] = true := h
      rw [isT] at h
      · cases h
      · intro z r e; cases e
    | cons x ds =>
      have h : isT nd m (x :: ds) = true := h
      cases x with
      | str z =>
        rw [isT, Bool.and_eq_true] at h
        have l := isPs_len' h.2
        refine ⟨z, ?_⟩
        rcases form_cases (hh z ds rfl) h.1 with ⟨hz, e⟩ | ⟨hz, e⟩ | ⟨hz, e⟩
        · obtain ⟨a, rfl⟩ := len1 (l.trans e)
          exact .inl ⟨hz, a, rfl, h.2, hp a (List.mem_cons_of_mem _ List.mem_cons_self)⟩
        · obtain ⟨a, b, rfl⟩ := len2 (l.trans e)
          exact .inr (.inl ⟨hz, a, b, rfl, h.2, hp a (List.mem_cons_of_mem _ List.mem_cons_self), hp b (List.mem_cons_of_mem _ (List.mem_cons_of_mem _ List.mem_cons_self))⟩)
        · obtain ⟨a, b, c, rfl⟩ := len3 (l.trans e)
          exact .inr (.inr ⟨hz, a, b, c, rfl⟩)
      | _ =>
        rw [isT] at h
        · cases h
        · intro z r e; cases e
  | _ => cases h
def sp_is_most (n : Nat) : FSpec := fun cs Q => ∃ (d : D) (nd : List (Str × Str)), cs = [.val d, .val (ndD nd)] ∧ Wf 12 n d ∧ ∀ b, b = mostB nd (n + 1) d → Q (.bl b) [.none, .none]
def sp_im : Nat → FSpec
  | 0 => fun _ _ => False
  | n + 1 => sp_is_most n
theorem no_is_most (T : Txt K w mg) : K_is_most P w base T 1 (fun _ _ => False) := okD T.F_is_most sc_is_most fun _ _ _ _ _ _ _ _ _ _ _ hs => hs.elim
theorem W1_cases {z : Str} (h : z ∈ W1) : z = "num" ∨ z = "full" ∨ z = "own" ∨ z = "need" ∨ z = "size" ∨ z = "many" ∨ z = "half" := by
  simp only [W1, List.mem_cons, List.not_mem_nil, or_false] at h
  rcases h with h | h | h | h | h | h | h <;> simp [h]
theorem W2_cases {z : Str} (h : z ∈ W2) : (z = "plus" ∨ z = "less") ∨ z = "at" ∨ z = "kids" ∨ z = "with" ∨ z = "without" ∨ z = "times" ∨ z = "rest" ∨ z = "lesser" ∨ z = "greater" := by
  simp only [W2, List.mem_cons, List.not_mem_nil, or_false] at h
  rcases h with h | h | h | h | h | h | h | h | h | h <;> simp [h]
theorem isS_wf0 {nd : List (Str × Str)} {m : Int} {L : Nat} {d : D} (wf : Wf L 0 d) : isS nd m d = false := by
  cases d with
  | tup xs => exact wf.elim
  | _ => rfl
theorem mostB_no {nd : List (Str × Str)} {n : Nat} {d : D} (h : isS nd 0 d = false) : mostB nd (n + 1) d = false := by rw [mostB_s, h]; rfl
set_option maxHeartbeats 16000000 in
theorem most_step (T : Txt K w mg) {k S n : Nat} (hS : n ≤ S) (h2 : 2 * S + 2 ≤ k) (G : K_is_most P w base T k (sp_im n)) : K_is_most P w base T (k + 1) (sp_is_most n) :=
  okD T.F_is_most sc_is_most fun cdv A outer s H E B cs Q hr hl hs => ⟨_, d_is_most T (ok_is_sum T 12 S) h2 G (Nat.le_refl _) hr, by
    obtain ⟨d, nd, rfl, wf, hq⟩ := hs
    have fin : ∀ {b : Bool} {env : DEnv}, b = mostB nd (n + 1) d → Outs env [.none, .none] → ∃ cs' : List Cell, cs'.length = 2 ∧ Outs env cs' ∧ Q (.bl b) cs' := fun h o => ⟨_, rfl, o, hq _ h⟩
    walk_at "w"
    refine ⟨d, nd, 0, rfl, wf.mono (Nat.le_refl _) hS, fun b hb => ?_⟩
    cases hs : isS nd 0 d with
    | false =>
      rw [hs] at hb
      subst hb
      walk_at "w"
      exact fin (mostB_no hs).symm ⟨trivial, trivial, outs_nil⟩
    | true =>
      rw [hs] at hb
      subst hb
      cases n with
      | zero => rw [isS_wf0 wf] at hs; cases hs
      | succ n =>
        obtain ⟨z, ⟨hz, a, rfl, hp, wa⟩ | ⟨hz, a, b, rfl, hp, wa, wb⟩ | ⟨rfl, a, b, c, rfl⟩⟩ := sum_shape wf hs
        · rcases W1_cases hz with rfl | rfl | h
          · have ea : isW a = true := by
              have hp : (isW a && true) = true := hp
              rwa [Bool.and_true] at hp
            cases a with
            | int i =>
              walk_at "w"
              walk_at "ei"
              exact fin (by rw [mostB_s, hs] <;> rfl) ⟨trivial, trivial, outs_nil⟩
            | _ => cases ea
          · have ea : isS nd 0 a = true := by
              have hp : (isS nd 0 a && true) = true := hp
              rwa [Bool.and_true] at hp
            cases n with
            | zero => rw [isS_wf0 wa] at ea; cases ea
            | succ n =>
              obtain ⟨y, ⟨_, x, rfl, _⟩ | ⟨_, x, x2, rfl, _⟩ | ⟨rfl, x, x2, x3, rfl⟩⟩ := sum_shape wa ea
              all_goals
                walk_at "w"
                walk_at "ei"
                exact fin (by rw [mostB_s, hs] <;> rfl) ⟨trivial, trivial, outs_nil⟩
          · rcases h with rfl | rfl | rfl | rfl | rfl
            all_goals
              walk_at "w"
              walk_at "ei"
              exact fin (by rw [mostB_s, hs] <;> rfl) ⟨trivial, trivial, outs_nil⟩
        · rcases W2_cases hz with h | h
          · rcases h with rfl | rfl
            all_goals
              walk_at "w"
              walk_at "ei"
              rename_i v hv
              cases h1 : mostB nd (n + 1) a with
              | false =>
                rw [h1] at hv
                subst hv
                walk_at "w"
                exact fin (by rw [mostB_s, hs]; show false = (true && (mostB nd (n + 1) a && mostB nd (n + 1) b)); rw [h1]; rfl) ⟨trivial, trivial, outs_nil⟩
              | true =>
                rw [h1] at hv
                subst hv
                walk_at "w"
                walk_at "ei"
                rename_i v hv
                walk_at "w"
                exact fin (by rw [mostB_s, hs]; show v = (true && (mostB nd (n + 1) a && mostB nd (n + 1) b)); rw [h1, hv]; rfl) ⟨trivial, trivial, outs_nil⟩
          · rcases h with rfl | rfl | rfl | rfl | rfl | rfl | rfl | rfl
            all_goals
              walk_at "w"
              walk_at "ei"
              exact fin (by rw [mostB_s, hs] <;> rfl) ⟨trivial, trivial, outs_nil⟩
        · walk_at "w"
          walk_at "ei"
          exact fin (by rw [mostB_s, hs] <;> rfl) ⟨trivial, trivial, outs_nil⟩⟩
theorem ok_is_most (T : Txt K w mg) (S : Nat) : ∀ n : Nat, n ≤ S → K_is_most P w base T (2 * S + 3 + n) (sp_is_most n)
  | 0, h => most_step T h (Nat.le_refl _) ((no_is_most T).up (by omega))
  | n + 1, h => most_step T h (show 2 * S + 2 ≤ 2 * S + 3 + n by omega) (ok_is_most T S n (by omega))
def wrd : List D → Nat
  | .str _ :: _ => 1
  | _ => 0
mutual
/-- how many parts -/
def cnt : D → Nat
  | .tup ds => wrd ds + cnts ds
  | _ => 0
def cnts : List D → Nat
  | [] => 0
  | d :: r => cnt d + cnts r
end
mutual
/-- how deep -/
def dpt : D → Nat
  | .tup ds => wrd ds + dpts ds
  | _ => 0
def dpts : List D → Nat
  | [] => 0
  | d :: r => max (dpt d) (dpts r)
end
theorem cnt_tup (ds : List D) : cnt (.tup ds) = wrd ds + cnts ds := by rw [cnt]
theorem cnts_cons (d : D) (r : List D) : cnts (d :: r) = cnt d + cnts r := by rw [cnts]
theorem cnts_nil : cnts [] = 0 := by rw [cnts]
theorem dpt_tup (ds : List D) : dpt (.tup ds) = wrd ds + dpts ds := by rw [dpt]
theorem dpts_cons (d : D) (r : List D) : dpts (d :: r) = max (dpt d) (dpts r) := by rw [dpts]
theorem dpts_nil : dpts [] = 0 := by rw [dpts]
def sp_is_worded : FSpec := fun cs Q => ∃ (n : Nat) (ds : List D), cs = [.val (.tup ds)] ∧ (∀ d ∈ ds, Wf 12 n d) ∧ ∀ b, b = decide (wrd ds = 1) → Q (.bl b) [.none]
set_option maxHeartbeats 4000000 in
theorem ok_is_worded (T : Txt K w mg) : K_is_worded P w base T 1 sp_is_worded :=
  okD T.F_is_worded sc_is_worded fun cdv A outer s H E B cs Q hr hl hs => ⟨_, d_is_worded T hr, by
    obtain ⟨n, ds, rfl, hk, hq⟩ := hs
    cases ds with
    | nil =>
      walk_at "w"
      walk_at "ei"
      exact ⟨[.none], rfl, ⟨trivial, outs_nil⟩, hq _ rfl⟩
    | cons x r =>
      have hx := (hk x List.mem_cons_self).na
      have e : decide ((0 : Int) < ((x :: r).length : Nat)) = true := decide_eq_true (by rw [List.length_cons]; omega)
      walk_at "w"
      walk_at "ei"
      rw [e]
      walk_at "w"
      refine ⟨x, atI_nat (j := 0) rfl, ?_⟩
      cases x with
      | atm v => cases hx
      | dcn v => cases hx
      | ins n0 v => cases hx
      | _ =>
        walk_at "w"
        walk_at "ei"
        exact ⟨[.none], rfl, ⟨trivial, outs_nil⟩, hq _ rfl⟩⟩
theorem wrd_int (ds : List D) : (if decide (wrd ds = 1) = true then (1 : Int) else 0) = (wrd ds : Nat) := by
  cases ds with
  | nil => rfl
  | cons x r => cases x <;> rfl
def sp_count_parts (n : Nat) : FSpec := fun cs Q => ∃ d : D, cs = [.val d] ∧ Wf 12 n d ∧ ∀ v : Int, v = (cnt d : Nat) → Q (.int v) [.none]
theorem no_count_parts (T : Txt K w mg) : K_count_parts P w base T 1 (fun _ _ => False) := okD T.F_count_parts sc_count_parts fun _ _ _ _ _ _ _ _ _ _ _ hs => hs.elim
def sp_cp : Nat → FSpec
  | 0 => fun _ _ => False
  | n + 1 => sp_count_parts n
set_option maxHeartbeats 4000000 in
theorem count_comp (s1 : FSpec) (n : Nat) (c0 : Cell) : ∀ (ds : List D) (Q : List D → DEnv → Prop), (∀ d ∈ ds, Wf 12 n d) → Q (ds.map fun d => .int (cnt d : Nat)) [c0, .none] →
    mapL [1] (gN 1) qYes (t_count_parts_1 s1 (sp_count_parts n)) ds [c0, .none] Q
  | [], Q, hk, h => by
    walk_at "mn"
    exact h
  | d :: r, Q, hk, h => by
    walk_at "mc"
    refine ⟨d, rfl, hk d List.mem_cons_self, fun v hv => ?_⟩
    subst hv
    walk_at "w"
    exact count_comp s1 n c0 r _ (fun d m => hk d (List.mem_cons_of_mem _ m)) h
theorem cnts_sum : ∀ ds : List D, (ds.map fun d => (cnt d : Int)).sum = (cnts ds : Nat)
  | [] => by rw [cnts_nil]; rfl
  | d :: r => by rw [List.map_cons, List.sum_cons, cnts_sum r, cnts_cons]; omega
set_option maxHeartbeats 4000000 in
theorem count_step (T : Txt K w mg) {k n : Nat} (h1 : 1 ≤ k) (G : K_count_parts P w base T k (sp_cp n)) : K_count_parts P w base T (k + 1) (sp_count_parts n) :=
  okD T.F_count_parts sc_count_parts fun cdv A outer s H E B cs Q hr hl hs => ⟨_, d_count_parts T (ok_is_worded T) h1 G (Nat.le_refl _) hr, by
    obtain ⟨d, rfl, hd, hq⟩ := hs
    have fin : ∀ {v : Int} {env : DEnv}, v = (cnt d : Nat) → Outs env [.none] → ∃ cs' : List Cell, cs'.length = 1 ∧ Outs env cs' ∧ Q (.int v) cs' := fun h o => ⟨_, rfl, o, hq _ h⟩
    cases d with
    | atm v => exact absurd hd.na (by intro h; cases h)
    | dcn v => exact absurd hd.na (by intro h; cases h)
    | ins n0 v => exact absurd hd.na (by intro h; cases h)
    | tup ds =>
      cases n with
      | zero => exact hd.elim
      | succ n =>
        obtain ⟨l1, _, hk⟩ := hd
        walk_at "w"
        walk_at "ei"
        refine ⟨n, ds, rfl, hk, fun b hb => ?_⟩
        subst hb
        walk_at "w"
        walk_at "ei"
        refine ⟨Nat.le_trans l1 (by decide), ?_⟩
        walk_at "w"
        refine count_comp _ n _ ds _ hk ?_
        walk_at "w"
        refine ⟨ds.map fun d => (cnt d : Int), by rw [List.map_map]; rfl, ?_⟩
        walk_at "w"
        exact fin (by rw [wrd_int, cnts_sum, cnt_tup]; omega) ⟨trivial, outs_nil⟩
    | _ =>
      walk_at "w"
      walk_at "ei"
      exact fin (by rw [cnt] <;> first | rfl | (intro a e; cases e)) ⟨trivial, outs_nil⟩⟩
theorem ok_count_parts (T : Txt K w mg) : ∀ n : Nat, K_count_parts P w base T (n + 2) (sp_count_parts n)
  | 0 => count_step T (Nat.le_refl 1) (no_count_parts T)
  | n + 1 => count_step T (by omega) (ok_count_parts T n)
def sp_deepness (n : Nat) : FSpec := fun cs Q => ∃ d : D, cs = [.val d] ∧ Wf 12 n d ∧ ∀ v : Int, v = (dpt d : Nat) → Q (.int v) [.none]
theorem no_deepness (T : Txt K w mg) : K_deepness P w base T 1 (fun _ _ => False) := okD T.F_deepness sc_deepness fun _ _ _ _ _ _ _ _ _ _ _ hs => hs.elim
def sp_dp : Nat → FSpec
  | 0 => fun _ _ => False
  | n + 1 => sp_deepness n
set_option maxHeartbeats 4000000 in
theorem deep_comp (s1 : FSpec) (n : Nat) (c0 : Cell) : ∀ (ds : List D) (Q : List D → DEnv → Prop), (∀ d ∈ ds, Wf 12 n d) → Q (ds.map fun d => .int (dpt d : Nat)) [c0, .none] →
    mapL [1] (gN 1) qYes (t_deepness_1 s1 (sp_deepness n)) ds [c0, .none] Q
  | [], Q, hk, h => by
    walk_at "mn"
    exact h
  | d :: r, Q, hk, h => by
    walk_at "mc"
    refine ⟨d, rfl, hk d List.mem_cons_self, fun v hv => ?_⟩
    subst hv
    walk_at "w"
    exact deep_comp s1 n c0 r _ (fun d m => hk d (List.mem_cons_of_mem _ m)) h
theorem dpts_le : ∀ (ds : List D), ∀ d ∈ ds, dpt d ≤ dpts ds
  | e :: r, d, m => by
    rw [dpts_cons]
    rcases List.mem_cons.mp m with e | m
    · rw [e]; exact Nat.le_max_left _ _
    · exact Nat.le_trans (dpts_le r d m) (Nat.le_max_right _ _)
theorem dpts_in : ∀ (ds : List D), dpts ds = 0 ∨ ∃ d ∈ ds, dpt d = dpts ds
  | [] => .inl dpts_nil
  | e :: r => by
    rw [dpts_cons]
    rcases Nat.le_total (dpt e) (dpts r) with h | h
    · rw [Nat.max_eq_right h]
      rcases dpts_in r with z | ⟨d, m, z⟩
      · exact .inl z
      · exact .inr ⟨d, List.mem_cons_of_mem _ m, z⟩
    · rw [Nat.max_eq_left h]
      exact .inr ⟨e, List.mem_cons_self, rfl⟩
/-- the greatest of these is how deep they are -/
theorem dpts_max {ds : List D} {l : List Int} (hl : ∀ x ∈ l, x = 0) {m : Int} (hm : m ∈ (ds.map fun d => (dpt d : Int)) ++ l) (h : ∀ y ∈ (ds.map fun d => (dpt d : Int)) ++ l, y ≤ m) (hz : ds ≠ [] ∨ l ≠ []) : m = (dpts ds : Nat) := by
  have h1 : m ≤ (dpts ds : Nat) := by
    rcases List.mem_append.mp hm with a | a
    · obtain ⟨d, hd, rfl⟩ := List.mem_map.mp a
      have := dpts_le ds d hd
      omega
    · rw [hl m a]; omega
  have h0 : 0 ≤ m := by
    rcases List.mem_append.mp hm with a | a
    · obtain ⟨d, hd, rfl⟩ := List.mem_map.mp a
      omega
    · rw [hl m a]; omega
  rcases dpts_in ds with z | ⟨d, hd, z⟩
  · rw [z] at h1 ⊢; omega
  · have := h (dpt d : Nat) (List.mem_append_left _ (List.mem_map_of_mem (f := fun d => (dpt d : Int)) hd))
    omega
set_option maxHeartbeats 4000000 in
theorem deep_step (T : Txt K w mg) {k n : Nat} (h1 : 1 ≤ k) (G : K_deepness P w base T k (sp_dp n)) : K_deepness P w base T (k + 1) (sp_deepness n) :=
  okD T.F_deepness sc_deepness fun cdv A outer s H E B cs Q hr hl hs => ⟨_, d_deepness T (ok_is_worded T) h1 G (Nat.le_refl _) hr, by
    obtain ⟨d, rfl, hd, hq⟩ := hs
    have fin : ∀ {v : Int} {env : DEnv}, v = (dpt d : Nat) → Outs env [.none] → ∃ cs' : List Cell, cs'.length = 1 ∧ Outs env cs' ∧ Q (.int v) cs' := fun h o => ⟨_, rfl, o, hq _ h⟩
    cases d with
    | atm v => exact absurd hd.na (by intro h; cases h)
    | dcn v => exact absurd hd.na (by intro h; cases h)
    | ins n0 v => exact absurd hd.na (by intro h; cases h)
    | tup ds =>
      cases n with
      | zero => exact hd.elim
      | succ n =>
        obtain ⟨l1, _, hk⟩ := hd
        walk_at "w"
        walk_at "ei"
        refine ⟨n, ds, rfl, hk, fun b hb => ?_⟩
        subst hb
        walk_at "w"
        walk_at "ei"
        refine ⟨Nat.le_trans l1 (by decide), ?_⟩
        walk_at "w"
        refine deep_comp _ n _ ds _ hk ?_
        walk_at "w"
        walk_at "ei"
        refine ⟨Nat.le_trans (show (ds.map fun d => D.int (dpt d : Nat)).length + 1 ≤ 13 by rw [List.length_map]; omega) (by decide), ?_⟩
        walk_at "w"
        refine ⟨(ds.map fun d => (dpt d : Int)) ++ [0], by rw [List.map_append, List.map_map]; rfl, by rw [List.length_append]; exact Nat.succ_pos _, fun m hm hx => ?_⟩
        have e := dpts_max (ds := ds) (l := [0]) (fun x m => List.mem_singleton.mp m) hm hx (.inr (by simp))
        subst e
        walk_at "w"
        exact fin (by rw [wrd_int, dpt_tup]; omega) ⟨trivial, outs_nil⟩
    | _ =>
      walk_at "w"
      walk_at "ei"
      exact fin (by rw [dpt] <;> first | rfl | (intro a e; cases e)) ⟨trivial, outs_nil⟩⟩
theorem ok_deepness (T : Txt K w mg) : ∀ n : Nat, K_deepness P w base T (n + 2) (sp_deepness n)
  | 0 => deep_step T (Nat.le_refl 1) (no_deepness T)
  | n + 1 => deep_step T (by omega) (ok_deepness T n)
/-! ### bodies, of any data -/
def AS (n : Nat) : D → Prop
  | .tup ds => ds.length ≤ 12 ∧ ∀ d ∈ ds, Wf 12 n d
  | d => noAtm d = true
theorem AS.of {n : Nat} {d : D} (h : Wf 12 n d) : AS n d := by
  cases d with
  | tup ds =>
    cases n with
    | zero => exact h.elim
    | succ n => exact ⟨h.1, fun d m => (h.2.2 d m).mono (Nat.le_refl _) (Nat.le_succ _)⟩
  | _ => exact h.na
def areS (nd : List (Str × Str)) (own k : Nat) : D → Bool
  | .tup ds => decide (ds.length = k) && ds.all (isS nd (own : Nat))
  | _ => false
def sp_are_sums (S : Nat) : FSpec := fun cs Q => ∃ (d : D) (k : Nat) (nd : List (Str × Str)) (own : Nat), cs = [.val d, .val (.int (k : Nat)), .val (ndD nd), .val (.int (own : Nat))] ∧ AS S d ∧ ∀ b, b = areS nd own k d → Q (.bl b) [.none, .none, .none, .none]
set_option maxHeartbeats 4000000 in
theorem sums_comp (S own : Nat) (nd : List (Str × Str)) (c0 c1 : Cell) : ∀ (ds : List D) (Q : List D → DEnv → Prop), (∀ d ∈ ds, Wf 12 S d) → (∀ bs : List Bool, bs.all id = ds.all (isS nd (own : Nat)) → Q (bs.map D.bl) [c0, c1, .val (ndD nd), .val (.int (own : Nat)), .none]) →
    mapL [4] (gN 4) qYes (t_are_sums_1 (sp_is_sum 12 S)) ds [c0, c1, .val (ndD nd), .val (.int (own : Nat)), .none] Q
  | [], Q, hk, h => by
    walk_at "mn"
    exact h [] rfl
  | d :: r, Q, hk, h => by
    walk_at "mc"
    refine ⟨d, nd, own, rfl, hk d List.mem_cons_self, fun b hb => ?_⟩
    walk_at "w"
    exact sums_comp S own nd c0 c1 r _ (fun d m => hk d (List.mem_cons_of_mem _ m)) fun bs hbs => h (b :: bs) (by rw [List.all_cons, List.all_cons, hbs, hb]; rfl)
theorem dec_nat (a b : Nat) : decide (((a : Nat) : Int) = ((b : Nat) : Int)) = decide (a = b) := by
  by_cases q : a = b
  · rw [decide_eq_true q, decide_eq_true (by omega)]
  · rw [decide_eq_false q, decide_eq_false (by omega)]
set_option maxHeartbeats 4000000 in
theorem ok_are_sums (T : Txt K w mg) (S : Nat) : K_are_sums P w base T (2 * S + 3) (sp_are_sums S) :=
  okD T.F_are_sums sc_are_sums fun cdv A outer s H E B cs Q hr hl hs => ⟨_, d_are_sums T (ok_is_sum T 12 S) (by omega) hr, by
    obtain ⟨d, k, nd, own, rfl, wf, hq⟩ := hs
    have fin : ∀ {b : Bool} {env : DEnv}, b = areS nd own k d → Outs env [.none, .none, .none, .none] → ∃ cs' : List Cell, cs'.length = 4 ∧ Outs env cs' ∧ Q (.bl b) cs' := fun h o => ⟨_, rfl, o, hq _ h⟩
    cases d with
    | atm v => cases wf
    | dcn v => cases wf
    | ins n0 v => cases wf
    | tup ds =>
      have nv : areS nd own k (.tup ds) = (decide (ds.length = k) && ds.all (isS nd (own : Nat))) := rfl
      walk_at "w"
      walk_at "ei"
      generalize hd : decide (((_ : List D).length : Int) = _) = bb
      have hd : decide (((ds.length : Nat) : Int) = ((k : Nat) : Int)) = bb := hd
      rw [dec_nat] at hd
      cases bb with
      | false =>
        walk_at "w"
        exact fin (by rw [nv, hd]; rfl) ⟨trivial, trivial, trivial, trivial, outs_nil⟩
      | true =>
        walk_at "w"
        refine ⟨Nat.le_trans wf.1 (by decide), ?_⟩
        walk_at "w"
        refine sums_comp S own nd _ _ ds _ wf.2 fun bs hbs => ?_
        walk_at "w"
        refine ⟨bs, rfl, ?_⟩
        exact fin (by rw [nv, hd, hbs]; rfl) ⟨trivial, trivial, trivial, trivial, outs_nil⟩
    | _ =>
      walk_at "w"
      walk_at "ei"
      exact fin rfl ⟨trivial, trivial, trivial, trivial, outs_nil⟩⟩
def cD (cn : List Nat) : D := .lst (cn.map fun n => .int (n : Nat))
def hD (nd : List (Str × Str)) (cn : List Nat) : D := .tup [ndD nd, cD cn]
def callB (nd : List (Str × Str)) (cn : List Nat) (own : Nat) : List D → Bool
  | [x, a] => (match x with
    | .int i => (match decide (0 ≤ i) with
      | true => (match decide (i < (cn.length : Nat)) with
        | true => areS nd own (cn.getD i.toNat 0) a
        | false => false)
      | false => false)
    | _ => false)
  | _ => false
def sp_is_call (S : Nat) : FSpec := fun cs Q => ∃ (z : Str) (ds : List D) (nd : List (Str × Str)) (cn : List Nat) (own : Nat), cs = [.val (.tup (.str z :: ds)), .val (hD nd cn), .val (.int (own : Nat))] ∧ (∀ d ∈ ds, Wf 12 S d) ∧ ∀ b, b = callB nd cn own ds → Q (.bl b) [.none, .none, .none]
set_option maxHeartbeats 4000000 in
theorem ok_is_call (T : Txt K w mg) (S : Nat) : K_is_call P w base T (2 * S + 4) (sp_is_call S) :=
  okD T.F_is_call sc_is_call fun cdv A outer s H E B cs Q hr hl hs => ⟨_, d_is_call T (ok_is_whole T) (by omega) (ok_are_sums T S) (by omega) hr, by
    obtain ⟨z, ds, nd, cn, own, rfl, wf, hq⟩ := hs
    have fin : ∀ {b : Bool} {env : DEnv}, b = callB nd cn own ds → Outs env [.none, .none, .none] → ∃ cs' : List Cell, cs'.length = 3 ∧ Outs env cs' ∧ Q (.bl b) cs' := fun h o => ⟨_, rfl, o, hq _ h⟩
    match ds, wf with
    | [], _ =>
      walk_at "w"
      walk_at "ei"
      exact fin rfl ⟨trivial, trivial, trivial, outs_nil⟩
    | [x], _ =>
      walk_at "w"
      walk_at "ei"
      exact fin rfl ⟨trivial, trivial, trivial, outs_nil⟩
    | [x, a], wf =>
      have wx := wf x List.mem_cons_self
      have wa := wf a (List.mem_cons_of_mem _ List.mem_cons_self)
      have nx := wx.na
      walk_at "w"
      walk_at "ek"
      rename_i v hv
      cases hx : isW x with
      | false =>
        rw [hx] at hv
        subst hv
        walk_at "w"
        refine fin ?_ ⟨trivial, trivial, trivial, outs_nil⟩
        cases x with
        | int i => cases hx
        | _ => rfl
      | true =>
        rw [hx] at hv
        subst hv
        cases x with
        | int i =>
          walk_at "w"
          walk_at "ek"
          have nv : callB nd cn own [.int i, a] = (match decide (0 ≤ i) with
            | true => (match decide (i < (cn.length : Nat)) with
              | true => areS nd own (cn.getD i.toNat 0) a
              | false => false)
            | false => false) := rfl
          cases h0 : decide (0 ≤ i) with
          | false =>
            walk_at "w"
            exact fin (by rw [nv, h0]) ⟨trivial, trivial, trivial, outs_nil⟩
          | true =>
            have lc : ((cn.map fun n => D.int (n : Nat)).length : Int) = (cn.length : Int) := by rw [List.length_map]
            walk_at "w"
            walk_at "ek"
            cases h1 : decide (i < (cn.length : Nat)) with
            | false =>
              have e2 : decide (i < ((cn.map fun n => D.int (n : Nat)).length : Int)) = false := by rw [lc]; exact h1
              rw [e2]
              walk_at "w"
              exact fin (by rw [nv, h0, h1]) ⟨trivial, trivial, trivial, outs_nil⟩
            | true =>
              have e2 : decide (i < ((cn.map fun n => D.int (n : Nat)).length : Int)) = true := by rw [lc]; exact h1
              rw [e2]
              have i0 := of_decide_eq_true h0
              have i1 := of_decide_eq_true h1
              obtain ⟨g, rfl⟩ : ∃ g : Nat, i = (g : Nat) := ⟨i.toNat, by omega⟩
              have lg : g < cn.length := by omega
              walk_at "w"
              walk_at "ek"
              have ag : atI (cn.map fun n => D.int (n : Nat)) ((g : Nat) : Int) = some (.int (cn[g] : Nat)) := atI_nat (by rw [List.getElem?_map, List.getElem?_eq_getElem lg]; rfl)
              refine ⟨_, ag, ?_⟩
              walk_at "w"
              refine ⟨a, cn[g], nd, own, rfl, AS.of wa, fun v hv => ?_⟩
              walk_at "w"
              refine fin ?_ ⟨trivial, trivial, trivial, outs_nil⟩
              rw [nv, h0, h1, hv]
              show areS nd own cn[g] a = areS nd own (cn.getD ((g : Nat) : Int).toNat 0) a
              rw [Int.toNat_natCast, List.getD_eq_getElem?_getD, List.getElem?_eq_getElem lg]; rfl
        | _ => cases hx
    | x :: a :: c :: r, _ =>
      walk_at "w"
      walk_at "ei"
      generalize hd : decide (((r.length + 1 + 1 + 1 + 1 : Nat) : Int) = 3) = bb
      rw [decide_eq_false (by omega)] at hd
      subst hd
      walk_at "w"
      exact fin rfl ⟨trivial, trivial, trivial, outs_nil⟩⟩
def choiceB (f : D → Bool) : List D → Bool
  | [.tup bs] => (decide (1 ≤ bs.length) && decide (bs.length ≤ 4)) && bs.all f
  | _ => false
def turnedB (f : D → Bool) (nd : List (Str × Str)) (own t : Nat) : List D → Bool
  | [lo, hi, b] => !decide (t = 2) && ((isS nd (own : Nat) lo && isS nd (own : Nat) hi) && f b)
  | _ => false
def iteB (f : D → Bool) (nd : List (Str × Str)) (own : Nat) : List D → Bool
  | [c, a, b] => isC nd (own : Nat) c && (f a && f b)
  | _ => false
def bodyW (f : D → Bool) (f' : D → Bool) (nd : List (Str × Str)) (cn : List Nat) (own t : Nat) (z : Str) (ds : List D) : Bool :=
  match decide (z = "none") with
  | true => decide (ds.length = 0)
  | false => match decide (z = "gain") with
    | true => areS nd own 1 (.tup ds)
    | false => match decide (z = "call") with
      | true => callB nd cn own ds
      | false => match decide (z = "choose") with
        | true => choiceB f ds
        | false => match decide (z = "each") || decide (z = "all") with
          | true => turnedB f' nd own t ds
          | false => match decide (z = "both") with
            | true => decide (ds.length = 2) && ds.all f
            | false => match decide (z = "if") with
              | true => iteB f nd own ds
              | false => false
def bodyD (f : Str → List D → Bool) : D → Bool
  | .tup (.str z :: ds) => f z ds
  | _ => false
def bodyB (nd : List (Str × Str)) (cn : List Nat) : Nat → Nat → Nat → D → Bool
  | 0, _, _, _ => false
  | n + 1, own, t, d => bodyD (bodyW (bodyB nd cn n own t) (bodyB nd cn n (own + 1) (t + 1)) nd cn own t) d
theorem bodyB_s (nd : List (Str × Str)) (cn : List Nat) (n own t : Nat) (z : Str) (ds : List D) : bodyB nd cn (n + 1) own t (.tup (.str z :: ds)) = bodyW (bodyB nd cn n own t) (bodyB nd cn n (own + 1) (t + 1)) nd cn own t z ds := rfl
def sp_is_body (n : Nat) : FSpec := fun cs Q => ∃ (d : D) (nd : List (Str × Str)) (cn : List Nat) (own t : Nat), cs = [.val d, .val (hD nd cn), .val (.int (own : Nat)), .val (.int (t : Nat))] ∧ Wf 12 n d ∧ ∀ b, b = bodyB nd cn (n + 1) own t d → Q (.bl b) [.none, .none, .none, .none]
def sp_ib : Nat → FSpec
  | 0 => fun _ _ => False
  | n + 1 => sp_is_body n
theorem no_is_body (T : Txt K w mg) : K_is_body P w base T 1 (fun _ _ => False) := okD T.F_is_body sc_is_body fun _ _ _ _ _ _ _ _ _ _ _ hs => hs.elim
theorem no_is_choice (T : Txt K w mg) : K_is_choice P w base T 1 (fun _ _ => False) := okD T.F_is_choice sc_is_choice fun _ _ _ _ _ _ _ _ _ _ _ hs => hs.elim
theorem no_is_turned (T : Txt K w mg) : K_is_turned P w base T 1 (fun _ _ => False) := okD T.F_is_turned sc_is_turned fun _ _ _ _ _ _ _ _ _ _ _ hs => hs.elim
def sp_is_choice (n : Nat) : FSpec := fun cs Q => ∃ (z : Str) (ds : List D) (nd : List (Str × Str)) (cn : List Nat) (own t : Nat), cs = [.val (.tup (.str z :: ds)), .val (hD nd cn), .val (.int (own : Nat)), .val (.int (t : Nat))] ∧ (∀ d ∈ ds, AS n d) ∧
  ∀ b, b = choiceB (bodyB nd cn (n + 1) own t) ds → Q (.bl b) [.none, .none, .none, .none]
theorem AS.na {n : Nat} {d : D} (h : AS n d) : noAtm d = true := by
  cases d with
  | tup ds => rfl
  | _ => exact h
set_option maxHeartbeats 4000000 in
theorem choice_comp (n own t : Nat) (nd : List (Str × Str)) (cn : List Nat) (c0 : Cell) : ∀ (ds : List D) (Q : List D → DEnv → Prop), (∀ d ∈ ds, Wf 12 n d) → (∀ bs : List Bool, bs.all id = ds.all (bodyB nd cn (n + 1) own t) → Q (bs.map D.bl) [c0, .val (hD nd cn), .val (.int (own : Nat)), .val (.int (t : Nat)), .none]) →
    mapL [4] (gN 4) qYes (t_is_choice_1 (sp_is_body n)) ds [c0, .val (hD nd cn), .val (.int (own : Nat)), .val (.int (t : Nat)), .none] Q
  | [], Q, hk, h => by
    walk_at "mn"
    exact h [] rfl
  | d :: r, Q, hk, h => by
    walk_at "mc"
    refine ⟨d, nd, cn, own, t, rfl, hk d List.mem_cons_self, fun b hb => ?_⟩
    walk_at "w"
    exact choice_comp n own t nd cn c0 r _ (fun d m => hk d (List.mem_cons_of_mem _ m)) fun bs hbs => h (b :: bs) (by rw [List.all_cons, List.all_cons, hbs, hb]; rfl)
set_option maxHeartbeats 8000000 in
theorem ok_is_choice (T : Txt K w mg) {k n : Nat} (G : K_is_body P w base T k (sp_is_body n)) : K_is_choice P w base T (k + 1) (sp_is_choice n) :=
  okD T.F_is_choice sc_is_choice fun cdv A outer s H E B cs Q hr hl hs => ⟨_, d_is_choice T G (Nat.le_refl _) hr, by
    obtain ⟨z, ds, nd, cn, own, t, rfl, wf, hq⟩ := hs
    have fin : ∀ {b : Bool} {env : DEnv}, b = choiceB (bodyB nd cn (n + 1) own t) ds → Outs env [.none, .none, .none, .none] → ∃ cs' : List Cell, cs'.length = 4 ∧ Outs env cs' ∧ Q (.bl b) cs' := fun h o => ⟨_, rfl, o, hq _ h⟩
    match ds, wf with
    | [], _ =>
      walk_at "w"
      walk_at "ei"
      exact fin rfl ⟨trivial, trivial, trivial, trivial, outs_nil⟩
    | [x], wf =>
      have wx := wf x List.mem_cons_self
      cases x with
      | atm v => cases wx
      | dcn v => cases wx
      | ins n0 v => cases wx
      | tup bs =>
        have nv : choiceB (bodyB nd cn (n + 1) own t) [.tup bs] = ((decide (1 ≤ bs.length) && decide (bs.length ≤ 4)) && bs.all (bodyB nd cn (n + 1) own t)) := rfl
        walk_at "w"
        walk_at "ei"
        cases e1 : decide ((1 : Int) ≤ (bs.length : Nat)) with
        | false =>
          walk_at "w"
          refine fin ?_ ⟨trivial, trivial, trivial, trivial, outs_nil⟩
          rw [nv, decide_eq_false (show ¬ 1 ≤ bs.length from fun h => of_decide_eq_false e1 (by omega))]; rfl
        | true =>
          walk_at "w"
          walk_at "ei"
          cases e2 : decide (((bs.length : Nat) : Int) ≤ 4) with
          | false =>
            walk_at "w"
            refine fin ?_ ⟨trivial, trivial, trivial, trivial, outs_nil⟩
            rw [nv, decide_eq_false (show ¬ bs.length ≤ 4 from fun h => of_decide_eq_false e2 (by omega)), Bool.and_false, Bool.false_and]
          | true =>
            have h4 : bs.length ≤ 4 := by have := of_decide_eq_true e2; omega
            have h1 : 1 ≤ bs.length := by have := of_decide_eq_true e1; omega
            walk_at "w"
            walk_at "ei"
            refine ⟨Nat.le_trans h4 (by decide), ?_⟩
            walk_at "w"
            refine choice_comp n own t nd cn _ bs _ wx.2 fun vs hvs => ?_
            walk_at "w"
            refine ⟨vs, rfl, ?_⟩
            exact fin (by rw [nv, decide_eq_true h1, decide_eq_true h4, hvs]; rfl) ⟨trivial, trivial, trivial, trivial, outs_nil⟩
      | _ =>
        walk_at "w"
        walk_at "ei"
        exact fin rfl ⟨trivial, trivial, trivial, trivial, outs_nil⟩
    | x :: y :: r, _ =>
      walk_at "w"
      walk_at "ei"
      generalize hd : decide (((r.length + 1 + 1 + 1 : Nat) : Int) = 2) = bb
      rw [decide_eq_false (by omega)] at hd
      subst hd
      walk_at "w"
      refine fin ?_ ⟨trivial, trivial, trivial, trivial, outs_nil⟩
      cases x <;> rfl⟩
def sp_is_turned (S n : Nat) : FSpec := fun cs Q => ∃ (z : Str) (ds : List D) (nd : List (Str × Str)) (cn : List Nat) (own t : Nat), cs = [.val (.tup (.str z :: ds)), .val (hD nd cn), .val (.int (own : Nat)), .val (.int (t : Nat))] ∧ (∀ d ∈ ds, Wf 12 n d) ∧
  ∀ b, b = turnedB (bodyB nd cn (n + 1) (own + 1) (t + 1)) nd own t ds → Q (.bl b) [.none, .none, .none, .none]
set_option maxHeartbeats 8000000 in
theorem ok_is_turned (T : Txt K w mg) {k S n : Nat} (hS : n ≤ S) (h2 : 2 * S + 3 ≤ k) (G : K_is_body P w base T k (sp_is_body n)) : K_is_turned P w base T (k + 1) (sp_is_turned S n) :=
  okD T.F_is_turned sc_is_turned fun cdv A outer s H E B cs Q hr hl hs => ⟨_, d_is_turned T (ok_are_sums T S) h2 G (Nat.le_refl _) hr, by
    obtain ⟨z, ds, nd, cn, own, t, rfl, wf, hq⟩ := hs
    have fin : ∀ {b : Bool} {env : DEnv}, b = turnedB (bodyB nd cn (n + 1) (own + 1) (t + 1)) nd own t ds → Outs env [.none, .none, .none, .none] → ∃ cs' : List Cell, cs'.length = 4 ∧ Outs env cs' ∧ Q (.bl b) cs' := fun h o => ⟨_, rfl, o, hq _ h⟩
    match ds, wf with
    | [], _ =>
      walk_at "w"
      walk_at "ei"
      exact fin rfl ⟨trivial, trivial, trivial, trivial, outs_nil⟩
    | [x], _ =>
      walk_at "w"
      walk_at "ei"
      exact fin rfl ⟨trivial, trivial, trivial, trivial, outs_nil⟩
    | [x, y], _ =>
      walk_at "w"
      walk_at "ei"
      exact fin rfl ⟨trivial, trivial, trivial, trivial, outs_nil⟩
    | [lo, hi, b], wf =>
      have wl : ∀ d ∈ [lo, hi], Wf 12 S d := fun d m => by
        rcases List.mem_cons.mp m with e | m
        · rw [e]; exact (wf lo List.mem_cons_self).mono (Nat.le_refl _) hS
        · rw [List.mem_singleton.mp m]; exact (wf hi (List.mem_cons_of_mem _ List.mem_cons_self)).mono (Nat.le_refl _) hS
      have wb : Wf 12 n b := wf b (List.mem_cons_of_mem _ (List.mem_cons_of_mem _ List.mem_cons_self))
      have nv : turnedB (bodyB nd cn (n + 1) (own + 1) (t + 1)) nd own t [lo, hi, b] = (!decide (t = 2) && ((isS nd (own : Nat) lo && isS nd (own : Nat) hi) && bodyB nd cn (n + 1) (own + 1) (t + 1) b)) := rfl
      walk_at "w"
      walk_at "ei"
      generalize hd : decide (((t : Nat) : Int) = 2) = bb
      have hd : decide (((t : Nat) : Int) = ((2 : Nat) : Int)) = bb := hd
      rw [dec_nat] at hd
      cases bb with
      | true =>
        walk_at "w"
        exact fin (by rw [nv, hd]; rfl) ⟨trivial, trivial, trivial, trivial, outs_nil⟩
      | false =>
        walk_at "w"
        refine ⟨_, atI_nat (j := 0) rfl, ?_⟩
        walk_at "w"
        refine ⟨.tup [lo, hi], 2, nd, own, rfl, ⟨show 2 ≤ 12 by decide, wl⟩, fun v hv => ?_⟩
        have ev : areS nd own 2 (.tup [lo, hi]) = (isS nd (own : Nat) lo && isS nd (own : Nat) hi) := by
          show (true && (isS nd (own : Nat) lo && (isS nd (own : Nat) hi && true))) = _
          rw [Bool.and_true, Bool.true_and]
        rw [ev] at hv
        cases v with
        | false =>
          walk_at "w"
          exact fin (by rw [nv, hd, ← hv]; rfl) ⟨trivial, trivial, trivial, trivial, outs_nil⟩
        | true =>
          walk_at "w"
          refine ⟨b, atI_nat (j := 3) rfl, ?_⟩
          walk_at "w"
          refine ⟨b, nd, cn, own + 1, t + 1, rfl, wb, fun v hv2 => ?_⟩
          walk_at "w"
          exact fin (by rw [nv, hd, ← hv, hv2]; rfl) ⟨trivial, trivial, trivial, trivial, outs_nil⟩
    | x :: y :: u :: v :: r, _ =>
      walk_at "w"
      walk_at "ei"
      generalize hd : decide (((r.length + 1 + 1 + 1 + 1 + 1 : Nat) : Int) = 4) = bb
      rw [decide_eq_false (by omega)] at hd
      subst hd
      walk_at "w"
      exact fin rfl ⟨trivial, trivial, trivial, trivial, outs_nil⟩⟩
def OTHa : List Str := ["num", "own", "need", "size", "at", "kids", "kid", "full", "with", "without", "many", "plus", "less", "times", "half", "rest", "lesser", "greater"]
def OTHb : List Str := ["below", "same", "has", "not", "and", "or", "nones", ""]
def OTH : List Str := OTHa ++ OTHb
theorem HDw_cases {z : Str} (h : HD.contains z = true) : z = "none" ∨ z = "gain" ∨ z = "call" ∨ z = "choose" ∨ (z = "each" ∨ z = "all") ∨ z = "both" ∨ z = "if" ∨ z ∈ OTH := by
  have h : z ∈ HD := by simpa using h
  have key : ∀ z ∈ HD, z = "none" ∨ z = "gain" ∨ z = "call" ∨ z = "choose" ∨ (z = "each" ∨ z = "all") ∨ z = "both" ∨ z = "if" ∨ z ∈ OTH := by decide +kernel
  exact key z h
theorem OTH_cases {z : Str} (h : z ∈ OTH) : z = "num" ∨ z = "own" ∨ z = "need" ∨ z = "size" ∨ z = "at" ∨ z = "kids" ∨ z = "kid" ∨ z = "full" ∨ z = "with" ∨ z = "without" ∨ z = "many" ∨ z = "plus" ∨ z = "less" ∨ z = "times" ∨ z = "half" ∨ z = "rest" ∨ z = "lesser" ∨ z = "greater" ∨
    z = "below" ∨ z = "same" ∨ z = "has" ∨ z = "not" ∨ z = "and" ∨ z = "or" ∨ z = "nones" ∨ z = "" := by
  simp only [OTH, OTHa, OTHb, List.cons_append, List.nil_append, List.mem_cons, List.not_mem_nil, or_false] at h
  exact h
set_option maxHeartbeats 4000000 in
theorem body_comp1 (n own t : Nat) (nd : List (Str × Str)) (cn : List Nat) (s1 s2 s3 s4 s5 : FSpec) (c0 c4 : Cell) : ∀ (ds : List D) (Q : List D → DEnv → Prop), (∀ d ∈ ds, Wf 12 n d) → (∀ bs : List Bool, bs.all id = ds.all (bodyB nd cn (n + 1) own t) → Q (bs.map D.bl) [c0, .val (hD nd cn), .val (.int (own : Nat)), .val (.int (t : Nat)), c4, .none]) →
    mapL [5] (gN 5) qYes (t_is_body_1 s1 s2 s3 s4 (sp_is_body n) s5) ds [c0, .val (hD nd cn), .val (.int (own : Nat)), .val (.int (t : Nat)), c4, .none] Q
  | [], Q, hk, h => by
    walk_at "mn"
    exact h [] rfl
  | d :: r, Q, hk, h => by
    walk_at "mc"
    refine ⟨d, nd, cn, own, t, rfl, hk d List.mem_cons_self, fun b hb => ?_⟩
    walk_at "w"
    exact body_comp1 n own t nd cn s1 s2 s3 s4 s5 c0 c4 r _ (fun d m => hk d (List.mem_cons_of_mem _ m)) fun bs hbs => h (b :: bs) (by rw [List.all_cons, List.all_cons, hbs, hb]; rfl)
set_option maxHeartbeats 4000000 in
theorem body_comp2 (n own t : Nat) (nd : List (Str × Str)) (cn : List Nat) (s1 s2 s3 s4 s5 : FSpec) (c0 c4 : Cell) : ∀ (ds : List D) (Q : List D → DEnv → Prop), (∀ d ∈ ds, Wf 12 n d) → (∀ bs : List Bool, bs.all id = ds.all (bodyB nd cn (n + 1) own t) → Q (bs.map D.bl) [c0, .val (hD nd cn), .val (.int (own : Nat)), .val (.int (t : Nat)), c4, .none]) →
    mapL [5] (gN 5) qYes (t_is_body_2 s1 s2 s3 s4 (sp_is_body n) s5) ds [c0, .val (hD nd cn), .val (.int (own : Nat)), .val (.int (t : Nat)), c4, .none] Q
  | [], Q, hk, h => by
    walk_at "mn"
    exact h [] rfl
  | d :: r, Q, hk, h => by
    walk_at "mc"
    refine ⟨d, nd, cn, own, t, rfl, hk d List.mem_cons_self, fun b hb => ?_⟩
    walk_at "w"
    exact body_comp2 n own t nd cn s1 s2 s3 s4 s5 c0 c4 r _ (fun d m => hk d (List.mem_cons_of_mem _ m)) fun bs hbs => h (b :: bs) (by rw [List.all_cons, List.all_cons, hbs, hb]; rfl)
theorem AS.lst {n : Nat} {ds : List D} (l : ds.length ≤ 12) (h : ∀ d ∈ ds, Wf 12 n d) : AS n (.tup ds) := ⟨l, h⟩
set_option maxHeartbeats 32000000 in
theorem body_step (T : Txt K w mg) {k S n : Nat} {sc st : FSpec} (hS : n ≤ S) (h2 : 3 * S + 4 ≤ k) (GC : K_is_choice P w base T k sc) (GT : K_is_turned P w base T k st) (G : K_is_body P w base T k (sp_ib n)) (hs : n = 0 ∨ ∃ j, n = j + 1 ∧ sc = sp_is_choice j ∧ st = sp_is_turned S j) : K_is_body P w base T (k + 1) (sp_is_body n) :=
  okD T.F_is_body sc_is_body fun cdv A outer s H E B cs Q hr hl hs2 => ⟨_, d_is_body T (ok_are_sums T S) (by omega) (ok_is_call T S) (by omega) GC (Nat.le_refl _) GT (Nat.le_refl _) G (Nat.le_refl _) (ok_is_cond T 12 S S (Nat.le_refl _)) (by omega) hr, by
    obtain ⟨d, nd, cn, own, t, rfl, wf, hq⟩ := hs2
    have fin : ∀ {b : Bool} {env : DEnv}, b = bodyB nd cn (n + 1) own t d → Outs env [.none, .none, .none, .none] → ∃ cs' : List Cell, cs'.length = 4 ∧ Outs env cs' ∧ Q (.bl b) cs' := fun h o => ⟨_, rfl, o, hq _ h⟩
    cases d with
    | atm v => exact absurd wf.na (by intro h; cases h)
    | dcn v => exact absurd wf.na (by intro h; cases h)
    | ins n0 v => exact absurd wf.na (by intro h; cases h)
    | tup xs =>
      cases n with
      | zero => exact wf.elim
      | succ n =>
        rcases hs with e | ⟨j, e, rfl, rfl⟩
        · cases e
        obtain rfl : n = j := Nat.succ.inj e
        obtain ⟨lL, hh, hp⟩ := wf
        cases xs with
        | nil =>
          walk_at "w"
          walk_at "ei"
          exact fin rfl ⟨trivial, trivial, trivial, trivial, outs_nil⟩
        | cons x ds =>
          have l12 : ds.length ≤ 12 := Nat.le_trans (Nat.le_succ _) lL
          have hpn : ∀ d ∈ ds, Wf 12 n d := fun d m => hp d (List.mem_cons_of_mem _ m)
          have hpS : ∀ d ∈ ds, Wf 12 S d := fun d m => (hpn d m).mono (Nat.le_refl _) (by omega)
          have eql : ∀ j : Nat, decide (((ds.length + 1 : Nat) : Int) = ((j + 1 : Nat) : Int)) = decide (ds.length = j) := fun j => by
            rw [dec_nat]
            by_cases q : ds.length = j
            · rw [decide_eq_true q, decide_eq_true (by omega)]
            · rw [decide_eq_false q, decide_eq_false (by omega)]
          walk_at "w"
          walk_at "ei"
          refine ⟨x, atI_nat (j := 0) rfl, ?_⟩
          cases x with
          | atm v => exact absurd (hp (.atm v) List.mem_cons_self).na (by intro h; cases h)
          | dcn v => exact absurd (hp (.dcn v) List.mem_cons_self).na (by intro h; cases h)
          | ins n0 v => exact absurd (hp (.ins n0 v) List.mem_cons_self).na (by intro h; cases h)
          | str z =>
            walk_at "w"
            walk_at "ei"
            refine ⟨.str z, atI_nat (j := 0) rfl, ?_⟩
            rcases HDw_cases (hh z ds rfl) with rfl | rfl | rfl | rfl | h | rfl | rfl | h
            · walk_at "w"
              refine fin ?_ ⟨trivial, trivial, trivial, trivial, outs_nil⟩
              exact eql 0
            · walk_at "w"
              rw [cut_tail]
              refine ⟨_, atI_nat (j := 0) rfl, ?_⟩
              walk_at "w"
              refine ⟨.tup ds, 1, nd, own, rfl, AS.lst l12 hpS, fun v hv => ?_⟩
              walk_at "w"
              exact fin hv ⟨trivial, trivial, trivial, trivial, outs_nil⟩
            · walk_at "w"
              refine ⟨_, ds, nd, cn, own, rfl, hpS, fun v hv => ?_⟩
              walk_at "w"
              exact fin hv ⟨trivial, trivial, trivial, trivial, outs_nil⟩
            · walk_at "w"
              refine ⟨_, ds, nd, cn, own, t, rfl, fun d m => AS.of (hpn d m), fun v hv => ?_⟩
              walk_at "w"
              exact fin hv ⟨trivial, trivial, trivial, trivial, outs_nil⟩
            · rcases h with rfl | rfl
              all_goals
                walk_at "w"
                walk_at "ei"
                refine ⟨_, ds, nd, cn, own, t, rfl, hpn, fun v hv => ?_⟩
                walk_at "w"
                exact fin hv ⟨trivial, trivial, trivial, trivial, outs_nil⟩
            · walk_at "w"
              walk_at "ei"
              generalize hd : decide (((ds.length + 1 : Nat) : Int) = 3) = bb
              have hd : decide (((ds.length + 1 : Nat) : Int) = ((2 + 1 : Nat) : Int)) = bb := hd
              rw [eql] at hd
              have nv : bodyB nd cn (n + 1 + 1) own t (.tup (.str "both" :: ds)) = (decide (ds.length = 2) && ds.all (bodyB nd cn (n + 1) own t)) := rfl
              cases bb with
              | false =>
                walk_at "w"
                exact fin (by rw [nv, hd]; rfl) ⟨trivial, trivial, trivial, trivial, outs_nil⟩
              | true =>
                walk_at "w"
                rw [cut_tail]
                refine ⟨Nat.le_trans l12 (by decide), ?_⟩
                walk_at "w"
                refine body_comp1 n own t nd cn _ _ _ _ _ _ _ ds _ hpn fun bs hbs => ?_
                walk_at "w"
                refine ⟨bs, rfl, ?_⟩
                exact fin (by rw [nv, hd, hbs]; rfl) ⟨trivial, trivial, trivial, trivial, outs_nil⟩
            · walk_at "w"
              walk_at "ei"
              generalize hd : decide (((ds.length + 1 : Nat) : Int) = 4) = bb
              have hd : decide (((ds.length + 1 : Nat) : Int) = ((3 + 1 : Nat) : Int)) = bb := hd
              rw [eql] at hd
              cases bb with
              | false =>
                have h3 := of_decide_eq_false hd
                walk_at "w"
                refine fin ?_ ⟨trivial, trivial, trivial, trivial, outs_nil⟩
                show false = iteB _ nd own ds
                match ds, h3 with
                | [], _ => rfl
                | [_], _ => rfl
                | [_, _], _ => rfl
                | [_, _, _], h3 => exact absurd rfl h3
                | _ :: _ :: _ :: _ :: _, _ => rfl
              | true =>
                obtain ⟨c, a, b, rfl⟩ := len3 (of_decide_eq_true hd)
                have nv : bodyB nd cn (n + 1 + 1) own t (.tup [.str "if", c, a, b]) = (isC nd (own : Nat) c && (bodyB nd cn (n + 1) own t a && bodyB nd cn (n + 1) own t b)) := rfl
                walk_at "w"
                refine ⟨c, atI_nat (j := 1) rfl, ?_⟩
                walk_at "w"
                refine ⟨_, atI_nat (j := 0) rfl, ?_⟩
                walk_at "w"
                refine ⟨c, nd, own, rfl, hpS c List.mem_cons_self, fun v hv => ?_⟩
                cases v with
                | false =>
                  walk_at "w"
                  exact fin (by rw [nv, ← hv]; rfl) ⟨trivial, trivial, trivial, trivial, outs_nil⟩
                | true =>
                  walk_at "w"
                  refine ⟨show 2 ≤ sizeLine by decide, ?_⟩
                  walk_at "w"
                  refine body_comp2 n own t nd cn _ _ _ _ _ _ _ [a, b] _ (fun d m => hpn d (List.mem_cons_of_mem _ m)) fun bs hbs => ?_
                  walk_at "w"
                  refine ⟨bs, rfl, ?_⟩
                  refine fin ?_ ⟨trivial, trivial, trivial, trivial, outs_nil⟩
                  rw [nv, ← hv, hbs]
                  show (_ && (_ && true)) = (true && _)
                  rw [Bool.and_true, Bool.true_and]
            · rcases OTH_cases h with rfl | rfl | rfl | rfl | rfl | rfl | rfl | rfl | rfl | rfl | rfl | rfl | rfl | rfl | rfl | rfl | rfl | rfl | rfl | rfl | rfl | rfl | rfl | rfl | rfl | rfl
              all_goals
                walk_at "w"
                walk_at "ei"
                exact fin rfl ⟨trivial, trivial, trivial, trivial, outs_nil⟩
          | _ =>
            walk_at "w"
            walk_at "ei"
            exact fin rfl ⟨trivial, trivial, trivial, trivial, outs_nil⟩
    | _ =>
      walk_at "w"
      walk_at "ei"
      exact fin rfl ⟨trivial, trivial, trivial, trivial, outs_nil⟩⟩
theorem ok_is_body (T : Txt K w mg) (S : Nat) : ∀ n : Nat, n ≤ S → K_is_body P w base T (3 * S + 5 + 2 * n) (sp_is_body n)
  | 0, h => body_step (S := S) T h (Nat.le_refl _) ((no_is_choice T).up (show 1 ≤ 3 * S + 4 by omega)) ((no_is_turned T).up (show 1 ≤ 3 * S + 4 by omega)) ((no_is_body T).up (show 1 ≤ 3 * S + 4 by omega)) (.inl rfl)
  | n + 1, h => body_step (S := S) T h (show 3 * S + 4 ≤ 3 * S + 5 + 2 * n + 1 by omega) (ok_is_choice T (ok_is_body T S n (by omega))) (ok_is_turned T (show n ≤ S by omega) (show 2 * S + 3 ≤ 3 * S + 5 + 2 * n by omega) (ok_is_body T S n (by omega))) ((ok_is_body T S n (by omega)).up (show 3 * S + 5 + 2 * n ≤ 3 * S + 5 + 2 * n + 1 by omega)) (.inr ⟨n, rfl, rfl, rfl⟩)
theorem atI_in {xs : List D} {r : Int} (h0 : 0 ≤ r) (h1 : r < (xs.length : Int)) : ∃ x, atI xs r = some x ∧ x ∈ xs := by
  have h3 : r.toNat < xs.length := by omega
  refine ⟨xs[r.toNat], ?_, List.getElem_mem _⟩
  have := atI_nat (xs := xs) (List.getElem?_eq_getElem h3)
  rwa [Int.toNat_of_nonneg h0] at this
/-- all of a row -/
def AllP (p : D → Prop) : List D → Prop
  | [] => True
  | x :: xs => p x ∧ AllP p xs
theorem AllP.mem {p : D → Prop} : ∀ {xs : List D}, AllP p xs → ∀ x ∈ xs, p x
  | _ :: _, h, x, m => by
    rcases List.mem_cons.mp m with e | m
    · rw [e]; exact h.1
    · exact AllP.mem h.2 x m
theorem AllP.of {p : D → Prop} : ∀ {xs : List D}, (∀ x ∈ xs, p x) → AllP p xs
  | [], _ => trivial
  | _ :: _, h => ⟨h _ List.mem_cons_self, AllP.of fun x m => h x (List.mem_cons_of_mem _ m)⟩
/-- an item is picked -/
theorem pick {xs : List D} {r : Int} {G : D → Prop} (p : D → Prop) (h0 : 0 ≤ r) (h1 : r < (xs.length : Int)) (hp : AllP p xs) (k : ∀ x, p x → G x) : ∃ d, atI xs r = some d ∧ G d := by
  obtain ⟨x, hx, m⟩ := atI_in h0 h1
  exact ⟨x, hx, k x (hp.mem x m)⟩
def hdB : List D → Bool
  | .str z :: _ => HD.contains z
  | _ => true
/-- Wf, reckoned -/
def wfB (L : Nat) : Nat → D → Bool
  | _, .atm _ => false
  | _, .scr _ => false
  | _, .dcn _ => false
  | _, .ins _ _ => false
  | 0, .tup _ => false
  | n + 1, .tup ds => decide (ds.length ≤ L) && (hdB ds && ds.all (wfB L n))
  | _, _ => true
theorem wfB_wf {L : Nat} : ∀ {n : Nat} {d : D}, wfB L n d = true → Wf L n d
  | 0, .tup ds, h => by cases h
  | n + 1, .tup ds, h => by
    have h : (decide (ds.length ≤ L) && (hdB ds && ds.all (wfB L n))) = true := h
    rw [Bool.and_eq_true, Bool.and_eq_true, decide_eq_true_eq, List.all_eq_true] at h
    exact ⟨h.1, fun z r e => by subst e; exact h.2.1, fun d m => wfB_wf (h.2.2 d m)⟩
  | n, .atm v, h => by cases n <;> cases h
  | n, .scr v, h => by cases n <;> cases h
  | n, .dcn v, h => by cases n <;> cases h
  | n, .ins n0 v, h => by cases n <;> cases h
  | n, .non, _ => by cases n <;> trivial
  | n, .bl _, _ => by cases n <;> trivial
  | n, .int _, _ => by cases n <;> trivial
  | n, .str _, _ => by cases n <;> trivial
  | n, .lst _, _ => by cases n <;> trivial
  | n, .dct _, _ => by cases n <;> trivial
theorem own_s {nd : List (Str × Str)} {r m : Int} (h0 : 0 ≤ r) (h1 : r < m) : isS nd m (.tup [.str "own", .int r]) = true := by
  show (true && ((decide (0 ≤ r) && decide (r < m)) && true)) = true
  rw [decide_eq_true h0, decide_eq_true h1]; rfl
theorem many_s {nd : List (Str × Str)} {m : Int} {a : D} (h : isS nd m a = true) : isS nd m (.tup [.str "many", a]) = true := by
  show (true && (isS nd m a && true)) = true
  rw [h]; rfl
theorem Wf.two {L n : Nat} {z : Str} {a b : D} (hL : 3 ≤ L) (hz : HD.contains z = true) (ha : Wf L n a) (hb : Wf L n b) : Wf L (n + 1) (.tup [.str z, a, b]) :=
  ⟨hL, fun z' r e => by cases e; exact hz, fun d m => by
    rcases List.mem_cons.mp m with e | m
    · rw [e]; cases n <;> trivial
    · rcases List.mem_cons.mp m with e | m
      · rw [e]; exact ha
      · rw [List.mem_singleton.mp m]; exact hb⟩
theorem Wf.one {L n : Nat} {z : Str} {a : D} (hL : 2 ≤ L) (hz : HD.contains z = true) (ha : Wf L n a) : Wf L (n + 1) (.tup [.str z, a]) :=
  ⟨hL, fun z' r e => by cases e; exact hz, fun d m => by
    rcases List.mem_cons.mp m with e | m
    · rw [e]; cases n <;> trivial
    · rw [List.mem_singleton.mp m]; exact ha⟩
/-! ### functions, of any data -/
def NM : Nat := 16
def NB : Nat := 40
/-- what may be asked for as mosts -/
def mstJ : D → Bool
  | .tup ms => ms.all (wfB 12 NM)
  | d => lfB d
/-- what may be asked for as a row -/
def rowJ : D → Bool
  | .tup [a, m, b] => lfB a && (mstJ m && wfB 12 NB b)
  | d => noAtm d
theorem rowJ_na {d : D} (h : rowJ d = true) : noAtm d = true := by
  cases d with
  | tup xs => rfl
  | _ => exact h
def oneB (nd : List (Str × Str)) (o : D) : Bool := mostB nd (NM + 1) o && decide (cnt o ≤ 12)
def placeB (nd : List (Str × Str)) : D → Bool
  | .tup ms => (decide (1 ≤ ms.length) && decide (ms.length ≤ 3)) && ms.all (oneB nd)
  | _ => false
def headB (nd : List (Str × Str)) : D → Bool
  | .tup [a, m, _] => (nameB a && decide (kindN nd a = "")) && placeB nd m
  | _ => false
set_option maxHeartbeats 8000000 in
theorem head_comp (nd : List (Str × Str)) (s1 s2 : FSpec) (c0 : Cell) : ∀ (ds : List D) (Q : List D → DEnv → Prop), (∀ d ∈ ds, Wf 12 NM d) → (∀ bs : List Bool, bs.all id = ds.all (oneB nd) → Q (bs.map D.bl) [c0, .val (ndD nd), .none]) →
    mapL [2] (gN 2) qYes (t_is_head_1 s1 s2 (sp_is_most NM) (sp_count_parts NM)) ds [c0, .val (ndD nd), .none] Q
  | [], Q, hk, h => by
    walk_at "mn"
    exact h [] rfl
  | d :: r, Q, hk, h => by
    have wd := hk d List.mem_cons_self
    have ih := fun b (e : b = oneB nd d) => head_comp nd s1 s2 c0 r (fun xs env => Q (.bl b :: xs) env) (fun d m => hk d (List.mem_cons_of_mem _ m)) fun bs hbs => h (b :: bs) (by rw [List.all_cons, List.all_cons, hbs, ← e]; rfl)
    walk_at "mc"
    refine ⟨d, nd, rfl, wd, fun v hv => ?_⟩
    cases v with
    | false =>
      walk_at "w"
      exact ih false (by rw [oneB, ← hv]; rfl)
    | true =>
      walk_at "w"
      refine ⟨d, rfl, wd, fun v hv2 => ?_⟩
      walk_at "w"
      refine ih _ ?_
      rw [oneB, ← hv, hv2]
      show decide (((cnt d : Nat) : Int) ≤ 12) = (true && decide (cnt d ≤ 12))
      rw [Bool.true_and]
      by_cases q : cnt d ≤ 12
      · rw [decide_eq_true q, decide_eq_true (by omega)]
      · rw [decide_eq_false q, decide_eq_false (by omega)]
def sp_is_head : FSpec := fun cs Q => ∃ (d : D) (nd : List (Str × Str)), cs = [.val d, .val (ndD nd)] ∧ rowJ d = true ∧ ∀ b, b = headB nd d → Q (.bl b) [.none, .none]
theorem wfB_all {L n : Nat} {ds : List D} (h : ds.all (wfB L n) = true) : ∀ d ∈ ds, Wf L n d := fun d m => wfB_wf (List.all_eq_true.mp h d m)
set_option maxHeartbeats 8000000 in
theorem ok_is_head (T : Txt K w mg) : K_is_head P w base T (3 * NM + 4) sp_is_head :=
  okD T.F_is_head sc_is_head fun cdv A outer s H E B cs Q hr hl hs => ⟨_, d_is_head T (ok_is_name T) (by decide) (ok_kind_of T) (by decide) (ok_is_most T NM NM (Nat.le_refl _)) (by decide) (ok_count_parts T NM) (by decide) hr, by
    obtain ⟨d, nd, rfl, hj, hq⟩ := hs
    have fin : ∀ {b : Bool} {env : DEnv}, b = headB nd d → Outs env [.none, .none] → ∃ cs' : List Cell, cs'.length = 2 ∧ Outs env cs' ∧ Q (.bl b) cs' := fun h o => ⟨_, rfl, o, hq _ h⟩
    have na := rowJ_na hj
    cases d with
    | atm v => cases na
    | dcn v => cases na
    | ins n0 v => cases na
    | tup xs =>
      match xs, hj with
      | [], _ =>
        walk_at "w"
        walk_at "ei"
        exact fin rfl ⟨trivial, trivial, outs_nil⟩
      | [x], _ =>
        walk_at "w"
        walk_at "ei"
        exact fin rfl ⟨trivial, trivial, outs_nil⟩
      | [x, y], _ =>
        walk_at "w"
        walk_at "ei"
        exact fin rfl ⟨trivial, trivial, outs_nil⟩
      | [a, m, b], hj =>
        have hj : (lfB a && (mstJ m && wfB 12 NB b)) = true := hj
        rw [Bool.and_eq_true, Bool.and_eq_true, lfB, Bool.and_eq_true] at hj
        obtain ⟨⟨na1, na2⟩, hm, _⟩ := hj
        have nv : headB nd (.tup [a, m, b]) = ((nameB a && decide (kindN nd a = "")) && placeB nd m) := rfl
        walk_at "w"
        walk_at "ei"
        rename_i v hv
        cases v with
        | false =>
          walk_at "w"
          exact fin (by rw [nv, ← hv]; rfl) ⟨trivial, trivial, outs_nil⟩
        | true =>
          walk_at "w"
          refine ⟨a, atI_nat (j := 0) rfl, ?_⟩
          walk_at "w"
          refine ⟨nd, a, rfl, na1, fun z hz => ?_⟩
          subst hz
          walk_at "w"
          cases hz0 : decide (kindN nd a = "") with
          | false =>
            walk_at "w"
            exact fin (by rw [nv, ← hv, hz0]; rfl) ⟨trivial, trivial, outs_nil⟩
          | true =>
            have nv2 : headB nd (.tup [a, m, b]) = placeB nd m := by rw [nv, ← hv, hz0]; rfl
            walk_at "w"
            refine ⟨m, atI_nat (j := 1) rfl, ?_⟩
            cases m with
            | atm v => cases hm
            | dcn v => cases hm
            | ins n0 v => cases hm
            | tup ms =>
              have nv3 : placeB nd (.tup ms) = ((decide (1 ≤ ms.length) && decide (ms.length ≤ 3)) && ms.all (oneB nd)) := rfl
              walk_at "w"
              walk_at "ei"
              cases e1 : decide ((1 : Int) ≤ (ms.length : Nat)) with
              | false =>
                walk_at "w"
                refine fin ?_ ⟨trivial, trivial, outs_nil⟩
                rw [nv2, nv3, decide_eq_false (show ¬ 1 ≤ ms.length from fun h => of_decide_eq_false e1 (by omega))]; rfl
              | true =>
                walk_at "w"
                walk_at "ei"
                cases e2 : decide (((ms.length : Nat) : Int) ≤ 3) with
                | false =>
                  walk_at "w"
                  refine fin ?_ ⟨trivial, trivial, outs_nil⟩
                  rw [nv2, nv3, decide_eq_false (show ¬ ms.length ≤ 3 from fun h => of_decide_eq_false e2 (by omega)), Bool.and_false, Bool.false_and]
                | true =>
                  have h3 : ms.length ≤ 3 := by have := of_decide_eq_true e2; omega
                  have h1 : 1 ≤ ms.length := by have := of_decide_eq_true e1; omega
                  walk_at "w"
                  walk_at "ei"
                  refine ⟨Nat.le_trans h3 (by decide), ?_⟩
                  walk_at "w"
                  refine head_comp nd _ _ _ ms _ (wfB_all hm) fun vs hvs => ?_
                  walk_at "w"
                  refine ⟨vs, rfl, ?_⟩
                  exact fin (by rw [nv2, nv3, decide_eq_true h1, decide_eq_true h3, hvs]; rfl) ⟨trivial, trivial, outs_nil⟩
            | _ =>
              walk_at "w"
              walk_at "ei"
              exact fin (by rw [nv2]; rfl) ⟨trivial, trivial, outs_nil⟩
      | x :: y :: u :: v :: r, _ =>
        walk_at "w"
        walk_at "ei"
        generalize hd : decide (((r.length + 1 + 1 + 1 + 1 : Nat) : Int) = 3) = bb
        rw [decide_eq_false (by omega)] at hd
        subst hd
        walk_at "w"
        exact fin rfl ⟨trivial, trivial, outs_nil⟩
    | _ =>
      walk_at "w"
      walk_at "ei"
      exact fin rfl ⟨trivial, trivial, outs_nil⟩⟩
def lenM : D → Nat
  | .tup [_, .tup ms, _] => ms.length
  | _ => 0
def bdyB (nd : List (Str × Str)) (cn : List Nat) : D → Bool
  | .tup [_, .tup ms, b] => bodyB nd cn (NB + 1) ms.length 0 b && (decide (cnt b ≤ 60) && decide (dpt b ≤ 12))
  | _ => false
def funsB (nd : List (Str × Str)) : D → Bool
  | .tup xs => (decide (1 ≤ xs.length) && decide (xs.length ≤ 4)) && ((xs.all (headB nd) && decide (uq (xs.map name1) = xs.length)) && xs.all (bdyB nd (xs.map lenM)))
  | _ => false
theorem placeB_tup {nd : List (Str × Str)} {m : D} (h : placeB nd m = true) : ∃ ms, m = .tup ms := by
  cases m with
  | tup ms => exact ⟨ms, rfl⟩
  | _ => cases h
theorem headB_of {nd : List (Str × Str)} {x : D} (h : headB nd x = true) : ∃ z ms b, x = .tup [.str z, .tup ms, b] := by
  cases x with
  | tup xs =>
    match xs with
    | [] => cases h
    | [_] => cases h
    | [_, _] => cases h
    | [a, m, b] =>
      have h : ((nameB a && decide (kindN nd a = "")) && placeB nd m) = true := h
      rw [Bool.and_eq_true, Bool.and_eq_true] at h
      obtain ⟨z, rfl⟩ := nameB_str h.1.1
      obtain ⟨ms, rfl⟩ := placeB_tup h.2
      exact ⟨z, ms, b, rfl⟩
    | _ :: _ :: _ :: _ :: _ => cases h
  | _ => cases h
def fnsJ : D → Bool
  | .tup xs => xs.all rowJ
  | d => noAtm d
section
variable (nd : List (Str × Str)) (s2 s3 s4 : FSpec) (c0 c2 c3 c4 c5 : Cell)
set_option maxHeartbeats 4000000 in
theorem funs_comp1 : ∀ (ds : List D) (Q : List D → DEnv → Prop), (∀ d ∈ ds, rowJ d = true) → (∀ bs : List Bool, bs.all id = ds.all (headB nd) → Q (bs.map D.bl) [c0, .val (ndD nd), c2, c3, c4, c5, .none]) →
    mapL [6] (gN 6) qYes (t_are_functions_1 sp_is_head s2 s3 s4) ds [c0, .val (ndD nd), c2, c3, c4, c5, .none] Q
  | [], Q, hk, h => by
    walk_at "mn"
    exact h [] rfl
  | d :: r, Q, hk, h => by
    walk_at "mc"
    refine ⟨d, nd, rfl, hk d List.mem_cons_self, fun v hv => ?_⟩
    walk_at "w"
    exact funs_comp1 r _ (fun d m => hk d (List.mem_cons_of_mem _ m)) fun bs hbs => h (v :: bs) (by rw [List.all_cons, List.all_cons, hbs, hv]; rfl)
set_option maxHeartbeats 4000000 in
theorem funs_comp2 (c1 : Cell) (s1 : FSpec) : ∀ (ds : List D) (Q : List D → DEnv → Prop), ds.all (headB nd) = true → Q ((ds.map name1).map D.str) [c0, c1, c2, c3, c4, c5, .none] →
    mapL [6] (gN 6) qYes (t_are_functions_2 s1 s2 s3 s4) ds [c0, c1, c2, c3, c4, c5, .none] Q
  | [], Q, hk, h => by
    walk_at "mn"
    exact h
  | d :: r, Q, hk, h => by
    rw [nall_cons, Bool.and_eq_true] at hk
    obtain ⟨z, ms, b, rfl⟩ := headB_of hk.1
    walk_at "mc"
    refine ⟨_, atI_nat (j := 0) rfl, ?_⟩
    walk_at "w"
    exact funs_comp2 c1 s1 r _ hk.2 h
set_option maxHeartbeats 4000000 in
theorem funs_comp3 (c1 : Cell) (s1 : FSpec) : ∀ (ds : List D) (Q : List D → DEnv → Prop), ds.all (headB nd) = true → Q ((ds.map lenM).map fun n => .int (n : Nat)) [c0, c1, c2, c3, c4, c5, .none] →
    mapL [6] (gN 6) qYes (t_are_functions_3 s1 s2 s3 s4) ds [c0, c1, c2, c3, c4, c5, .none] Q
  | [], Q, hk, h => by
    walk_at "mn"
    exact h
  | d :: r, Q, hk, h => by
    rw [nall_cons, Bool.and_eq_true] at hk
    obtain ⟨z, ms, b, rfl⟩ := headB_of hk.1
    walk_at "mc"
    refine ⟨_, atI_nat (j := 1) rfl, ?_⟩
    walk_at "w"
    exact funs_comp3 c1 s1 r _ hk.2 h
set_option maxHeartbeats 8000000 in
theorem funs_loop (cn : List Nat) (c6 : Cell) (DD : DEnds) (s1 : FSpec) : ∀ (xs : List D) (c3 c4 c5 : Cell), xs.all (headB nd) = true → (∀ x ∈ xs, rowJ x = true) →
    (∀ c3 c4 c5, xs.all (bdyB nd cn) = true → DD.nx [c0, .val (ndD nd), .val (hD nd cn), c3, c4, c5, c6]) → (∀ c3 c4 c5, xs.all (bdyB nd cn) = false → DD.rt (.bl false) [c0, .val (ndD nd), .val (hD nd cn), c3, c4, c5, c6]) →
    forL (fun x DD env => gTupD 3 (gConsD (gN 3) (gConsD (gN 4) (gConsD (gN 5) gNilD))) x env fun env2 => t_are_functions_4 s1 (sp_is_body NB) (sp_count_parts NB) (sp_deepness NB) DD env2) xs DD [c0, .val (ndD nd), .val (hD nd cn), c3, c4, c5, c6]
  | [], c3, c4, c5, _, _, h1, _ => by
    walk_at "fn"
    exact h1 _ _ _ rfl
  | x :: r, c3, c4, c5, hh, hj, h1, h2 => by
    rw [nall_cons, Bool.and_eq_true] at hh
    have jx := hj x List.mem_cons_self
    have bad : bdyB nd cn x = false → (x :: r).all (bdyB nd cn) = false := fun e => by rw [nall_cons, e]; rfl
    have good : bdyB nd cn x = true → (x :: r).all (bdyB nd cn) = r.all (bdyB nd cn) := fun e => by rw [nall_cons, e]; rfl
    have ih := fun c3 c4 c5 => funs_loop cn c6 DD s1 r c3 c4 c5 hh.2 (fun y m => hj y (List.mem_cons_of_mem _ m))
    obtain ⟨z, ms, b, rfl⟩ := headB_of hh.1
    have jx : (lfB (.str z) && (mstJ (.tup ms) && wfB 12 NB b)) = true := jx
    rw [Bool.and_eq_true, Bool.and_eq_true] at jx
    have wb : Wf 12 NB b := wfB_wf jx.2.2
    have nv : bdyB nd cn (.tup [.str z, .tup ms, b]) = (bodyB nd cn (NB + 1) ms.length 0 b && (decide (cnt b ≤ 60) && decide (dpt b ≤ 12))) := rfl
    walk_at "fc"
    refine ⟨rfl, rfl, ?_⟩
    walk_at "w"
    refine ⟨b, nd, cn, ms.length, 0, rfl, wb, fun v hv => ?_⟩
    cases v with
    | false =>
      walk_at "w"
      exact h2 _ _ _ (bad (by rw [nv, ← hv]; rfl))
    | true =>
      walk_at "w"
      refine ⟨b, rfl, wb, fun v hc => ?_⟩
      subst hc
      walk_at "w"
      cases e1 : decide ((60 : Int) < (cnt b : Nat)) with
      | true =>
        walk_at "w"
        exact h2 _ _ _ (bad (by rw [nv, ← hv, decide_eq_false (show ¬ cnt b ≤ 60 by have := of_decide_eq_true e1; omega)]; rfl))
      | false =>
        walk_at "w"
        refine ⟨b, rfl, wb, fun v hc => ?_⟩
        subst hc
        walk_at "w"
        have l1 : cnt b ≤ 60 := by have := of_decide_eq_false e1; omega
        cases e2 : decide ((12 : Int) < (dpt b : Nat)) with
        | true =>
          walk_at "w"
          exact h2 _ _ _ (bad (by rw [nv, ← hv, decide_eq_true l1, decide_eq_false (show ¬ dpt b ≤ 12 by have := of_decide_eq_true e2; omega)]; rfl))
        | false =>
          have l2 : dpt b ≤ 12 := by have := of_decide_eq_false e2; omega
          have g := good (by rw [nv, ← hv, decide_eq_true l1, decide_eq_true l2]; rfl)
          walk_at "w"
          exact ih _ _ _ (fun c3 c4 c5 e => h1 c3 c4 c5 (by rw [g]; exact e)) (fun c3 c4 c5 e => h2 c3 c4 c5 (by rw [g]; exact e))
end
def sp_are_functions : FSpec := fun cs Q => ∃ (d : D) (nd : List (Str × Str)), cs = [.val d, .val (ndD nd)] ∧ fnsJ d = true ∧ ∀ b, b = funsB nd d → Q (.bl b) [.none, .none]
set_option maxHeartbeats 8000000 in
theorem ok_are_functions (T : Txt K w mg) : K_are_functions P w base T (5 * NB + 6) sp_are_functions :=
  okD T.F_are_functions sc_are_functions fun cdv A outer s H E B cs Q hr hl hs => ⟨_, d_are_functions T (ok_is_head T) (by decide) (ok_is_body T NB NB (Nat.le_refl _)) (by decide) (ok_count_parts T NB) (by decide) (ok_deepness T NB) (by decide) hr, by
    obtain ⟨d, nd, rfl, hj, hq⟩ := hs
    have fin : ∀ {b : Bool} {env : DEnv}, b = funsB nd d → Outs env [.none, .none] → ∃ cs' : List Cell, cs'.length = 2 ∧ Outs env cs' ∧ Q (.bl b) cs' := fun h o => ⟨_, rfl, o, hq _ h⟩
    cases d with
    | atm v => cases hj
    | dcn v => cases hj
    | ins n0 v => cases hj
    | tup xs =>
      have hx : ∀ x ∈ xs, rowJ x = true := by
        have hj : xs.all rowJ = true := hj
        rwa [List.all_eq_true] at hj
      have nv : funsB nd (.tup xs) = ((decide (1 ≤ xs.length) && decide (xs.length ≤ 4)) && ((xs.all (headB nd) && decide (uq (xs.map name1) = xs.length)) && xs.all (bdyB nd (xs.map lenM)))) := rfl
      walk_at "w"
      walk_at "ei"
      cases e1 : decide ((1 : Int) ≤ (xs.length : Nat)) with
      | false =>
        walk_at "w"
        refine fin ?_ ⟨trivial, trivial, outs_nil⟩
        rw [nv, decide_eq_false (show ¬ 1 ≤ xs.length from fun h => of_decide_eq_false e1 (by omega))]; rfl
      | true =>
        walk_at "w"
        walk_at "ei"
        cases e2 : decide (((xs.length : Nat) : Int) ≤ 4) with
        | false =>
          walk_at "w"
          refine fin ?_ ⟨trivial, trivial, outs_nil⟩
          rw [nv, decide_eq_false (show ¬ xs.length ≤ 4 from fun h => of_decide_eq_false e2 (by omega)), Bool.and_false, Bool.false_and]
        | true =>
          have h4 : xs.length ≤ 4 := by have := of_decide_eq_true e2; omega
          have h1 : 1 ≤ xs.length := by have := of_decide_eq_true e1; omega
          have sz : xs.length ≤ sizeLine := Nat.le_trans h4 (by decide)
          have nv1 : funsB nd (.tup xs) = ((xs.all (headB nd) && decide (uq (xs.map name1) = xs.length)) && xs.all (bdyB nd (xs.map lenM))) := by rw [nv, decide_eq_true h1, decide_eq_true h4]; rfl
          walk_at "w"
          walk_at "ei"
          refine funs_comp1 nd _ _ _ _ _ _ _ _ xs _ hx fun vs hvs => ?_
          walk_at "w"
          refine ⟨vs, rfl, ?_⟩
          cases hb : vs.all id with
          | false =>
            walk_at "w"
            exact fin (by rw [nv1, ← hvs, hb]; rfl) ⟨trivial, trivial, outs_nil⟩
          | true =>
            have hh : xs.all (headB nd) = true := by rw [← hvs, hb]
            walk_at "w"
            walk_at "ei"
            refine funs_comp2 nd _ _ _ _ _ _ _ _ _ _ xs _ hh ?_
            walk_at "w"
            refine ⟨xs.map name1, rfl, by rw [List.length_map]; omega, ?_⟩
            walk_at "w"
            have e3 : decide (((uq (xs.map name1) : Nat) : Int) = ((xs.length : Nat) : Int)) = decide (uq (xs.map name1) = xs.length) := dec_nat _ _
            rw [e3]
            cases hu : decide (uq (xs.map name1) = xs.length) with
            | false =>
              walk_at "w"
              exact fin (by rw [nv1, hh, hu]; rfl) ⟨trivial, trivial, outs_nil⟩
            | true =>
              have nv2 : funsB nd (.tup xs) = xs.all (bdyB nd (xs.map lenM)) := by rw [nv1, hh, hu]; rfl
              walk_at "w"
              walk_at "ei"
              refine funs_comp3 nd _ _ _ _ _ _ _ _ _ _ xs _ hh ?_
              walk_at "w"
              walk_at "ei"
              refine funs_loop nd _ (xs.map lenM) _ _ _ xs _ _ _ hh hx (fun c3 c4 c5 e => ?_) (fun c3 c4 c5 e => ?_)
              · walk_at "w"
                exact fin (by rw [nv2, e]) ⟨trivial, trivial, outs_nil⟩
              · exact fin (by rw [nv2, e]) ⟨trivial, trivial, outs_nil⟩
    | _ =>
      walk_at "w"
      walk_at "ei"
      exact fin rfl ⟨trivial, trivial, outs_nil⟩⟩
/-- whether these are a right program -/
def progB (n f : D) : Bool := needsB n && funsB (ndOf n) f
def sp_program_of : FSpecX := fun cs Q Qx => ∃ n f : D, cs = [.val n, .val f] ∧ naB 2 n = true ∧ fnsJ f = true ∧ (progB n f = true → Q (.tup [n, f]) [.none, .none]) ∧ (progB n f = false → Qx ⟨"NoProgram", []⟩ [.none, .none])
set_option maxHeartbeats 8000000 in
theorem ok_program_of (T : Txt K w mg) : K_program_of P w base T (5 * NB + 7) sp_program_of :=
  okX T.F_program_of sc_program_of fun cdv A outer s H E B cs Q Qx hr hl hs xt pw => ⟨_, d_program_of T (ok_are_needs T) (by decide) (ok_are_functions T) (by decide) hr xt pw, by
    obtain ⟨n, f, rfl, hn, hf, hq, hx⟩ := hs
    walk_at "w"
    refine ⟨n, rfl, hn, fun v hv => ?_⟩
    cases v with
    | false =>
      walk_at "w"
      exact ⟨[.none, .none], rfl, ⟨trivial, trivial, outs_nil⟩, hx (by rw [progB, ← hv]; rfl)⟩
    | true =>
      have en := needs_nd hv.symm
      walk_at "w"
      refine ⟨f, ndOf n, by rw [← en]; rfl, hf, fun v hv2 => ?_⟩
      cases v with
      | false =>
        walk_at "w"
        exact ⟨[.none, .none], rfl, ⟨trivial, trivial, outs_nil⟩, hx (by rw [progB, ← hv, ← hv2]; rfl)⟩
      | true =>
        walk_at "w"
        walk_at "ei"
        exact ⟨[.none, .none], rfl, ⟨trivial, trivial, outs_nil⟩, hq (by rw [progB, ← hv, ← hv2]; rfl)⟩⟩
def sp_l_told : FSpec := fun cs Q => ∃ n f : D, cs = [.val n, .val f] ∧ naB 2 n = true ∧ fnsJ f = true ∧ (progB n f = true → Q (.str "made") [.none, .none]) ∧ (progB n f = false → Q (.str "refused") [.none, .none])
set_option maxHeartbeats 8000000 in
theorem ok_l_told (T : Txt K w mg) : K_l_told P w base T (5 * NB + 8) sp_l_told :=
  okD T.F_l_told sc_l_told fun cdv A outer s H E B cs Q hr hl hs => ⟨_, d_l_told T (ok_program_of T) (Nat.le_refl _) hr, by
    obtain ⟨n, f, rfl, hn, hf, hq, hx⟩ := hs
    cases hb : progB n f with
    | true =>
      walk_at "w"
      refine ⟨n, f, rfl, hn, hf, fun _ => ?_, fun h => ?_⟩
      · exact ⟨[.none, .none], rfl, ⟨trivial, trivial, outs_nil⟩, hq hb⟩
      · rw [hb] at h; cases h
    | false =>
      walk_at "w"
      refine ⟨n, f, rfl, hn, hf, fun h => ?_, fun _ => ?_⟩
      · rw [hb] at h; cases h
      · refine ⟨rfl, fun a => ?_⟩
        walk_at "w"
        exact ⟨[.none, .none], rfl, ⟨trivial, trivial, outs_nil⟩, hx hb⟩⟩
def sp_l_pen : FSpecO := fun cs Q => ∃ xs : List Int, cs = [.val (.scr (xs.map D.int))] ∧ Q (.lst [.scr (xs.map D.int), .int 0, .int 0]) [.none]
set_option maxHeartbeats 4000000 in
theorem ok_l_pen (T : Txt K w mg) : K_l_pen P w base T 1 sp_l_pen :=
  okO T.F_l_pen sc_l_pen fun cdv A outer s H E B cs Q hr hl hs => ⟨_, d_l_pen T hr, by
    obtain ⟨xs, rfl, hq⟩ := hs
    walk_at "w"
    walk_at "ei"
    exact ⟨[.none], rfl, ⟨trivial, outs_nil⟩, hq⟩⟩
def sp_l_take : FSpec := fun cs Q => ∃ m : Int, cs = [.opq false PenS, .val (.int m)] ∧ 0 < m ∧ m < 1073741824 ∧ ∀ r, 0 ≤ r → r < m → Q (.int r) [.opq false PenS, .none]
set_option maxHeartbeats 4000000 in
theorem ok_l_take (T : Txt K w mg) : K_l_take P w base T 1 sp_l_take :=
  okD T.F_l_take sc_l_take fun cdv A outer s H E B cs Q hr hl hs => ⟨_, d_l_take T hr, by
    obtain ⟨m, rfl, h0, h1, hq⟩ := hs
    walk_at "w"
    rintro c ⟨xs, i, j, rfl⟩
    walk_at "w"
    walk_at "ei"
    have fin : ∀ (i j r : Int) (rest : List Cell), 0 ≤ r → r < m → ∃ cs' : List Cell, cs'.length = 2 ∧ Outs (Cell.own false (OC.lst [D.scr (List.map D.int xs), D.int i, D.int j]) :: Cell.val (D.int m) :: rest) cs' ∧ Q (.int r) cs' :=
      fun i j r rest h0 h1 => ⟨[.opq false PenS, .none], rfl, ⟨⟨xs, _, _, rfl⟩, trivial, outs_nil⟩, hq r h0 h1⟩
    walk_at "sp"
    · walk_at "ei"
      walk_at "sp"
      · rename_i hlen
        walk_at "ei"
        obtain ⟨x, hx, hm⟩ := atI_mod (i := i) hlen
        obtain ⟨c, _, rfl⟩ := List.mem_map.mp hm
        refine ⟨_, hx, ?_⟩
        walk_at "w"
        walk_at "ei"
        walk_at "sp"
        · walk_at "ei"
          exact fin _ _ _ _ (Int.emod_nonneg _ (by omega)) (Int.emod_lt_of_pos _ h0)
        · walk_at "ei"
          walk_at "sp"
          · walk_at "ei"
            exact fin _ _ _ _ (Int.emod_nonneg _ (by omega)) (Int.emod_lt_of_pos _ h0)
          · walk_at "ei"
            exact fin _ _ _ _ (Int.emod_nonneg _ (by omega)) (Int.emod_lt_of_pos _ h0)
      · walk_at "ei"
        walk_at "sp"
        · walk_at "ei"
          exact fin _ _ _ _ (Int.emod_nonneg _ (by omega)) (Int.emod_lt_of_pos _ h0)
        · walk_at "ei"
          exact fin _ _ _ _ (Int.emod_nonneg _ (by omega)) (Int.emod_lt_of_pos _ h0)
    · walk_at "ei"
      exact fin _ _ _ _ (Int.emod_nonneg _ (by omega)) (Int.emod_lt_of_pos _ h0)⟩
end
end Y

namespace Y
open PySem PySem.Spec PyProof.Rows L2 L2.DL
section
variable {P : Program} {w : World} {K : PySem.W.Frag} {mg : Str → Option Value} {base : Heap}
/-! ### the law's data -/
theorem pickB {xs : List D} {r : Int} {G : D → Prop} (f : D → Bool) (h0 : 0 ≤ r) (h1 : r < (xs.length : Int)) (hp : xs.all f = true) (k : ∀ x, f x = true → G x) : ∃ d, atI xs r = some d ∧ G d := by
  obtain ⟨x, hx, m⟩ := atI_in h0 h1
  exact ⟨x, hx, k x (List.all_eq_true.mp hp x m)⟩
def ndA (a b c d : Str) : List (Str × Str) := [(a, "row"), (b, "number"), (c, "text"), (d, "tree")]
abbrev N4 := Str × Str × Str × Str
def n4L : List N4 := [("bars", "mostq", "lettersq", "kinq"), ("qaaa", "qaab", "qab", "qa"), ("least", "fun", "ways", "up")]
/-- the needs of four names -/
abbrev ndq (q : N4) : List (Str × Str) := [(q.1, "row"), (q.2.1, "number"), (q.2.2.1, "text"), (q.2.2.2, "tree")]
theorem n4_len {q : N4} (h : q ∈ n4L) : ∀ p ∈ ndq q, p.1.length ≤ 8 := by
  revert q
  decide +kernel
def wd (z : Str) (ds : List D) : D := .tup (.str z :: ds)
def ow (i : Int) : D := wd "own" [.int i]
def nu (i : Int) : D := wd "num" [.int i]
def nn : D := wd "none" []
def bdy1 (r : Str) : D := wd "if" [wd "below" [ow 0, nu 1], wd "gain" [wd "at" [.str r, ow 0]], wd "call" [.int 0, .tup [wd "less" [ow 0, nu 1]]]]
def inner : D := wd "call" [.int 1, .tup [wd "less" [ow 0, nu 1], ow 2]]
def bdy2 (t : Str) : D := wd "choose" [.tup [wd "each" [nu 0, ow 1, inner], wd "gain" [wd "at" [.str t, ow 0]], nn]]
def bdy3 (t : Str) : D := wd "all" [nu 0, wd "kids" [.str t, ow 0], wd "both" [wd "gain" [ow 3], wd "call" [.int 0, .tup [ow 0]]]]
def row1 (r : Str) : D := .tup [.str "fa", .tup [wd "size" [.str r]], bdy1 r]
def row2 (n t : Str) : D := .tup [.str "best", .tup [wd "need" [.str n], nu 4], bdy2 t]
def row3 (t e : Str) : D := .tup [.str "thirdq", .tup [wd "size" [.str t], wd "full" [wd "size" [.str e]], nu 3], bdy3 e]
def rowsL (q : N4) : List D := [row1 q.1, row2 q.2.1 q.2.2.1, row3 q.2.2.1 q.2.2.2]
abbrev rowsD (q : N4) : D := .tup (rowsL q)
def sp_l_needs : FSpec := fun cs Q => cs = [.opq false PenS] ∧ ∀ q ∈ n4L, Q (ndD (ndq q)) [.opq false PenS]
set_option maxHeartbeats 8000000 in
theorem ok_l_needs (T : Txt K w mg) : K_l_needs P w base T 2 sp_l_needs :=
  okD T.F_l_needs sc_l_needs fun cdv A outer s H E B cs Q hr hl hs => ⟨_, d_l_needs T (ok_l_take T) (by decide) hr, by
    obtain ⟨rfl, hq⟩ := hs
    walk_at "w"
    walk_at "ei"
    rename_i r r0 r1
    have h : r = 0 ∨ r = 1 ∨ r = 2 := by omega
    rcases h with rfl | rfl | rfl
    · walk_at "w"
      walk_at "ei"
      exact ⟨[.opq false PenS], rfl, ⟨fun _ h => h, outs_nil⟩, hq ("bars", "mostq", "lettersq", "kinq") (by decide)⟩
    · walk_at "w"
      walk_at "ei"
      exact ⟨[.opq false PenS], rfl, ⟨fun _ h => h, outs_nil⟩, hq ("qaaa", "qaab", "qab", "qa") (by decide)⟩
    · walk_at "w"
      walk_at "ei"
      exact ⟨[.opq false PenS], rfl, ⟨fun _ h => h, outs_nil⟩, hq ("least", "fun", "ways", "up") (by decide)⟩⟩
def sp_l_rows : FSpec := fun cs Q => ∃ q : N4, cs = [.val (ndD (ndq q))] ∧ Q (rowsD q) [.none]
set_option maxHeartbeats 8000000 in
theorem rows_comp (c0 c1 c2 c3 c4 c5 c6 c7 c8 c9 c10 : Cell) : ∀ (nd : List (Str × Str)) (Q : List D → DEnv → Prop), Q (nd.map fun p => .str p.1) [c0, c1, c2, c3, c4, c5, c6, c7, c8, c9, c10, .none] →
    mapL [11] (gN 11) qYes t_l_rows_1 (nd.map nD) [c0, c1, c2, c3, c4, c5, c6, c7, c8, c9, c10, .none] Q
  | [], Q, h => by
    walk_at "mn"
    exact h
  | p :: r, Q, h => by
    walk_at "mc"
    refine ⟨_, atI_nat (j := 0) rfl, ?_⟩
    walk_at "w"
    exact rows_comp c0 c1 c2 c3 c4 c5 c6 c7 c8 c9 c10 r _ h
set_option maxHeartbeats 8000000 in
theorem ok_l_rows (T : Txt K w mg) : K_l_rows P w base T 1 sp_l_rows :=
  okD T.F_l_rows sc_l_rows fun cdv A outer s H E B cs Q hr hl hs => ⟨_, d_l_rows T hr, by
    obtain ⟨q, rfl, hq⟩ := hs
    walk_at "w"
    walk_at "ei"
    refine rows_comp _ _ _ _ _ _ _ _ _ _ _ (ndq q) _ ?_
    walk_at "w"
    walk_at "ei"
    exact ⟨[.none], rfl, ⟨trivial, outs_nil⟩, hq⟩⟩
/-- a sum of so many parts -/
def wideD : Nat → Nat → D
  | 0, _ => nu 1
  | f + 1, n => match decide (n = 1) with
    | true => nu 1
    | false => wd "plus" [wideD f (n / 2), wideD f (n - n / 2)]
def sp_l_wide (f : Nat) : FSpec := fun cs Q => ∃ n : Nat, cs = [.val (.int (n : Nat))] ∧ 1 ≤ n ∧ n ≤ 2 ^ f ∧ ∀ d, d = wideD (f + 1) n → Q d [.none]
theorem no_l_wide (T : Txt K w mg) : K_l_wide P w base T 1 (fun _ _ => False) := okD T.F_l_wide sc_l_wide fun _ _ _ _ _ _ _ _ _ _ _ hs => hs.elim
def sp_wi : Nat → FSpec
  | 0 => fun _ _ => False
  | n + 1 => sp_l_wide n
set_option maxHeartbeats 8000000 in
theorem wide_step (T : Txt K w mg) {k f : Nat} (hf : f ≤ 8) (G : K_l_wide P w base T k (sp_wi f)) : K_l_wide P w base T (k + 1) (sp_l_wide f) :=
  okD T.F_l_wide sc_l_wide fun cdv A outer s H E B cs Q hr hl hs => ⟨_, d_l_wide T G (Nat.le_refl _) hr, by
    obtain ⟨n, rfl, h1, h2, hq⟩ := hs
    have ln : n ≤ 256 := Nat.le_trans h2 (Nat.pow_le_pow_right (n := 2) (by decide) hf)
    generalize hd : decide (n = 1) = bb
    have hd2 : decide (((n : Nat) : Int) = 1) = bb := by rw [← hd]; exact dec_nat n 1
    cases bb with
    | true =>
      walk_at "w"
      rw [hd2]
      walk_at "w"
      walk_at "ei"
      refine ⟨[.none], rfl, ⟨trivial, outs_nil⟩, hq _ ?_⟩
      rw [wideD, hd]; rfl
    | false =>
      have n1 := of_decide_eq_false hd
      cases f with
      | zero => exact absurd (Nat.le_antisymm h2 h1) n1
      | succ f =>
        rw [Nat.pow_succ] at h2
        walk_at "w"
        rw [hd2]
        walk_at "w"
        refine ⟨cdv_small (by omega) (by omega), ?_⟩
        walk_at "w"
        refine ⟨n / 2, rfl, by omega, by omega, fun d hd3 => ?_⟩
        walk_at "w"
        refine ⟨cdv_small (by omega) (by omega), ?_⟩
        walk_at "w"
        refine ⟨n - n / 2, ?_, by omega, by omega, fun d2 hd4 => ?_⟩
        · show [Cell.val (.int ((n : Nat) - (((n : Nat) : Int) / 2)))] = _
          congr 3
          omega
        walk_at "w"
        walk_at "ei"
        refine ⟨[.none], rfl, ⟨trivial, outs_nil⟩, hq _ ?_⟩
        rw [wideD, hd, hd3, hd4]; rfl⟩
theorem ok_l_wide (T : Txt K w mg) : ∀ f : Nat, f ≤ 8 → K_l_wide P w base T (f + 2) (sp_l_wide f)
  | 0, h => wide_step T h (no_l_wide T)
  | n + 1, h => wide_step T h (ok_l_wide T n (by omega))
def deepD : Nat → D
  | 0 => nn
  | n + 1 => wd "choose" [.tup [deepD n]]
def sp_l_deep : FSpec := fun cs Q => cs = [.val (.int 13)] ∧ Q (deepD 12) [.none]
set_option maxHeartbeats 8000000 in
theorem ok_l_deep (T : Txt K w mg) : K_l_deep P w base T 1 sp_l_deep :=
  okD T.F_l_deep sc_l_deep fun cdv A outer s H E B cs Q hr hl hs => ⟨_, d_l_deep T hr, by
    obtain ⟨rfl, hq⟩ := hs
    walk_at "w"
    walk_at "ei"
    iterate 12
      walk_at "fc"
      walk_at "ei"
    walk_at "fn"
    exact ⟨[.none], rfl, ⟨trivial, outs_nil⟩, hq⟩⟩
def halvesD : Nat → D
  | 0 => ow 0
  | n + 1 => wd "half" [halvesD n]
def sp_l_halves : FSpec := fun cs Q => ∃ n : Nat, cs = [.val (.int (n : Nat))] ∧ (n = 11 ∨ n = 9) ∧ ∀ d, d = halvesD n → Q d [.none]
set_option maxHeartbeats 8000000 in
theorem ok_l_halves (T : Txt K w mg) : K_l_halves P w base T 1 sp_l_halves :=
  okD T.F_l_halves sc_l_halves fun cdv A outer s H E B cs Q hr hl hs => ⟨_, d_l_halves T hr, by
    obtain ⟨n, rfl, hn, hq⟩ := hs
    rcases hn with rfl | rfl
    · walk_at "w"
      walk_at "ei"
      iterate 11
        walk_at "fc"
        walk_at "ei"
      walk_at "fn"
      exact ⟨[.none], rfl, ⟨trivial, outs_nil⟩, hq _ rfl⟩
    · walk_at "w"
      walk_at "ei"
      iterate 9
        walk_at "fc"
        walk_at "ei"
      walk_at "fn"
      exact ⟨[.none], rfl, ⟨trivial, outs_nil⟩, hq _ rfl⟩⟩
def wdsA : List Str := ["num", "own", "need", "size", "at", "kids", "kid", "full", "with", "without", "many", "plus", "less", "times", "half", "rest", "lesser", "greater"]
def wdsB : List Str := ["below", "same", "has", "not", "and", "or", "gain", "none", "call", "both", "choose", "each", "all", "if", "number", "row", "text", "tree"]
def wdsL : List Str := wdsA ++ wdsB
def sp_l_word : FSpec := fun cs Q => cs = [.opq false PenS] ∧ ∀ z ∈ wdsL, Q (.str z) [.opq false PenS]
theorem split_wds : Txt.split (("num own need size at kids kid full with without many plus less times half rest lesser greater" : Str) ++ (" below same has not and or gain none call both choose each all if number row text tree" : Str)) (" " : Str) = wdsL := by decide +kernel
set_option maxHeartbeats 8000000 in
theorem ok_l_word (T : Txt K w mg) : K_l_word P w base T 2 sp_l_word :=
  okD T.F_l_word sc_l_word fun cdv A outer s H E B cs Q hr hl hs => ⟨_, d_l_word T (ok_l_take T) (by decide) hr, by
    obtain ⟨rfl, hq⟩ := hs
    walk_at "w"
    refine ⟨by decide +kernel, ?_⟩
    walk_at "w"
    refine ⟨by decide +kernel, by decide +kernel, ?_⟩
    rw [split_wds]
    walk_at "ek"
    rename_i r r0 r1
    obtain ⟨z, hz, hq2⟩ : ∃ z ∈ wdsL, atI (wdsL.map D.str) r = some (.str z) := by
      obtain ⟨x, hx, m⟩ := atI_in (xs := wdsL.map D.str) r0 (show r < 36 from r1)
      obtain ⟨z, hz, rfl⟩ := List.mem_map.mp m
      exact ⟨z, hz, hx⟩
    refine ⟨.str z, hq2, ?_⟩
    walk_at "w"
    exact ⟨[.opq false PenS], rfl, ⟨fun _ h => h, outs_nil⟩, hq z hz⟩⟩
/-! ### bad bodies -/
def okB (f : Nat) (q : N4) (m : Nat) (b : D) : Bool := bodyB (ndq q) [1, 2, 3] f m 0 b && (decide (cnt b ≤ 60) && decide (dpt b ≤ 12))
def badB (q : N4) (m : Nat) (b : D) : Bool := (hdB [b] && wfB 12 36 b) && (!okB NB q m b && !okB (NB + 1) q m b)
def badP (q : N4) (m : Nat) (b : D) : Bool := wfB 12 NB b && !okB (NB + 1) q m b
theorem wfB_up {L : Nat} : ∀ {n m : Nat} {d : D}, n ≤ m → wfB L n d = true → wfB L m d = true
  | 0, m, .tup ds, _, h => by cases h
  | n + 1, 0, .tup ds, l, _ => absurd l (Nat.not_succ_le_zero n)
  | n + 1, m + 1, .tup ds, l, h => by
    have h : (decide (ds.length ≤ L) && (hdB ds && ds.all (wfB L n))) = true := h
    rw [Bool.and_eq_true, Bool.and_eq_true, List.all_eq_true] at h
    show (decide (ds.length ≤ L) && (hdB ds && ds.all (wfB L m))) = true
    rw [Bool.and_eq_true, Bool.and_eq_true, List.all_eq_true]
    exact ⟨h.1, h.2.1, fun d hd => wfB_up (Nat.le_of_succ_le_succ l) (h.2.2 d hd)⟩
  | n, m, .atm v, _, h => by cases n <;> cases h
  | n, m, .scr v, _, h => by cases n <;> cases h
  | n, m, .dcn v, _, h => by cases n <;> cases h
  | n, m, .ins n0 v, _, h => by cases n <;> cases h
  | n, m, .non, _, _ => by cases m <;> rfl
  | n, m, .bl _, _, _ => by cases m <;> rfl
  | n, m, .int _, _, _ => by cases m <;> rfl
  | n, m, .str _, _, _ => by cases m <;> rfl
  | n, m, .lst _, _, _ => by cases m <;> rfl
  | n, m, .dct _, _, _ => by cases m <;> rfl
theorem badB_is {q : N4} {m : Nat} {b : D} (h : badB q m b = true) : hdB [b] = true ∧ wfB 12 36 b = true ∧ okB NB q m b = false ∧ okB (NB + 1) q m b = false := by
  rw [badB, Bool.and_eq_true, Bool.and_eq_true, Bool.and_eq_true, Bool.not_eq_true', Bool.not_eq_true'] at h
  exact ⟨h.1.1, h.1.2, h.2.1, h.2.2⟩
theorem badB_P {q : N4} {m : Nat} {b : D} (h : badB q m b = true) : badP q m b = true := by
  obtain ⟨_, h1, _, h2⟩ := badB_is h
  rw [badP, h2, wfB_up (by decide) h1]; rfl
/-- what holds a bad body at such a place is bad -/
theorem bad_of {q : N4} {m : Nat} {b d : D} (h : badB q m b = true) (hw : wfB 12 NB d = true) (hc : cnt b ≤ cnt d) (hd : dpt b ≤ dpt d)
    (hb : bodyB (ndq q) [1, 2, 3] (NB + 1) m 0 d = true → bodyB (ndq q) [1, 2, 3] NB m 0 b = true) : badP q m d = true := by
  rw [badP, Bool.and_eq_true]
  refine ⟨hw, ?_⟩
  have h2 := (badB_is h).2.2.1
  rw [Bool.not_eq_true']
  by_cases ho : okB (NB + 1) q m d = true
  · rw [okB, Bool.and_eq_true, Bool.and_eq_true, decide_eq_true_eq, decide_eq_true_eq] at ho
    have : okB NB q m b = true := by
      rw [okB, Bool.and_eq_true, Bool.and_eq_true, decide_eq_true_eq, decide_eq_true_eq]
      exact ⟨hb ho.1, Nat.le_trans hc ho.2.1, Nat.le_trans hd ho.2.2⟩
    rw [this] at h2; cases h2
  · exact Bool.eq_false_iff.mpr ho
theorem hdB_cons {b : D} {r : List D} (h : hdB [b] = true) : hdB (b :: r) = true := by
  cases b <;> first | rfl | exact h
theorem wfB_tup {n : Nat} {ds : List D} (l : ds.length ≤ 12) (h : hdB ds = true) (ha : ds.all (wfB 12 n) = true) : wfB 12 (n + 1) (.tup ds) = true := by
  show (decide (ds.length ≤ 12) && (hdB ds && ds.all (wfB 12 n))) = true
  rw [h, ha, decide_eq_true l]; rfl
section
variable {q : N4} {m : Nat} {b x : D} (h : badB q m b = true) (hx : wfB 12 36 x = true)
include h hx
omit hx in
theorem put_wf : wfB 12 36 b = true := (badB_is h).2.1
omit hx in
theorem put_hd : hdB [b] = true := (badB_is h).1
theorem put1 : badP q m (.tup [.str "both", x, b]) = true := by
  have wb := put_wf h
  refine bad_of h (wfB_tup (n := 39) (show 3 ≤ 12 by decide) (show HD.contains "both" = true by decide +kernel) ?_) ?_ ?_ fun e => ?_
  · show (true && (wfB 12 39 x && (wfB 12 39 b && true))) = true
    rw [wfB_up (by decide) hx, wfB_up (by decide) wb]; rfl
  · simp only [cnt_tup, cnts_cons, cnts_nil]; omega
  · simp only [dpt_tup, dpts_cons, dpts_nil]; omega
  · have e : (bodyB (ndq q) [1, 2, 3] NB m 0 x && (bodyB (ndq q) [1, 2, 3] NB m 0 b && true)) = true := e
    rw [Bool.and_eq_true, Bool.and_eq_true] at e
    exact e.2.1
theorem put2 : badP q m (.tup [.str "both", b, x]) = true := by
  have wb := put_wf h
  refine bad_of h (wfB_tup (n := 39) (show 3 ≤ 12 by decide) (show HD.contains "both" = true by decide +kernel) ?_) ?_ ?_ fun e => ?_
  · show (true && (wfB 12 39 b && (wfB 12 39 x && true))) = true
    rw [wfB_up (by decide) hx, wfB_up (by decide) wb]; rfl
  · simp only [cnt_tup, cnts_cons, cnts_nil]; omega
  · simp only [dpt_tup, dpts_cons, dpts_nil]; omega
  · have e : (bodyB (ndq q) [1, 2, 3] NB m 0 b && (bodyB (ndq q) [1, 2, 3] NB m 0 x && true)) = true := e
    rw [Bool.and_eq_true, Bool.and_eq_true] at e
    exact e.1
theorem put3 (hb : hdB [b] = true) : badP q m (.tup [.str "choose", .tup [b, x]]) = true := by
  have wb := put_wf h
  refine bad_of h (wfB_tup (n := 39) (show 2 ≤ 12 by decide) (show HD.contains "choose" = true by decide +kernel) ?_) ?_ ?_ fun e => ?_
  · show (true && (wfB 12 39 (.tup [b, x]) && true)) = true
    rw [wfB_tup (n := 38) (ds := [b, x]) (show 2 ≤ 12 by decide) (hdB_cons hb) (by show (wfB 12 38 b && (wfB 12 38 x && true)) = true; rw [wfB_up (by decide) hx, wfB_up (by decide) wb]; rfl)]; rfl
  · simp only [cnt_tup, cnts_cons, cnts_nil]; omega
  · simp only [dpt_tup, dpts_cons, dpts_nil]; omega
  · have e : (true && (bodyB (ndq q) [1, 2, 3] NB m 0 b && (bodyB (ndq q) [1, 2, 3] NB m 0 x && true))) = true := e
    rw [Bool.true_and, Bool.and_eq_true, Bool.and_eq_true] at e
    exact e.1
theorem put4 (hb : hdB [x] = true) : badP q m (.tup [.str "choose", .tup [x, .tup [.str "none"], b]]) = true := by
  have wb := put_wf h
  refine bad_of h (wfB_tup (n := 39) (show 2 ≤ 12 by decide) (show HD.contains "choose" = true by decide +kernel) ?_) ?_ ?_ fun e => ?_
  · show (true && (wfB 12 39 (.tup [x, .tup [.str "none"], b]) && true)) = true
    rw [wfB_tup (n := 38) (ds := [x, .tup [.str "none"], b]) (show 3 ≤ 12 by decide) (hdB_cons hb) (by show (wfB 12 38 x && (true && (wfB 12 38 b && true))) = true; rw [wfB_up (by decide) hx, wfB_up (by decide) wb]; rfl)]; rfl
  · simp only [cnt_tup, cnts_cons, cnts_nil]; omega
  · simp only [dpt_tup, dpts_cons, dpts_nil]; omega
  · have e : (true && (bodyB (ndq q) [1, 2, 3] NB m 0 x && (bodyB (ndq q) [1, 2, 3] NB m 0 (.tup [.str "none"]) && (bodyB (ndq q) [1, 2, 3] NB m 0 b && true)))) = true := e
    rw [Bool.true_and, Bool.and_eq_true, Bool.and_eq_true, Bool.and_eq_true] at e
    exact e.2.2.1
def cnd0 : D := .tup [.str "same", .tup [.str "num", .int 0], .tup [.str "num", .int 0]]
theorem put5 : badP q m (.tup [.str "if", cnd0, x, b]) = true := by
  have wb := put_wf h
  refine bad_of h (wfB_tup (n := 39) (show 4 ≤ 12 by decide) (show HD.contains "if" = true by decide +kernel) ?_) ?_ ?_ fun e => ?_
  · show (true && (wfB 12 39 cnd0 && (wfB 12 39 x && (wfB 12 39 b && true)))) = true
    rw [wfB_up (by decide) hx, wfB_up (by decide) wb]; decide +kernel
  · simp only [cnt_tup, cnts_cons, cnts_nil]; omega
  · simp only [dpt_tup, dpts_cons, dpts_nil]; omega
  · have e : (isC (ndq q) (m : Nat) cnd0 && (bodyB (ndq q) [1, 2, 3] NB m 0 x && bodyB (ndq q) [1, 2, 3] NB m 0 b)) = true := e
    rw [Bool.and_eq_true, Bool.and_eq_true] at e
    exact e.2.2
theorem put6 : badP q m (.tup [.str "if", cnd0, b, x]) = true := by
  have wb := put_wf h
  refine bad_of h (wfB_tup (n := 39) (show 4 ≤ 12 by decide) (show HD.contains "if" = true by decide +kernel) ?_) ?_ ?_ fun e => ?_
  · show (true && (wfB 12 39 cnd0 && (wfB 12 39 b && (wfB 12 39 x && true)))) = true
    rw [wfB_up (by decide) hx, wfB_up (by decide) wb]; decide +kernel
  · simp only [cnt_tup, cnts_cons, cnts_nil]; omega
  · simp only [dpt_tup, dpts_cons, dpts_nil]; omega
  · have e : (isC (ndq q) (m : Nat) cnd0 && (bodyB (ndq q) [1, 2, 3] NB m 0 b && bodyB (ndq q) [1, 2, 3] NB m 0 x)) = true := e
    rw [Bool.and_eq_true, Bool.and_eq_true] at e
    exact e.2.1
end
def sp_l_put : FSpec := fun cs Q => ∃ (q : N4) (m : Nat) (x b : D), cs = [.opq false PenS, .val x, .val b] ∧ wfB 12 36 x = true ∧ hdB [x] = true ∧ badB q m b = true ∧ ∀ d, badP q m d = true → Q d [.opq false PenS, .none, .none]
set_option maxHeartbeats 8000000 in
theorem ok_l_put (T : Txt K w mg) : K_l_put P w base T 2 sp_l_put :=
  okD T.F_l_put sc_l_put fun cdv A outer s H E B cs Q hr hl hs => ⟨_, d_l_put T (ok_l_take T) (by decide) hr, by
    obtain ⟨q, m, x, b, rfl, hx, hhx, hb, hq⟩ := hs
    have fin : ∀ {d : D} {env : DEnv}, badP q m d = true → Outs env [.opq false PenS, .none, .none] → ∃ cs' : List Cell, cs'.length = 3 ∧ Outs env cs' ∧ Q d cs' := fun h o => ⟨_, rfl, o, hq _ h⟩
    walk_at "w"
    walk_at "ei"
    walk_at "sp"
    · exact fin (badB_P hb) ⟨fun _ h => h, trivial, trivial, outs_nil⟩
    · walk_at "ei"
      rename_i r r0 r1
      refine pick (fun d => badP q m d = true) r0 r1 ?_ fun d h => ?_
      · exact ⟨put1 hb hx, put2 hb hx, put3 hb hx (put_hd hb), put4 hb hx hhx, put5 hb hx, put6 hb hx, trivial⟩
      · walk_at "w"
        exact fin h ⟨fun _ h => h, trivial, trivial, outs_nil⟩⟩
/-! ### bad bodies: the law's -/
def mL : List Nat := [1, 2, 3]
/-- bad for all needs and places -/
def tooB (d : D) : Bool := n4L.all fun q => mL.all fun m => badB q m d
theorem tooB_bad {q : N4} {m : Nat} {d : D} (hq : q ∈ n4L) (hm : m ∈ mL) (h : tooB d = true) : badB q m d = true := List.all_eq_true.mp (List.all_eq_true.mp h q hq) m hm
def sp_l_too_great : FSpec := fun cs Q => cs = [.opq false PenS] ∧ ∀ d, tooB d = true → Q d [.opq false PenS]
set_option maxHeartbeats 16000000 in
theorem ok_l_too_great (T : Txt K w mg) : K_l_too_great P w base T 8 sp_l_too_great :=
  okD T.F_l_too_great sc_l_too_great fun cdv A outer s H E B cs Q hr hl hs => ⟨_, d_l_too_great T (ok_l_wide T 5 (by decide)) (by decide) (ok_l_halves T) (by decide) (ok_l_take T) (by decide) hr, by
    obtain ⟨rfl, hq⟩ := hs
    walk_at "w"
    walk_at "ek"
    rename_i d1 e1 d2 e2 d3 e3 d4 e4 d5 e5 d6 e6 d7 e7 d8 e8 d9 e9 d10 e10 r r0 r1
    subst e1 e2 e3 e4 e5 e6 e7 e8 e9 e10
    refine pickB tooB r0 r1 (by decide +kernel) fun d h => ?_
    walk_at "w"
    exact ⟨[.opq false PenS], rfl, ⟨fun _ h => h, outs_nil⟩, hq _ h⟩⟩
def sp_l_turns_behind : FSpec := fun cs Q => ∃ (q : N4) (m : Nat), cs = [.val (ow 0), .val (ow (m : Nat))] ∧ q ∈ n4L ∧ m ∈ mL ∧ ∀ xs : List D, xs.length = 8 → xs.all (badB q m) = true → Q (.lst xs) [.none, .none]
set_option maxHeartbeats 16000000 in
theorem ok_l_turns_behind (T : Txt K w mg) : K_l_turns_behind P w base T 1 sp_l_turns_behind :=
  okD T.F_l_turns_behind sc_l_turns_behind fun cdv A outer s H E B cs Q hr hl hs => ⟨_, d_l_turns_behind T hr, by
    obtain ⟨q, m, rfl, hq, hm, hb⟩ := hs
    walk_at "w"
    walk_at "ek"
    walk_at "lz"
    exact ⟨[.none, .none], rfl, ⟨trivial, trivial, outs_nil⟩, hb _ rfl (by
      clear hb hl
      revert m
      revert q
      decide +kernel)⟩⟩
def sp_l_wrong_forms : FSpec := fun cs Q => ∃ (q : N4) (m : Nat), cs = [.val (ndD (ndq q)), .val (ow 0)] ∧ q ∈ n4L ∧ m ∈ mL ∧ ∀ xs : List D, xs.length = 30 → xs.all (badB q m) = true → Q (.lst xs) [.none, .none]
set_option maxHeartbeats 16000000 in
theorem ok_l_wrong_forms (T : Txt K w mg) : K_l_wrong_forms P w base T 1 sp_l_wrong_forms :=
  okD T.F_l_wrong_forms sc_l_wrong_forms fun cdv A outer s H E B cs Q hr hl hs => ⟨_, d_l_wrong_forms T hr, by
    obtain ⟨q, m, rfl, hq, hm, hb⟩ := hs
    walk_at "w"
    walk_at "lz"
    walk_at "ek"
    refine ⟨by decide, ?_⟩
    walk_at "w"
    iterate 3
      walk_at "mc"
      walk_at "ek"
    walk_at "mn"
    walk_at "lz"
    exact ⟨[.none, .none], rfl, ⟨trivial, trivial, outs_nil⟩, hb _ rfl (by
      clear hb hl
      revert m
      revert q
      decide +kernel)⟩⟩
def sp_l_bad_body : FSpec := fun cs Q => ∃ (q : N4) (m : Nat), cs = [.opq false PenS, .val (ndD (ndq q)), .val (.int (m : Nat))] ∧ q ∈ n4L ∧ m ∈ mL ∧ ∀ d, badB q m d = true → Q d [.opq false PenS, .none, .none]
set_option maxHeartbeats 32000000 in
theorem ok_l_bad_body (T : Txt K w mg) : K_l_bad_body P w base T 9 sp_l_bad_body :=
  okD T.F_l_bad_body sc_l_bad_body fun cdv A outer s H E B cs Q hr hl hs => ⟨_, d_l_bad_body T (ok_l_deep T) (by decide) (ok_l_wide T 5 (by decide)) (by decide) (ok_l_too_great T) (by decide) (ok_l_turns_behind T) (by decide) (ok_l_wrong_forms T) (by decide) (ok_l_take T) (by decide) hr, by
    obtain ⟨q, m, rfl, hq, hm, hb⟩ := hs
    walk_at "w"
    walk_at "ek"
    rename_i d1 e1
    refine ⟨rfl, ?_⟩
    walk_at "w"
    walk_at "ek"
    refine ⟨by decide, ?_⟩
    walk_at "w"
    walk_at "mc"
    refine ⟨rfl, fun t1 h1 => ?_⟩
    walk_at "w"
    walk_at "mc"
    refine ⟨rfl, fun t2 h2 => ?_⟩
    walk_at "w"
    walk_at "mc"
    refine ⟨rfl, fun t3 h3 => ?_⟩
    walk_at "w"
    walk_at "mc"
    refine ⟨rfl, fun t4 h4 => ?_⟩
    walk_at "w"
    walk_at "mc"
    refine ⟨rfl, fun t5 h5 => ?_⟩
    walk_at "w"
    walk_at "mc"
    refine ⟨rfl, fun t6 h6 => ?_⟩
    walk_at "w"
    walk_at "mc"
    refine ⟨rfl, fun t7 h7 => ?_⟩
    walk_at "w"
    walk_at "mc"
    refine ⟨rfl, fun t8 h8 => ?_⟩
    walk_at "w"
    walk_at "mn"
    walk_at "lz"
    refine ⟨q, m, rfl, hq, hm, fun xs lx hx => ?_⟩
    walk_at "w"
    refine ⟨by (simp only [List.length_append, List.length_cons, List.length_nil, lx]; decide), ?_⟩
    walk_at "w"
    refine ⟨q, m, rfl, hq, hm, fun ys ly hy => ?_⟩
    walk_at "w"
    refine ⟨by (simp only [List.length_append, List.length_cons, List.length_nil, lx, ly]; decide), ?_⟩
    walk_at "w"
    refine ⟨_, rfl, by (simp only [List.length_append, List.length_cons, List.length_nil, lx, ly]; decide), by (simp only [List.length_append, List.length_cons, List.length_nil, lx, ly]; decide), fun r r0 r1 => ?_⟩
    walk_at "w"
    subst e1
    refine pickB (badB q m) r0 r1 ?_ fun d h => ?_
    · simp only [List.all_append, Bool.and_eq_true]
      repeat' apply And.intro
      all_goals first
        | exact hx
        | exact hy
        | (clear hb hl hx hy r1; revert m; revert q; decide +kernel)
        | (simp only [List.all_cons, List.all_nil, tooB_bad hq hm h1, tooB_bad hq hm h2, tooB_bad hq hm h3, tooB_bad hq hm h4, tooB_bad hq hm h5, tooB_bad hq hm h6, tooB_bad hq hm h7, tooB_bad hq hm h8, Bool.and_true])
    · walk_at "w"
      exact ⟨[.opq false PenS, .none, .none], rfl, ⟨fun _ h => h, trivial, trivial, outs_nil⟩, hb _ h⟩⟩
/-! ### bad needs -/
def badN (q : N4) (d : D) : Bool := naB 2 d && !progB d (rowsD q)
theorem word_badN {q : N4} (hq : q ∈ n4L) {z : Str} (hz : z ∈ wdsL) : badN q (.tup ((ndq q).map nD ++ [.tup [.str z, .str "row"]])) = true := by
  revert z
  revert q
  decide +kernel
def sp_l_bad_needs : FSpec := fun cs Q => ∃ q : N4, cs = [.opq false PenS, .val (ndD (ndq q))] ∧ q ∈ n4L ∧ ∀ d, badN q d = true → Q d [.opq false PenS, .none]
set_option maxHeartbeats 32000000 in
theorem ok_l_bad_needs (T : Txt K w mg) : K_l_bad_needs P w base T 3 sp_l_bad_needs :=
  okD T.F_l_bad_needs sc_l_bad_needs fun cdv A outer s H E B cs Q hr hl hs => ⟨_, d_l_bad_needs T (ok_l_take T) (by decide) (ok_l_word T) (by decide) hr, by
    obtain ⟨q, rfl, hq, hb⟩ := hs
    walk_at "w"
    walk_at "ei"
    rename_i r r0 r1
    refine pick (fun x => ∃ p ∈ ndq q, x = nD p) r0 r1 ?_ fun x hx => ?_
    · exact ⟨⟨_, .head _, rfl⟩, ⟨_, .tail _ (.head _), rfl⟩, ⟨_, .tail _ (.tail _ (.head _)), rfl⟩, ⟨_, .tail _ (.tail _ (.tail _ (.head _))), rfl⟩, trivial⟩
    obtain ⟨p, hp, rfl⟩ := hx
    have l8 : p.1.length + 1 ≤ sizeLine := Nat.le_trans (Nat.succ_le_succ (n4_len hq p hp)) (by decide)
    walk_at "w"
    walk_at "ei"
    iterate 7
      walk_at "mc"
      walk_at "ei"
    walk_at "mn"
    walk_at "ei"
    iterate 16
      walk_at "mc"
      walk_at "ei"
    walk_at "mn"
    walk_at "ei"
    walk_at "mc"
    refine ⟨rfl, fun z1 h1 => ?_⟩
    walk_at "w"
    walk_at "ei"
    walk_at "mc"
    refine ⟨rfl, fun z2 h2 => ?_⟩
    walk_at "w"
    walk_at "ei"
    walk_at "mc"
    refine ⟨rfl, fun z3 h3 => ?_⟩
    walk_at "w"
    walk_at "ei"
    walk_at "mc"
    refine ⟨rfl, fun z4 h4 => ?_⟩
    walk_at "w"
    walk_at "ei"
    walk_at "mc"
    refine ⟨rfl, fun z5 h5 => ?_⟩
    walk_at "w"
    walk_at "ei"
    walk_at "mc"
    refine ⟨rfl, fun z6 h6 => ?_⟩
    walk_at "w"
    walk_at "ei"
    walk_at "mn"
    walk_at "ei"
    rename_i r r0 r1
    refine pickB (badN q) r0 r1 ?_ fun d h => ?_
    · simp only [List.all_append, Bool.and_eq_true]
      repeat' apply And.intro
      all_goals first
        | (clear hb hl r1 l8 hp; revert q; decide +kernel)
        | (clear hb hl r1 l8; revert p; revert q; decide +kernel)
        | (simp only [List.all_cons, List.all_nil, word_badN hq h1, word_badN hq h2, word_badN hq h3, word_badN hq h4, word_badN hq h5, word_badN hq h6, Bool.and_true])
    · walk_at "w"
      exact ⟨[.opq false PenS, .none], rfl, ⟨fun _ h => h, trivial, outs_nil⟩, hb _ h⟩⟩
/-! ### bad rows -/
def badR (q : N4) (d : D) : Bool := fnsJ d && !progB (ndD (ndq q)) d
def rowM (q : N4) (m : D) : D := .tup [row1 q.1, row2 q.2.1 q.2.2.1, .tup [.str "bq", m, nn]]
def badL (q : N4) : D → Bool
  | .tup [o] => badR q (rowM q (.tup [nu 1, o, nu 2]))
  | _ => true
/-- bad mosts -/
def badM (q : N4) (m : D) : Bool := noAtm m && (badR q (rowM q m) && badL q m)
def sp_l_bad_mosts : FSpec := fun cs Q => ∃ q : N4, cs = [.val (ndD (ndq q)), .val (.tup [wd "size" [.str q.1]])] ∧ q ∈ n4L ∧ ∀ xs : List D, xs.length = 27 → xs.all (badM q) = true → Q (.lst xs) [.none, .none]
set_option maxHeartbeats 16000000 in
theorem ok_l_bad_mosts (T : Txt K w mg) : K_l_bad_mosts P w base T 8 sp_l_bad_mosts :=
  okD T.F_l_bad_mosts sc_l_bad_mosts fun cdv A outer s H E B cs Q hr hl hs => ⟨_, d_l_bad_mosts T (ok_l_wide T 5 (by decide)) (by decide) hr, by
    obtain ⟨q, rfl, hq, hb⟩ := hs
    walk_at "w"
    walk_at "ei"
    refine ⟨⟨List.cons_ne_nil _ _, by decide, by decide, show 1 ≤ 1000 by decide⟩, ?_⟩
    walk_at "w"
    walk_at "ei"
    rename_i d1 e1 d2 e2
    subst e1 e2
    exact ⟨[.none, .none], rfl, ⟨trivial, trivial, outs_nil⟩, hb _ rfl (by
      clear hb hl
      revert q
      decide +kernel)⟩⟩
section
variable (s1 s2 s3 : FSpec) (q : N4) (c0 c1 c3 c4 c5 c6 c7 c8 c9 c10 c12 : Cell)
theorem badM_row {q : N4} {m : D} (h : badM q m = true) : badR q (rowM q m) = true := by
  rw [badM, Bool.and_eq_true, Bool.and_eq_true] at h
  exact h.2.1
theorem badM_na {q : N4} {m : D} (h : badM q m = true) : noAtm m = true := by
  rw [badM, Bool.and_eq_true] at h
  exact h.1
theorem badM_one {q : N4} {o : D} (h : badM q (.tup [o]) = true) : badR q (rowM q (.tup [nu 1, o, nu 2])) = true := by
  rw [badM, Bool.and_eq_true, Bool.and_eq_true] at h
  exact h.2.2
set_option maxHeartbeats 4000000 in
theorem mosts_comp : ∀ (xs : List D) (Q : List D → DEnv → Prop), xs.all (badM q) = true → (∀ ys : List D, ys.length = xs.length → ys.all (badR q) = true → Q ys [c0, c1, .val (rowsD q), c3, c4, c5, c6, c7, c8, c9, c10, .none, c12]) →
    mapL [11] (gN 11) qYes (t_l_bad_rows_6 s1 s2 s3) xs [c0, c1, .val (rowsD q), c3, c4, c5, c6, c7, c8, c9, c10, .none, c12] Q
  | [], Q, _, h => by
    walk_at "mn"
    exact h [] rfl rfl
  | d :: r, Q, hx, h => by
    rw [nall_cons, Bool.and_eq_true] at hx
    have hd := badM_row hx.1
    have ih := fun Q => mosts_comp r Q hx.2
    walk_at "mc"
    walk_at "ei"
    refine ih _ fun ys ly hy => h _ (show ys.length + 1 = r.length + 1 by rw [ly]) ?_
    rw [nall_cons, hy, Bool.and_true]
    exact hd
set_option maxHeartbeats 4000000 in
theorem late_comp : ∀ (xs : List D) (Q : List D → DEnv → Prop), xs.all (badM q) = true → (∀ zs : List D, zs.length ≤ xs.length → (∀ z ∈ zs, ∃ o, z = .tup [o] ∧ badM q z = true) → Q zs [c0, c1, .val (rowsD q), c3, c4, c5, c6, c7, c8, c9, c10, .none, c12]) →
    mapL [11] (gN 11) (t_l_bad_rows_7 s1 s2 s3) (t_l_bad_rows_8 s1 s2 s3) xs [c0, c1, .val (rowsD q), c3, c4, c5, c6, c7, c8, c9, c10, .none, c12] Q
  | [], Q, _, h => by
    walk_at "mn"
    exact h [] (Nat.le_refl _) (fun z m => by cases m)
  | d :: r, Q, hx, h => by
    rw [nall_cons, Bool.and_eq_true] at hx
    have na := badM_na hx.1
    have bd := hx.1
    have ih := fun Q => late_comp r Q hx.2
    have no : mapL [11] (gN 11) (t_l_bad_rows_7 s1 s2 s3) (t_l_bad_rows_8 s1 s2 s3) r [c0, c1, .val (rowsD q), c3, c4, c5, c6, c7, c8, c9, c10, .none, c12] Q := ih Q fun zs lz hz => h zs (Nat.le_succ_of_le lz) hz
    cases d with
    | atm v => cases na
    | dcn v => cases na
    | ins n0 v => cases na
    | tup ys =>
      match ys, bd with
      | [], _ =>
        walk_at "mc"
        walk_at "ei"
        exact no
      | [o], bd =>
        walk_at "mc"
        walk_at "ei"
        refine ih _ fun zs lz hz => h _ (Nat.succ_le_succ lz) fun z m => ?_
        rcases List.mem_cons.mp m with e | m
        · exact ⟨o, e, by rw [e]; exact bd⟩
        · exact hz z m
      | a :: b :: ys, _ =>
        walk_at "mc"
        walk_at "ei"
        generalize hd : decide (((ys.length + 1 + 1 : Nat) : Int) = 1) = bb
        rw [decide_eq_false (by omega)] at hd
        subst hd
        walk_at "w"
        exact no
    | _ =>
      walk_at "mc"
      walk_at "ei"
      exact no
set_option maxHeartbeats 4000000 in
theorem late2_comp : ∀ (xs : List D) (Q : List D → DEnv → Prop), (∀ z ∈ xs, ∃ o, z = .tup [o] ∧ badM q z = true) → (∀ ys : List D, ys.length = xs.length → ys.all (badR q) = true → Q ys [c0, c1, .val (rowsD q), c3, c4, c5, c6, c7, c8, c9, c10, .none, c12]) →
    mapL [11] (gN 11) qYes (t_l_bad_rows_9 s1 s2 s3) xs [c0, c1, .val (rowsD q), c3, c4, c5, c6, c7, c8, c9, c10, .none, c12] Q
  | [], Q, _, h => by
    walk_at "mn"
    exact h [] rfl rfl
  | d :: r, Q, hx, h => by
    have ih := fun Q => late2_comp r Q (fun z m => hx z (List.mem_cons_of_mem _ m))
    obtain ⟨o, rfl, hd⟩ := hx d List.mem_cons_self
    have hd := badM_one hd
    walk_at "mc"
    walk_at "ei"
    refine ih _ fun ys ly hy => h _ (show ys.length + 1 = r.length + 1 by rw [ly]) ?_
    rw [nall_cons, hy, Bool.and_true]
    exact hd
end
end
end Y

namespace Y
open PySem PySem.Spec PyProof.Rows L2 L2.DL
section
variable {P : Program} {w : World} {K : PySem.W.Frag} {mg : Str → Option Value} {base : Heap}
theorem word_badR {q : N4} (hq : q ∈ n4L) {z : Str} (hz : z ∈ wdsL) : badR q (.tup (rowsL q ++ [.tup [.str z, .tup [wd "size" [.str q.1]], bdy1 q.1]])) = true := by
  revert z
  revert q
  decide +kernel
def sp_l_bad_rows : FSpec := fun cs Q => ∃ q : N4, cs = [.opq false PenS, .val (ndD (ndq q)), .val (rowsD q)] ∧ q ∈ n4L ∧ ∀ d, badR q d = true → Q d [.opq false PenS, .none, .none]
set_option maxHeartbeats 32000000 in
theorem ok_l_bad_rows (T : Txt K w mg) : K_l_bad_rows P w base T 9 sp_l_bad_rows :=
  okD T.F_l_bad_rows sc_l_bad_rows fun cdv A outer s H E B cs Q hr hl hs => ⟨_, d_l_bad_rows T (ok_l_take T) (by decide) (ok_l_word T) (by decide) (ok_l_bad_mosts T) (by decide) hr, by
    obtain ⟨q, rfl, hq, hb⟩ := hs
    walk_at "w"
    walk_at "ei"
    rename_i r r0 r1
    refine pick (fun x => ∃ p ∈ ndq q, x = nD p) r0 r1 ?_ fun x hx => ?_
    · exact ⟨⟨_, .head _, rfl⟩, ⟨_, .tail _ (.head _), rfl⟩, ⟨_, .tail _ (.tail _ (.head _)), rfl⟩, ⟨_, .tail _ (.tail _ (.tail _ (.head _))), rfl⟩, trivial⟩
    obtain ⟨p, hp, rfl⟩ := hx
    walk_at "w"
    walk_at "ei"
    iterate 3
      walk_at "mc"
      walk_at "ei"
    walk_at "mn"
    walk_at "ei"
    iterate 2
      walk_at "mc"
      walk_at "ei"
    walk_at "mn"
    walk_at "ei"
    walk_at "mc"
    refine ⟨rfl, fun z1 h1 => ?_⟩
    walk_at "w"
    walk_at "ei"
    walk_at "mc"
    refine ⟨rfl, fun z2 h2 => ?_⟩
    walk_at "w"
    walk_at "ei"
    walk_at "mc"
    refine ⟨rfl, fun z3 h3 => ?_⟩
    walk_at "w"
    walk_at "ei"
    walk_at "mc"
    refine ⟨rfl, fun z4 h4 => ?_⟩
    walk_at "w"
    walk_at "ei"
    walk_at "mc"
    refine ⟨rfl, fun z5 h5 => ?_⟩
    walk_at "w"
    walk_at "ei"
    walk_at "mc"
    refine ⟨rfl, fun z6 h6 => ?_⟩
    walk_at "w"
    walk_at "ei"
    walk_at "mn"
    walk_at "ei"
    iterate 6
      walk_at "mc"
      walk_at "ei"
    walk_at "mn"
    walk_at "ei"
    rename_i j j0 j1 s s0 s1
    refine pick (fun x => ∃ p ∈ ndq q, x = nD p) s0 s1 ?_ fun x hx => ?_
    · exact ⟨⟨_, .head _, rfl⟩, ⟨_, .tail _ (.head _), rfl⟩, ⟨_, .tail _ (.tail _ (.head _)), rfl⟩, ⟨_, .tail _ (.tail _ (.tail _ (.head _))), rfl⟩, trivial⟩
    obtain ⟨o, ho, rfl⟩ := hx
    walk_at "w"
    walk_at "ei"
    rename_i z7 h7
    have hj : j = 0 ∨ j = 1 := by omega
    rcases hj with rfl | rfl
    all_goals
      iterate 7
        walk_at "fc"
        walk_at "ek"
        iterate 8 (try (refine And.intro (Nat.le_of_ble_eq_true rfl) ?_; conv => whnf))
      walk_at "fn"
      walk_at "ei"
      rename_i xs lx hx
      refine ⟨by rw [lx]; decide, ?_⟩
      walk_at "w"
      refine mosts_comp _ _ _ q _ _ _ _ _ _ _ _ _ _ _ xs _ hx fun ys ly hy => ?_
      walk_at "w"
      refine ⟨by (simp only [List.length_append, List.length_cons, List.length_nil, ly, lx] <;> decide), ?_⟩
      walk_at "w"
      refine ⟨by rw [lx]; decide, ?_⟩
      walk_at "w"
      refine late_comp _ _ _ q _ _ _ _ _ _ _ _ _ _ _ xs _ hx fun zs lz hz => ?_
      rw [lx] at lz
      walk_at "w"
      refine ⟨Nat.le_trans lz (by decide), ?_⟩
      walk_at "w"
      refine late2_comp _ _ _ q _ _ _ _ _ _ _ _ _ _ _ zs _ hz fun ws lw hw => ?_
      walk_at "w"
      refine ⟨Nat.le_trans (show _ ≤ 300 by (simp only [List.length_append, List.length_cons, List.length_nil, lw, ly, lx]; omega)) (by decide), ?_⟩
      walk_at "w"
      refine ⟨_, rfl, by (simp only [List.length_append, List.length_cons, List.length_nil, lw, ly, lx]; omega), by (simp only [List.length_append, List.length_cons, List.length_nil, lw, ly, lx]; omega), fun t t0 t1 => ?_⟩
      walk_at "w"
      refine pickB (badR q) t0 t1 ?_ fun d h => ?_
      · clear hb hl t1
        simp only [List.all_append, Bool.and_eq_true]
        repeat' apply And.intro
        all_goals first
          | exact hy
          | exact hw
          | (clear hx hy hz hw hp ho; revert q; decide +kernel)
          | (clear hx hy hz hw ho; revert p; revert q; decide +kernel)
          | (clear hx hy hz hw hp; revert o; revert q; decide +kernel)
          | (clear hx hy hz hw hp ho; revert z7; revert q; decide +kernel)
          | (simp only [List.all_cons, List.all_nil, word_badR hq h1, word_badR hq h2, word_badR hq h3, word_badR hq h4, word_badR hq h5, word_badR hq h6, Bool.and_true])
      · walk_at "w"
        exact ⟨[.opq false PenS, .none, .none], rfl, ⟨fun _ h => h, trivial, trivial, outs_nil⟩, hb _ h⟩⟩
end
end Y

namespace Y
open PySem PySem.Spec PyProof.Rows L2 L2.DL
section
variable {P : Program} {w : World} {K : PySem.W.Frag} {mg : Str → Option Value} {base : Heap}
/-! ### the law -/
theorem good_prog {q : N4} (hq : q ∈ n4L) : progB (ndD (ndq q)) (rowsD q) = true ∧ naB 2 (ndD (ndq q)) = true ∧ fnsJ (rowsD q) = true := by
  revert q
  decide +kernel
theorem ndOf_nd (q : N4) : ndOf (ndD (ndq q)) = ndq q := rfl
def rowK (q : N4) : Nat → D → D
  | 0, b => .tup [.str "fa", .tup [wd "size" [.str q.1]], b]
  | 1, b => .tup [.str "best", .tup [wd "need" [.str q.2.1], nu 4], b]
  | _, b => .tup [.str "thirdq", .tup [wd "size" [.str q.2.2.1], wd "full" [wd "size" [.str q.2.2.2]], nu 3], b]
theorem row_J {q : N4} (hq : q ∈ n4L) : (∀ b, wfB 12 NB b = true → rowJ (rowK q 0 b) = true ∧ rowJ (rowK q 1 b) = true ∧ rowJ (rowK q 2 b) = true) := by
  intro b hb
  have key : (mstJ (.tup [wd "size" [.str q.1]]) && (mstJ (.tup [wd "need" [.str q.2.1], nu 4]) && mstJ (.tup [wd "size" [.str q.2.2.1], wd "full" [wd "size" [.str q.2.2.2]], nu 3]))) = true := by
    revert q
    decide +kernel
  rw [Bool.and_eq_true, Bool.and_eq_true] at key
  refine ⟨?_, ?_, ?_⟩
  · show (true && (mstJ (.tup [wd "size" [.str q.1]]) && wfB 12 NB b)) = true
    rw [key.1, hb]; rfl
  · show (true && (mstJ (.tup [wd "need" [.str q.2.1], nu 4]) && wfB 12 NB b)) = true
    rw [key.2.1, hb]; rfl
  · show (true && (mstJ (.tup [wd "size" [.str q.2.2.1], wd "full" [wd "size" [.str q.2.2.2]], nu 3]) && wfB 12 NB b)) = true
    rw [key.2.2, hb]; rfl
theorem all3 {f : D → Bool} {a b c : D} : [a, b, c].all f = (f a && (f b && f c)) := by
  show (f a && (f b && (f c && true))) = _
  rw [Bool.and_true]
theorem badP_is {q : N4} {m : Nat} {b : D} (h : badP q m b = true) : wfB 12 NB b = true ∧ okB (NB + 1) q m b = false := by
  rw [badP, Bool.and_eq_true, Bool.not_eq_true'] at h
  exact h
/-- a program with a bad body is bad -/
theorem bad_row0 {q : N4} (hq : q ∈ n4L) {b : D} (h : badP q 1 b = true) : badR q (.tup [rowK q 0 b, row2 q.2.1 q.2.2.1, row3 q.2.2.1 q.2.2.2]) = true := by
  obtain ⟨hw, ho⟩ := badP_is h
  have j0 := ((row_J hq) b hw).1
  have j : rowJ (row2 q.2.1 q.2.2.1) = true ∧ rowJ (row3 q.2.2.1 q.2.2.2) = true := by
    clear h ho j0
    revert q
    decide +kernel
  rw [badR, Bool.and_eq_true, Bool.not_eq_true']
  refine ⟨?_, ?_⟩
  · show [_, _, _].all rowJ = true
    rw [all3, j0, j.1, j.2]; rfl
  · have e : bdyB (ndq q) [1, 2, 3] (rowK q 0 b) = false := ho
    have e3 : [rowK q 0 b, row2 q.2.1 q.2.2.1, row3 q.2.2.1 q.2.2.2].all (bdyB (ndq q) [1, 2, 3]) = false := by rw [all3, e]; rfl
    show (needsB (ndD (ndq q)) && ((true && true) && (_ && [rowK q 0 b, row2 q.2.1 q.2.2.1, row3 q.2.2.1 q.2.2.2].all (bdyB (ndq q) [1, 2, 3])))) = false
    rw [e3, Bool.and_false, Bool.and_false, Bool.and_false]
theorem bad_row1 {q : N4} (hq : q ∈ n4L) {b : D} (h : badP q 2 b = true) : badR q (.tup [row1 q.1, rowK q 1 b, row3 q.2.2.1 q.2.2.2]) = true := by
  obtain ⟨hw, ho⟩ := badP_is h
  have j0 := ((row_J hq) b hw).2.1
  have j : rowJ (row1 q.1) = true ∧ rowJ (row3 q.2.2.1 q.2.2.2) = true := by
    clear h ho j0
    revert q
    decide +kernel
  rw [badR, Bool.and_eq_true, Bool.not_eq_true']
  refine ⟨?_, ?_⟩
  · show [_, _, _].all rowJ = true
    rw [all3, j0, j.1, j.2]; rfl
  · have e : bdyB (ndq q) [1, 2, 3] (rowK q 1 b) = false := ho
    have e3 : [row1 q.1, rowK q 1 b, row3 q.2.2.1 q.2.2.2].all (bdyB (ndq q) [1, 2, 3]) = false := by rw [all3, e, Bool.false_and, Bool.and_false]
    show (needsB (ndD (ndq q)) && ((true && true) && (_ && [row1 q.1, rowK q 1 b, row3 q.2.2.1 q.2.2.2].all (bdyB (ndq q) [1, 2, 3])))) = false
    rw [e3, Bool.and_false, Bool.and_false, Bool.and_false]
theorem bad_row2 {q : N4} (hq : q ∈ n4L) {b : D} (h : badP q 3 b = true) : badR q (.tup [row1 q.1, row2 q.2.1 q.2.2.1, rowK q 2 b]) = true := by
  obtain ⟨hw, ho⟩ := badP_is h
  have j0 := ((row_J hq) b hw).2.2
  have j : rowJ (row1 q.1) = true ∧ rowJ (row2 q.2.1 q.2.2.1) = true := by
    clear h ho j0
    revert q
    decide +kernel
  rw [badR, Bool.and_eq_true, Bool.not_eq_true']
  refine ⟨?_, ?_⟩
  · show [_, _, _].all rowJ = true
    rw [all3, j0, j.1, j.2]; rfl
  · have e : bdyB (ndq q) [1, 2, 3] (rowK q 2 b) = false := ho
    have e3 : [row1 q.1, row2 q.2.1 q.2.2.1, rowK q 2 b].all (bdyB (ndq q) [1, 2, 3]) = false := by rw [all3, e, Bool.and_false, Bool.and_false]
    show (needsB (ndD (ndq q)) && ((true && true) && (_ && [row1 q.1, row2 q.2.1 q.2.2.1, rowK q 2 b].all (bdyB (ndq q) [1, 2, 3])))) = false
    rw [e3, Bool.and_false, Bool.and_false, Bool.and_false]
theorem badR_is {q : N4} {d : D} (h : badR q d = true) : fnsJ d = true ∧ progB (ndD (ndq q)) d = false := by
  rw [badR, Bool.and_eq_true, Bool.not_eq_true'] at h
  exact h
theorem badN_is {q : N4} {d : D} (h : badN q d = true) : naB 2 d = true ∧ progB d (rowsD q) = false := by
  rw [badN, Bool.and_eq_true, Bool.not_eq_true'] at h
  exact h
theorem bdy_wf {q : N4} (hq : q ∈ n4L) : wfB 12 36 (bdy1 q.1) = true ∧ wfB 12 36 (bdy2 q.2.2.1) = true ∧ wfB 12 36 (bdy3 q.2.2.2) = true := by
  revert q
  decide +kernel
abbrev rowL (q : N4) (c0 c4 c5 c6 c7 c8 c9 c10 c11 : Cell) : DEnv := [c0, .opq true PenS, .val (ndD (ndq q)), .val (rowsD q), c4, c5, c6, c7, c8, c9, c10, c11]
set_option maxHeartbeats 32000000 in
theorem law_turns (q : N4) (hq : q ∈ n4L) (DD : DEnds) (c0 : Cell) (h : ∀ c4 c5 c6 c7 c8 c9 c10 c11, DD.nx (rowL q c0 c4 c5 c6 c7 c8 c9 c10 c11)) : ∀ (ds : List D) (c4 c5 c6 c7 c8 c9 c10 c11 : Cell),
    forL (fun d DD env => gN 4 d env fun env2 => t_law_1 sp_l_pen sp_l_needs sp_l_rows sp_l_told sp_l_take sp_l_bad_needs sp_l_bad_rows sp_l_put sp_l_bad_body DD env2) ds DD (rowL q c0 c4 c5 c6 c7 c8 c9 c10 c11)
  | [], c4, c5, c6, c7, c8, c9, c10, c11 => by
    walk_at "fn"
    exact h _ _ _ _ _ _ _ _
  | d :: r, c4, c5, c6, c7, c8, c9, c10, c11 => by
    have ih := law_turns q hq DD c0 h r
    obtain ⟨g1, g2, g3⟩ := good_prog hq
    have tl : ∀ {d e : D}, progB d e = false → ¬ progB d e = true := fun h e => by rw [h] at e; cases e
    walk_at "fc"
    refine ⟨ndD (ndq q), rowsD q, rfl, g2, g3, fun _ => ?_, fun e => by rw [g1] at e; cases e⟩
    walk_at "w"
    walk_at "ei"
    rename_i way w0 w1
    have hw : way = 0 ∨ way = 1 ∨ way = 2 := by omega
    rcases hw with rfl | rfl | rfl
    · walk_at "w"
      refine ⟨q, rfl, hq, fun d h => ?_⟩
      walk_at "w"
      refine ⟨d, rowsD q, rfl, (badN_is h).1, g3, fun e => absurd e (tl (badN_is h).2), fun _ => ?_⟩
      walk_at "w"
      exact ih _ _ _ _ _ _ _ _
    · walk_at "w"
      refine ⟨q, rfl, hq, fun d h => ?_⟩
      walk_at "w"
      refine ⟨ndD (ndq q), d, rfl, g2, (badR_is h).1, fun e => absurd e (tl (badR_is h).2), fun _ => ?_⟩
      walk_at "w"
      exact ih _ _ _ _ _ _ _ _
    · walk_at "w"
      walk_at "ei"
      rename_i k k0 k1
      have hk : k = 0 ∨ k = 1 ∨ k = 2 := by omega
      obtain ⟨f1, f2, f3⟩ := bdy_wf hq
      rcases hk with rfl | rfl | rfl
      · walk_at "w"
        walk_at "ei"
        refine ⟨show 1 ∈ mL by decide, fun b hb => ?_⟩
        have hb : badB q 1 b = true := hb
        walk_at "w"
        refine ⟨q, 1, bdy1 q.1, b, rfl, f1, rfl, hb, fun d hd => ?_⟩
        walk_at "w"
        walk_at "ei"
        have hR := bad_row0 hq hd
        refine ⟨(badR_is hR).1, fun e => absurd e (tl (badR_is hR).2), fun _ => ?_⟩
        walk_at "w"
        exact ih _ _ _ _ _ _ _ _
      · walk_at "w"
        walk_at "ei"
        refine ⟨show 2 ∈ mL by decide, fun b hb => ?_⟩
        have hb : badB q 2 b = true := hb
        walk_at "w"
        refine ⟨q, 2, bdy2 q.2.2.1, b, rfl, f2, rfl, hb, fun d hd => ?_⟩
        walk_at "w"
        walk_at "ei"
        have hR := bad_row1 hq hd
        refine ⟨(badR_is hR).1, fun e => absurd e (tl (badR_is hR).2), fun _ => ?_⟩
        walk_at "w"
        exact ih _ _ _ _ _ _ _ _
      · walk_at "w"
        walk_at "ei"
        refine ⟨show 3 ∈ mL by decide, fun b hb => ?_⟩
        have hb : badB q 3 b = true := hb
        walk_at "w"
        refine ⟨q, 3, bdy3 q.2.2.2, b, rfl, f3, rfl, hb, fun d hd => ?_⟩
        walk_at "w"
        walk_at "ei"
        have hR := bad_row2 hq hd
        refine ⟨(badR_is hR).1, fun e => absurd e (tl (badR_is hR).2), fun _ => ?_⟩
        walk_at "w"
        exact ih _ _ _ _ _ _ _ _
def sp_law : FSpec := fun cs Q => ∃ ns : List Int, cs = [.val (.scr (ns.map D.int))] ∧ Q (.bl true) [.none]
set_option maxHeartbeats 4000000 in
theorem ok_law (T : Txt K w mg) : K_law P w base T 212 sp_law :=
  okD T.F_law sc_law fun cdv A outer s H E B cs Q hr hl hs => ⟨_, d_law T (ok_l_pen T) (by decide) (ok_l_needs T) (by decide) (ok_l_rows T) (by decide) (ok_l_told T) (by decide) (ok_l_take T) (by decide) (ok_l_bad_needs T) (by decide) (ok_l_bad_rows T) (by decide) (ok_l_put T) (by decide) (ok_l_bad_body T) (by decide) hr, by
    obtain ⟨ns, rfl, hq⟩ := hs
    walk_at "w"
    walk_at "ei"
    refine ⟨⟨ns, 0, 0, rfl⟩, ?_⟩
    walk_at "w"
    refine ⟨rfl, fun q hq2 => ?_⟩
    obtain ⟨g1, g2, g3⟩ := good_prog hq2
    walk_at "w"
    refine ⟨q, rfl, ?_⟩
    walk_at "w"
    walk_at "ei"
    refine law_turns q hq2 _ _ (fun c4 c5 c6 c7 c8 c9 c10 c11 => ?_) _ _ _ _ _ _ _ _ _
    walk_at "w"
    refine ⟨ndD (ndq q), rowsD q, rfl, g2, g3, fun _ => ?_, fun e => by rw [g1] at e; cases e⟩
    walk_at "w"
    exact ⟨[.none], rfl, ⟨trivial, outs_nil⟩, hq⟩⟩
abbrev LV := 212
theorem law_asks (ns : List Int) (hl : ns.length ≤ 63) : sp_law [.val (.scr (ns.map D.int))] (fun d _ => d = .bl true) := ⟨ns, rfl, rfl⟩
end
end Y

open PySem PySem.W PyProof.Rows
set_option maxRecDepth 100000 in
set_option maxHeartbeats 0 in
theorem PySem.Challenge.cw_roomtables_k08_no_programs_holds : PySem.Challenge.rw_roomtables_k08_no_programs.Holds := by
  refine Y.headZ Y.runZ ?hc
  case hc =>
    refine L2.DL.walk_fk (l := PySem.Challenge.rw_roomtables_k08_no_programs) (n := 63) (k := Y.LV) (x := "_law_script") rfl (by decide) (by kernel_rfl) ⟨⟨rfl, by decide, by decide⟩, rfl⟩ ?F
    intro w mg fa h Y G hmg0
    obtain ⟨K, KX, c⟩ := Y
    have hmg : mg ("law" : PySem.Str) = some (.ref fa) := by
      have e : (HandSHeadRun.topDef (PySem.W.OpenLaw.row PySem.Challenge.rw_roomtables_k08_no_programs).prog 70).name = ("law" : PySem.Str) := by kernel_rfl
      rw [← e]
      exact hmg0
    obtain ⟨T, hl, hb⟩ := Y.txt_z (mg := mg) KX G c
    have e := hmg.symm.trans hl
    cases e
    exact ⟨K, T.d_law, L2.DL.spLaw K, KX, hb, fun H a ns hl _ hS => ⟨a, ns, rfl, hS, hl, fun v _ h => h⟩, fun base _ _ => L2.DL.law_weak (Y.ok_law T) Y.law_asks⟩

