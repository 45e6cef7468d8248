import PyProof.Rows.All
import Wide.All
import OpenK.AllK
import Wide.FinOn
import Lean
import PySem.Challenge.RW_on0373_01
open PySem PySem.W PyProof.Rows PySem.Calls
set_option Elab.async false
set_option linter.all false
set_option tactic.hygienic false
set_option genInjectivity false
set_option genSizeOf false
set_option maxRecDepth 100000
namespace Lw.Internal
inductive V where
  | none
  | bool (b : Bool)
  | int (i : Int)
  | str (l : List Nat)
  | tup (vs : List V)
  | obj (a : Nat)
deriving Inhabited
inductive O where
  | list (vs : List V)
  | dicti (ep : Nat) (kvs : List (Int × V))
  | dicts (kvs : List (List Nat × V))
  | dictt (ep : Nat) (kvs : List (List Int × V))
  | dicta (kvs : List (Str × V))
  | inst (c d : Nat)
deriving Inhabited
noncomputable abbrev Own := Nat → Option O
noncomputable abbrev S (l : List Nat) : Str := ⟨l.toArray⟩
mutual
noncomputable def VR (h : Heap) : V → Value → Prop
  | .none, v => v = .none
  | .bool b, v => v = .bool b
  | .int i, v => ∃ t, v = .int i t
  | .str l, v => ∃ t, v = .str (S l) t
  | .tup vs, v => ∃ a its, v = .ref a ∧ h.get? a = some { cls := .type "tuple", data := .seq its } ∧ VRs h vs its.toList
  | .obj a, v => v = .ref a
noncomputable def VRs (h : Heap) : List V → List Value → Prop
  | [], l => l = []
  | x :: xs, l => ∃ v r, l = v :: r ∧ VR h x v ∧ VRs h xs r
end
noncomputable def KVs {K K' : Type} (f : K → K') (h : Heap) : List (K × V) → List (K' × Value) → Prop
  | [], l => l = []
  | (k, v) :: r, l => ∃ x t, l = (f k, x) :: t ∧ VR h v x ∧ KVs f h r t
noncomputable def KVt (h : Heap) : List (List Int × V) → List (List Int × Addr × Value) → Prop
  | [], l => l = []
  | (k, v) :: r, l => ∃ a x t, l = (k, a, x) :: t ∧ VR h v x ∧ KVt h r t
noncomputable def AKV (h : Heap) : List (Str × V) → List DictEntry → Prop
  | [], l => l = []
  | (k, v) :: r, l => ∃ e t tk, l = e :: t ∧ e.key = .str k tk ∧ VR h v e.val ∧ AKV h r t
noncomputable def DictT (prog : Program) (w : World) (h : Heap) (d : Addr) (ep : Nat) (xs : List (List Int × Addr × Value)) : Prop :=
  ∃ o es, h.get? d = some o ∧ o.ExactDict ∧ o.data = .dict es ep ∧ es.toList = xs.map (entryOfKey (tupleKind (intKind prog w))) ∧ (∀ x ∈ xs, VR h (.tup (x.1.map V.int)) (.ref x.2.1)) ∧ (xs.map (·.1)).Nodup
noncomputable def ObjAt (prog : Program) (w : World) (h : Heap) (a : Nat) : O → Prop
  | .list vs => ∃ its n, h.get? a = some { cls := .type "list", data := .seq its n } ∧ VRs h vs its.toList
  | .dicti ep kvs => ∃ xs, h.DictAt (intKind prog w) a xs ep ∧ KVs id h kvs xs
  | .dicts kvs => ∃ xs, h.DictOf (strKind prog w) a xs ∧ KVs S h kvs xs
  | .dictt ep kvs => ∃ xs, DictT prog w h a ep xs ∧ KVt h kvs xs
  | .dicta kvs => ∃ es n, h.get? a = some { cls := .type "dict", data := .dict (List.toArray es) n } ∧ AKV h kvs es
  | .inst c d => h.get? a = some { cls := .ref c, dict := some d, data := .plain }
structure Base where
  K : Frag
  h₀ : Heap
  P : Nat
  gens : Array GenState
  os : OsState
  mg : Str → Option Value
  mb : Str → Option Value
  p : Program
  loose : List Str
  line : Int
  col : Int
  cname : Str
noncomputable def TabSt (B : Base) (h : Heap) : Prop :=
  h.get? B.P = some { cls := .none, data := .fields #[] } ∨
  ∃ c oc vs t, h.get? B.P = some { cls := .none, data := .fields #[.int B.line 0, .int B.col 0, .ref c] } ∧ h.get? c = some oc ∧ oc.cls = .type "code" ∧ oc.data = .fields vs ∧ vs[1]? = some (.str B.cname t)
structure Base.Ok (B : Base) : Prop where
  K : B.K.In B.h₀
  T : TopRead B.p B.loose B.mg B.mb B.h₀
  P : B.h₀.get? B.P = none
  M : ∃ o, B.h₀.get? sysModules = some o
  lam : CodeHd B.h₀ 114 B.P ∧ B.h₀.BuiltinsAt B.mg B.P
  pin : B.line = 92 ∧ B.col = 53 ∧ B.cname = ⟨#[102, 111, 114, 109, 95, 115, 111, 114, 116, 101, 100, 46, 60, 108, 111, 99, 97, 108, 115, 62, 46, 60, 108, 97, 109, 98, 100, 97, 62]⟩
structure St (prog : Program) (w : World) (B : Base) (own : Own) (s : Shared) : Prop where
  keep : ∀ b o, B.h₀.get? b = some o → s.heap.get? b = some o
  gens : s.gens = B.gens
  os : s.os = B.os
  obj : ∀ a o, own a = some o → ObjAt prog w s.heap a o ∧ B.h₀.get? a = none ∧ a ≠ B.P
  tab : TabSt B s.heap
structure Fn where
  loc : List (Str × Bool)
  glb : List Str
  ro : Bool := false
  code : Option (Value × Str) := none
structure Cx (Γ : Fn) (env : Env) (FA : List Nat) : Prop where
  kind : env.scope.kind = .function
  glob : env.globals = mainGlobals
  blt : env.builtins = builtinsNs
  loc : ∀ x b, (x, b) ∈ Γ.loc → env.kindOf x = some (if b then .cell else .local)
  cell : ∀ x, (x, true) ∈ Γ.loc → ∃ c, env.cells.lookup x = some c ∧ (Γ.ro = false → c ∈ FA) ∧ c ≠ env.locals
  apart : ∀ x y c, (x, true) ∈ Γ.loc → (y, true) ∈ Γ.loc → env.cells.lookup x = some c → env.cells.lookup y = some c → x = y
  nodup : (Γ.loc.map (·.1)).Nodup
  glb : ∀ x ∈ Γ.glb, env.kindOf x = some .globalImplicit
  L : env.locals ∈ FA
  code : ∀ q, Γ.code = some q → env.code = q.1 ∧ env.qual = q.2
noncomputable def Fixed (o : Obj) : Prop := (o.cls = .type "tuple" ∧ ∃ xs n, o.data = .seq xs n) ∨ (o.cls = .type "code" ∧ ∃ vs, o.data = .fields vs)
noncomputable def FrD (o : Obj) : Prop := (∃ es ep, o.data = .dict es ep) ∨ ∃ v, o.data = .cell v
theorem FrD.not {o : Obj} (h : FrD o) : ¬ Fixed o := by
  rintro (⟨_, xs, n, e⟩ | ⟨_, vs, e⟩) <;> rcases h with ⟨_, _, h⟩ | ⟨_, h⟩ <;> rw [h] at e <;> cases e
theorem Fixed.cls {o : Obj} (h : Fixed o) : o.cls = .type "tuple" ∨ o.cls = .type "code" := by
  rcases h with h | h
  · exact .inl h.1
  · exact .inr h.1
structure FAok (B : Base) (FA : List Nat) (own : Own) (s : Shared) : Prop where
  own : ∀ a ∈ FA, own a = none
  hi : ∀ a ∈ FA, B.h₀.get? a = none
  obj : ∀ a ∈ FA, ∃ o, s.heap.get? a = some o ∧ FrD o
noncomputable def LocAt (h : Heap) (env : Env) (m : Str → Option Value) (x : Str) (b : Bool) (v : Option V) : Prop :=
  match b with
  | false => match v with
    | some v => ∃ val, m x = some val ∧ VR h v val
    | none => True
  | true => ∃ c val, env.cells.lookup x = some c ∧ h.IsCell c val ∧ match v with
    | some v => ∃ val', val = some val' ∧ VR h v val'
    | none => True
structure Loc (B : Base) (Γ : Fn) (env : Env) (FA : List Nat) (l : List (Option V)) (own : Own) (s : Shared) : Prop where
  fa : FAok B FA own s
  ns : ∃ m, s.heap.Ns env.locals m ∧ ∀ (i : Nat) x b, Γ.loc[i]? = some (x, b) → LocAt s.heap env m x b ((l[i]?).getD none)
  cells : ∀ x c, (x, true) ∈ Γ.loc → env.cells.lookup x = some c → own c = none ∧ ∃ o, s.heap.get? c = some o ∧ FrD o
structure Stp (B : Base) (FA : List Nat) (own own' : Own) (s s' : Shared) : Prop where
  oth : ∀ a o, s.heap.get? a = some o → a ∉ FA → own a = none → a ≠ B.P → s'.heap.get? a = some o
  new : ∀ a, (own' a).isSome → (own a).isSome ∨ s.heap.get? a = none
  stay : ∀ a o, s.heap.get? a = some o → ∃ o', s'.heap.get? a = some o'
structure Bud (d : Nat) (A : Around) : Prop where
  hd : A.handled = none
  depth : A.depth + 3 * d + 3 ≤ recursionLimit
  units : A.units + 20 * d + 200 ≤ cLine
structure Now (prog : Program) (w : World) (B : Base) (d : Nat) (Γ : Fn) (A : Around) (env : Env) (FA : List Nat) (l : List (Option V)) (own : Own) (s : Shared) : Prop where
  ok : B.Ok
  bud : Bud d A
  cx : Cx Γ env FA
  st : St prog w B own s
  loc : Loc B Γ env FA l own s
section
variable {prog : Program} {w : World} {B : Base} {d : Nat} {Γ : Fn} {A : Around} {env : Env} {FA : List Nat} {l : List (Option V)} {own own' own'' : Own} {s s' s'' : Shared}
theorem Stp.refl : Stp B FA own own s s := ⟨fun _ _ e _ _ _ => e, fun _ h => .inl h, fun _ o e => ⟨o, e⟩⟩
theorem Stp.trans (x : Stp B FA own own' s s') (y : Stp B FA own' own'' s' s'') : Stp B FA own own'' s s'' := by
  have back : ∀ a, s'.heap.get? a = none → s.heap.get? a = none := fun a e => by
    cases q : s.heap.get? a with
    | none => rfl
    | some o => obtain ⟨o', e'⟩ := x.stay a o q; rw [e] at e'; cases e'
  refine ⟨fun a o e hf ho hp => ?_, fun a h => ?_, fun a o e => ?_⟩
  · refine y.oth a o (x.oth a o e hf ho hp) hf ?_ hp
    cases q : own' a with
    | none => rfl
    | some o' =>
      rcases x.new a (by rw [q]; rfl) with z | z
      · rw [ho] at z; cases z
      · rw [e] at z; cases z
  · rcases y.new a h with z | z
    · exact x.new a z
    · exact .inr (back a z)
  · obtain ⟨o', e'⟩ := x.stay a o e
    exact y.stay a o' e'
noncomputable def Tups (h h' : Heap) : Prop := ∀ a o, h.get? a = some o → Fixed o → h'.get? a = some o
mutual
theorem VR.mono {h h' : Heap} (k : Tups h h') : ∀ {v : V} {x : Value}, VR h v x → VR h' v x
  | .none, _, e => by simpa [VR] using e
  | .bool _, _, e => by simpa [VR] using e
  | .int _, _, e => by simpa [VR] using e
  | .str _, _, e => by simpa [VR] using e
  | .obj _, _, e => by simpa [VR] using e
  | .tup vs, _, e => by
    simp only [VR] at e ⊢
    obtain ⟨a, its, rfl, hg, hs⟩ := e
    exact ⟨a, its, rfl, k _ _ hg (.inl ⟨rfl, _, _, rfl⟩), VRs.mono k hs⟩
theorem VRs.mono {h h' : Heap} (k : Tups h h') : ∀ {vs : List V} {xs : List Value}, VRs h vs xs → VRs h' vs xs
  | [], _, e => by simpa [VRs] using e
  | _ :: _, _, e => by
    simp only [VRs] at e ⊢
    obtain ⟨v, r, rfl, h1, h2⟩ := e
    exact ⟨v, r, rfl, VR.mono k h1, VRs.mono k h2⟩
end
theorem KVs.mono {K K' : Type} {f : K → K'} {h h' : Heap} (k : Tups h h') : ∀ {kvs : List (K × V)} {es : List (K' × Value)}, KVs f h kvs es → KVs f h' kvs es
  | [], _, e => by simpa [KVs] using e
  | (_, _) :: _, _, e => by
    simp only [KVs] at e ⊢
    obtain ⟨x, t, rfl, h1, h2⟩ := e
    exact ⟨x, t, rfl, VR.mono k h1, KVs.mono k h2⟩
theorem KVt.mono {h h' : Heap} (k : Tups h h') : ∀ {kvs : List (List Int × V)} {es : List (List Int × Addr × Value)}, KVt h kvs es → KVt h' kvs es
  | [], _, e => by simpa [KVt] using e
  | (_, _) :: _, _, e => by
    simp only [KVt] at e ⊢
    obtain ⟨a, x, t, rfl, h1, h2⟩ := e
    exact ⟨a, x, t, rfl, VR.mono k h1, KVt.mono k h2⟩
theorem AKV.mono {h h' : Heap} (k : Tups h h') : ∀ {kvs : List (Str × V)} {es : List DictEntry}, AKV h kvs es → AKV h' kvs es
  | [], _, e => by simpa [AKV] using e
  | (_, _) :: _, _, e => by
    simp only [AKV] at e ⊢
    obtain ⟨en, t, tk, rfl, h1, h2, h3⟩ := e
    exact ⟨en, t, tk, rfl, h1, VR.mono k h2, AKV.mono k h3⟩
theorem ObjAt.get {h : Heap} {a : Nat} {o : O} (x : ObjAt prog w h a o) : ∃ ob, h.get? a = some ob ∧ ¬ Fixed ob ∧ ob.cls ≠ .none := by
  have dd : ∀ {ob : Obj}, ob.cls = .type "dict" → ¬ Fixed ob ∧ ob.cls ≠ .none := fun e => ⟨fun q => by rcases q.cls with q | q <;> rw [e] at q <;> simp at q, by rw [e]; simp⟩
  cases o with
  | list vs => obtain ⟨its, n, e, _⟩ := x; exact ⟨_, e, fun q => by rcases q.cls with q | q <;> simp at q, by simp⟩
  | dicti ep kvs => obtain ⟨xs, ⟨o, es, e, hx, _⟩, _⟩ := x; exact ⟨_, e, dd hx.1⟩
  | dicts kvs => obtain ⟨xs, ⟨o, es, ep, e, hx, _⟩, _⟩ := x; exact ⟨_, e, dd hx.1⟩
  | dictt ep kvs => obtain ⟨xs, ⟨o, es, e, hx, _⟩, _⟩ := x; exact ⟨_, e, dd hx.1⟩
  | dicta kvs => obtain ⟨es, n, e, _⟩ := x; exact ⟨_, e, dd rfl⟩
  | inst c d => exact ⟨_, x, fun q => by rcases q.cls with q | q <;> simp at q, by simp⟩
theorem ObjAt.mono {h h' : Heap} {a : Nat} {o : O} (k : Tups h h') (e : h'.get? a = h.get? a) (x : ObjAt prog w h a o) : ObjAt prog w h' a o := by
  cases o with
  | list vs => obtain ⟨its, n, e1, e2⟩ := x; exact ⟨its, n, e.trans e1, e2.mono k⟩
  | dicti ep kvs => obtain ⟨xs, ⟨o, es, e1, r⟩, e2⟩ := x; exact ⟨xs, ⟨o, es, e.trans e1, r⟩, e2.mono k⟩
  | dicts kvs => obtain ⟨xs, ⟨o, es, ep, e1, r⟩, e2⟩ := x; exact ⟨xs, ⟨o, es, ep, e.trans e1, r⟩, e2.mono k⟩
  | dictt ep kvs =>
    obtain ⟨xs, ⟨o, es, e1, e2, e3, e4, e5, e6⟩, e7⟩ := x
    exact ⟨xs, ⟨o, es, e.trans e1, e2, e3, e4, fun y hy => (e5 y hy).mono k, e6⟩, e7.mono k⟩
  | dicta kvs => obtain ⟨es, n, e1, e2⟩ := x; exact ⟨es, n, e.trans e1, e2.mono k⟩
  | inst c d => exact e.trans x
theorem LocAt.mono {h h' : Heap} {m : Str → Option Value} {x : Str} {b : Bool} {v : Option V} (k : Tups h h') (hc : b = true → ∀ c, env.cells.lookup x = some c → h'.get? c = h.get? c) (e : LocAt h env m x b v) : LocAt h' env m x b v := by
  cases b with
  | false => cases v with
    | none => trivial
    | some v => obtain ⟨val, e1, e2⟩ := e; exact ⟨val, e1, e2.mono k⟩
  | true =>
    obtain ⟨c, val, e1, ⟨o, e2, e2'⟩, e3⟩ := e
    refine ⟨c, val, e1, ⟨o, (hc rfl c e1).trans e2, e2'⟩, ?_⟩
    cases v with
    | none => trivial
    | some v => obtain ⟨val', e4, e5⟩ := e3; exact ⟨val', e4, e5.mono k⟩
theorem TabSt.get {h : Heap} (x : TabSt B h) : ∃ o, h.get? B.P = some o ∧ o.cls = .none := by
  rcases x with e | ⟨c, oc, vs, t, e, _⟩
  · exact ⟨_, e, rfl⟩
  · exact ⟨_, e, rfl⟩
theorem Stp.tups (x : Stp B FA own own' s s') (f : FAok B FA own s) (t : St prog w B own s) : Tups s.heap s'.heap := by
  intro a o e hc
  refine x.oth a o e (fun hf => ?_) ?_ (fun hp => ?_)
  · obtain ⟨o', e', n1⟩ := f.obj a hf
    rw [e] at e'; cases e'; exact n1.not hc
  · cases q : own a with
    | none => rfl
    | some o' =>
      exfalso
      obtain ⟨ob, e', n1, _⟩ := (t.obj a o' q).1.get
      rw [e] at e'; cases e'; exact n1 hc
  · obtain ⟨o', e', n⟩ := t.tab.get
    rw [← hp, e] at e'; cases e'
    rcases hc.cls with h | h <;> rw [n] at h <;> cases h
theorem Loc.cells_keep (N : Loc B Γ env FA l own s) (hn : ∀ a, (own' a).isSome → (own a).isSome ∨ s.heap.get? a = none) (hk : ∀ c o, own c = none → FrD o → s.heap.get? c = some o → ∃ o', s'.heap.get? c = some o' ∧ FrD o') :
    ∀ x c, (x, true) ∈ Γ.loc → env.cells.lookup x = some c → own' c = none ∧ ∃ o, s'.heap.get? c = some o ∧ FrD o := fun x c hx hc => by
  obtain ⟨h1, o, h2, h3⟩ := N.cells x c hx hc
  refine ⟨?_, hk c o h1 h3 h2⟩
  cases q : own' c with
  | none => rfl
  | some o' =>
    rcases hn c (by rw [q]; rfl) with z | z
    · rw [h1] at z; cases z
    · rw [h2] at z; cases z
noncomputable def Own.put (own : Own) (a : Nat) (o : O) : Own := fun x => if x = a then some o else own x
theorem Own.put_self (own : Own) (a : Nat) (o : O) : own.put a o a = some o := by simp [Own.put]
theorem Own.put_ne (own : Own) {a b : Nat} (o : O) (h : b ≠ a) : own.put a o b = own b := by simp [Own.put, h]
theorem TabSt.mono {h h' : Heap} (x : TabSt B h) (k : Tups h h') (e : h'.get? B.P = h.get? B.P) : TabSt B h' := by
  rcases x with q | ⟨c, oc, vs, t, q, q2, q3, q4, q5⟩
  · exact .inl (e.trans q)
  · exact .inr ⟨c, oc, vs, t, e.trans q, k _ _ q2 (.inr ⟨q3, _, q4⟩), q3, q4, q5⟩
theorem Now.upd (N : Now prog w B d Γ A env FA l own s) {a : Nat} {o o' : O} (ha : own a = some o) {h' : Heap} {tk : Nat} (hs : Heap.SameBut a s.heap h') (ho : ObjAt prog w h' a o') :
    Now prog w B d Γ A env FA l (own.put a o') { s with heap := h', toks := tk } ∧ Stp B FA own (own.put a o') s { s with heap := h', toks := tk } := by
  obtain ⟨x1, x2, x3⟩ := N.st.obj a o ha
  obtain ⟨ob, e1, n1, _⟩ := x1.get
  have k : Tups s.heap h' := fun b o2 e hc => (hs.2 b (fun q => by subst q; rw [e1] at e; cases e; exact n1 hc)).trans e
  have st' : Stp B FA own (own.put a o') s { s with heap := h', toks := tk } := by
    refine ⟨fun b o2 e hf hn hp => ?_, fun b hb => ?_, fun b o2 e => ?_⟩
    case refine_3 =>
      by_cases q : b = a
      · subst q; obtain ⟨ob', e', _⟩ := ho.get; exact ⟨ob', e'⟩
      · exact ⟨o2, (hs.2 b q).trans e⟩
    · exact (hs.2 b (fun q => by subst q; rw [ha] at hn; cases hn)).trans e
    · by_cases q : b = a
      · subst q; exact .inl (by rw [ha]; rfl)
      · rw [Own.put_ne _ _ q] at hb; exact .inl hb
  have haF : a ∉ FA := fun hf => by rw [N.loc.fa.own a hf] at ha; cases ha
  refine ⟨⟨N.ok, N.bud, N.cx, ⟨fun b o2 e => ?_, N.st.gens, N.st.os, fun b o2 e => ?_, ?_⟩, ⟨⟨fun b hb => ?_, N.loc.fa.hi, fun b hb => ?_⟩, ?_, N.loc.cells_keep st'.new fun c o h1 h2 h3 => ⟨o, (hs.2 c (fun q => by subst q; rw [ha] at h1; cases h1)).trans h3, h2⟩⟩⟩, st'⟩
  · exact (hs.2 b (fun q => by subst q; rw [x2] at e; cases e)).trans (N.st.keep b o2 e)
  · by_cases q : b = a
    · subst q; rw [Own.put_self] at e; cases e; exact ⟨ho, x2, x3⟩
    · rw [Own.put_ne _ _ q] at e
      obtain ⟨y1, y2, y3⟩ := N.st.obj b o2 e
      exact ⟨y1.mono k (hs.2 b q), y2, y3⟩
  · exact N.st.tab.mono k (hs.2 _ (Ne.symm x3))
  · have q : b ≠ a := fun q => haF (q ▸ hb)
    show own.put a o' b = none
    rw [Own.put_ne _ _ q]; exact N.loc.fa.own b hb
  · obtain ⟨o2, q1, q2⟩ := N.loc.fa.obj b hb
    exact ⟨o2, (hs.2 b (fun q => haF (q ▸ hb))).trans q1, q2⟩
  · obtain ⟨m, hm, hl⟩ := N.loc.ns
    refine ⟨m, hm.sameBut hs (fun q => haF (q ▸ N.cx.L)), fun i x b e => (hl i x b e).mono k (fun hb c hc => hs.2 c (fun q => ?_))⟩
    subst hb
    have := (N.loc.cells x c (List.mem_of_getElem? e) hc).1
    rw [q, ha] at this; cases this
structure Ext (h h' : Heap) : Prop where
  keep : ∀ b o, h.get? b = some o → h'.get? b = some o
theorem Ext.push (h : Heap) (o : Obj) : Ext h (h.push o) := ⟨fun _ _ e => Heap.get?_push_of_some o e⟩
theorem Ext.refl (h : Heap) : Ext h h := ⟨fun _ _ e => e⟩
theorem Ext.tups {h h' : Heap} (x : Ext h h') : Tups h h' := fun a o e _ => x.keep a o e
theorem LocAt.ext {h h' : Heap} {m : Str → Option Value} {x : Str} {b : Bool} {v : Option V} (k : Ext h h') (e : LocAt h env m x b v) : LocAt h' env m x b v := by
  cases b with
  | false => exact e.mono k.tups (fun h => by cases h)
  | true =>
    obtain ⟨c, val, e1, ⟨o, e2, e2'⟩, e3⟩ := e
    refine ⟨c, val, e1, ⟨o, k.keep _ _ e2, e2'⟩, ?_⟩
    cases v with
    | none => trivial
    | some v => obtain ⟨val', e4, e5⟩ := e3; exact ⟨val', e4, e5.mono k.tups⟩
theorem ObjAt.ext {h h' : Heap} {a : Nat} {o : O} (k : Ext h h') (x : ObjAt prog w h a o) : ObjAt prog w h' a o := by
  obtain ⟨ob, e, _⟩ := x.get
  exact x.mono k.tups ((k.keep _ _ e).trans e.symm)
theorem Now.ext (N : Now prog w B d Γ A env FA l own s) {h' : Heap} {tk : Nat} (k : Ext s.heap h') :
    Now prog w B d Γ A env FA l own { s with heap := h', toks := tk } ∧ Stp B FA own own s { s with heap := h', toks := tk } := by
  refine ⟨⟨N.ok, N.bud, N.cx, ⟨fun b o2 e => k.keep _ _ (N.st.keep b o2 e), N.st.gens, N.st.os, fun b o2 e => ?_, ?_⟩, ⟨⟨N.loc.fa.own, N.loc.fa.hi, fun b hb => ?_⟩, ?_, N.loc.cells_keep (fun a h => .inl h) fun c o _ h2 h3 => ⟨o, k.keep c o h3, h2⟩⟩⟩, ⟨fun a o e _ _ _ => k.keep a o e, fun a h => .inl h, fun a o e => ⟨o, k.keep a o e⟩⟩⟩
  · obtain ⟨y1, y2, y3⟩ := N.st.obj b o2 e
    exact ⟨y1.ext k, y2, y3⟩
  · obtain ⟨o, e, _⟩ := N.st.tab.get
    exact N.st.tab.mono k.tups ((k.keep _ _ e).trans e.symm)
  · obtain ⟨o2, q1, q2⟩ := N.loc.fa.obj b hb
    exact ⟨o2, k.keep _ _ q1, q2⟩
  · obtain ⟨m, hm, hl⟩ := N.loc.ns
    exact ⟨m, hm.keeps k.keep, fun i x b e => (hl i x b e).ext k⟩
theorem top (h : Heap) : h.get? h.objs.size = none := by
  cases q : h.get? h.objs.size with
  | none => rfl
  | some o => exact absurd (Heap.lt_size q) (Nat.lt_irrefl _)
theorem Now.fresh (N : Now prog w B d Γ A env FA l own s) {a : Nat} (h : s.heap.get? a = none) : own a = none := by
  cases q : own a with
  | none => rfl
  | some o =>
    obtain ⟨ob, e', _⟩ := (N.st.obj a o q).1.get
    rw [h] at e'; cases e'
theorem Now.gain (N : Now prog w B d Γ A env FA l own s) {h' : Heap} {tk : Nat} {a : Nat} {o : O} (k : Ext s.heap h') (ha : s.heap.get? a = none) (ho : ObjAt prog w h' a o) :
    Now prog w B d Γ A env FA l (own.put a o) { s with heap := h', toks := tk } ∧ Stp B FA own (own.put a o) s { s with heap := h', toks := tk } := by
  obtain ⟨M, _⟩ := N.ext (tk := tk) k
  have hP : a ≠ B.P := fun q => by
    obtain ⟨o, e, _⟩ := N.st.tab.get
    rw [← q, ha] at e; cases e
  have hF : a ∉ FA := fun hf => by
    obtain ⟨o2, q1, q2⟩ := N.loc.fa.obj a hf
    rw [ha] at q1; cases q1
  have h0 : B.h₀.get? a = none := by
    cases q : B.h₀.get? a with
    | none => rfl
    | some o => have := N.st.keep a o q; rw [ha] at this; cases this
  refine ⟨⟨M.ok, M.bud, M.cx, ⟨M.st.keep, M.st.gens, M.st.os, fun b o2 e => ?_, M.st.tab⟩, ⟨⟨fun b hb => ?_, M.loc.fa.hi, M.loc.fa.obj⟩, M.loc.ns, N.loc.cells_keep (fun b hb => ?_) fun c o _ h2 h3 => ⟨o, k.keep c o h3, h2⟩⟩⟩, ⟨fun b o2 e _ _ _ => k.keep b o2 e, fun b hb => ?_, fun b o2 e => ⟨o2, k.keep b o2 e⟩⟩⟩
  · by_cases q : b = a
    · subst q; rw [Own.put_self] at e; cases e
      exact ⟨ho, h0, hP⟩
    · rw [Own.put_ne _ _ q] at e; exact M.st.obj b o2 e
  · have q : b ≠ a := fun q => hF (q ▸ hb)
    show own.put a o b = none
    rw [Own.put_ne _ _ q]; exact M.loc.fa.own b hb
  · by_cases q : b = a
    · subst q; exact .inr ha
    · rw [Own.put_ne _ _ q] at hb; exact .inl hb
  · by_cases q : b = a
    · subst q; exact .inr ha
    · rw [Own.put_ne _ _ q] at hb; exact .inl hb
end
end Lw.Internal
namespace Lw.Internal
structure Ct where
  d : Nat
  Γ : Fn
  A : Around
  env : Env
  FA : List Nat
  l : List (Option V)
noncomputable abbrev NowC (prog : Program) (w : World) (B : Base) (C : Ct) (own : Own) (s : Shared) : Prop := Now prog w B C.d C.Γ C.A C.env C.FA C.l own s
noncomputable abbrev Ct.at (C : Ct) (l : List (Option V)) : Ct := { C with l := l }
inductive Fl where
  | next | brk | cont
  | ret (v : V)
noncomputable def FR (h : Heap) : Fl → Flow → Prop
  | .next, f => f = .next
  | .brk, f => f = .brk
  | .cont, f => f = .cont
  | .ret v, f => ∃ x, f = .ret x ∧ VR h v x
section
variable (prog : Program) (w : World) (B : Base)
noncomputable def Post (C : Ct) (own : Own) (s : Shared) (Q : V → Own → Prop) (Q' : Value → Shared → Prop) : Prop :=
  ∀ v x own' s', Q v own' → VR s'.heap v x → NowC prog w B C own' s' → Stp B C.FA own own' s s' → Q' x s'
noncomputable def PostB (C : Ct) (own : Own) (s : Shared) (Q : Bool → Own → Prop) (Q' : Bool → Shared → Prop) : Prop :=
  ∀ b own' s', Q b own' → NowC prog w B C own' s' → Stp B C.FA own own' s s' → Q' b s'
noncomputable def PostU (C : Ct) (own : Own) (s : Shared) (Q : Own → Prop) (Q' : Unit → Shared → Prop) : Prop :=
  ∀ own' s', Q own' → NowC prog w B C own' s' → Stp B C.FA own own' s s' → Q' () s'
noncomputable def PostL (C : Ct) (own : Own) (s : Shared) (Q : List V → Own → Prop) (Q' : List Value → Shared → Prop) : Prop :=
  ∀ vs xs own' s', Q vs own' → VRs s'.heap vs xs → NowC prog w B C own' s' → Stp B C.FA own own' s s' → Q' xs s'
noncomputable def PostS (C : Ct) (own : Own) (s : Shared) (Q : List (Option V) → Own → Prop) (Q' : Unit → Shared → Prop) : Prop :=
  ∀ l' own' s', Q l' own' → NowC prog w B (C.at l') own' s' → Stp B C.FA own own' s s' → Q' () s'
noncomputable def PostF (C : Ct) (own : Own) (s : Shared) (Q : Fl → List (Option V) → Own → Prop) (Q' : Flow → Shared → Prop) : Prop :=
  ∀ f x l' own' s', Q f l' own' → FR s'.heap f x → NowC prog w B (C.at l') own' s' → Stp B C.FA own own' s s' → Q' x s'
noncomputable def Does (t : Sem Value) (C : Ct) (own : Own) (s : Shared) (Q : V → Own → Prop) : Prop :=
  ∀ Q' E, Post prog w B C own s Q Q' → wpAny (model prog w) C.A t Q' E s
noncomputable def DoesB (t : Sem Bool) (C : Ct) (own : Own) (s : Shared) (Q : Bool → Own → Prop) : Prop :=
  ∀ Q' E, PostB prog w B C own s Q Q' → wpAny (model prog w) C.A t Q' E s
noncomputable def DoesU (t : Sem Unit) (C : Ct) (own : Own) (s : Shared) (Q : Own → Prop) : Prop :=
  ∀ Q' E, PostU prog w B C own s Q Q' → wpAny (model prog w) C.A t Q' E s
noncomputable def DoesL (t : Sem (List Value)) (C : Ct) (own : Own) (s : Shared) (Q : List V → Own → Prop) : Prop :=
  ∀ Q' E, PostL prog w B C own s Q Q' → wpAny (model prog w) C.A t Q' E s
noncomputable def DoesS (t : Sem Unit) (C : Ct) (own : Own) (s : Shared) (Q : List (Option V) → Own → Prop) : Prop :=
  ∀ Q' E, PostS prog w B C own s Q Q' → wpAny (model prog w) C.A t Q' E s
noncomputable def DoesF (t : Sem Flow) (C : Ct) (own : Own) (s : Shared) (Q : Fl → List (Option V) → Own → Prop) : Prop :=
  ∀ Q' E, PostF prog w B C own s Q Q' → wpAny (model prog w) C.A t Q' E s
noncomputable def TE (d : Nat) (Γ : Fn) (e : Expr) (l : List (Option V)) (own : Own) (Q : V → Own → Prop) : Prop :=
  ∀ A env FA s, NowC prog w B ⟨d, Γ, A, env, FA, l⟩ own s → Does prog w B (eval e env) ⟨d, Γ, A, env, FA, l⟩ own s Q
noncomputable def TT (d : Nat) (Γ : Fn) (e : Expr) (l : List (Option V)) (own : Own) (Q : Bool → Own → Prop) : Prop :=
  ∀ A env FA s, NowC prog w B ⟨d, Γ, A, env, FA, l⟩ own s → DoesB prog w B (isTrue e env (eval e env)) ⟨d, Γ, A, env, FA, l⟩ own s Q
noncomputable def TA (d : Nat) (Γ : Fn) (es : List Expr) (l : List (Option V)) (own : Own) (Q : List V → Own → Prop) : Prop :=
  ∀ pos A env FA s, NowC prog w B ⟨d, Γ, A, env, FA, l⟩ own s → DoesL prog w B (spliced (backTo pos (starEach es env))) ⟨d, Γ, A, env, FA, l⟩ own s Q
noncomputable def TS (d : Nat) (Γ : Fn) (ss : List Stmt) (l : List (Option V)) (own : Own) (Q : Fl → List (Option V) → Own → Prop) : Prop :=
  ∀ A env FA s, NowC prog w B ⟨d, Γ, A, env, FA, l⟩ own s → DoesF prog w B (execs ss env) ⟨d, Γ, A, env, FA, l⟩ own s Q
noncomputable def TX (d : Nat) (Γ : Fn) (st : Stmt) (l : List (Option V)) (own : Own) (Q : Fl → List (Option V) → Own → Prop) : Prop :=
  ∀ A env FA s, NowC prog w B ⟨d, Γ, A, env, FA, l⟩ own s → DoesF prog w B (exec st env) ⟨d, Γ, A, env, FA, l⟩ own s Q
noncomputable def TG (d : Nat) (Γ : Fn) (t : Expr) (v : V) (l : List (Option V)) (own : Own) (Q : List (Option V) → Own → Prop) : Prop :=
  ∀ A env FA s, NowC prog w B ⟨d, Γ, A, env, FA, l⟩ own s → ∀ x, VR s.heap v x → DoesS prog w B (assign t env x) ⟨d, Γ, A, env, FA, l⟩ own s Q
noncomputable def T1 (f : Value → Sem Value) (a : V) (own : Own) (Q : V → Own → Prop) : Prop :=
  ∀ C s, NowC prog w B C own s → ∀ x, VR s.heap a x → Does prog w B (f x) C own s Q
noncomputable def T1B (f : Value → Sem Bool) (a : V) (own : Own) (Q : Bool → Own → Prop) : Prop :=
  ∀ C s, NowC prog w B C own s → ∀ x, VR s.heap a x → DoesB prog w B (f x) C own s Q
noncomputable def T2 (f : Value → Value → Sem Value) (a b : V) (own : Own) (Q : V → Own → Prop) : Prop :=
  ∀ C s, NowC prog w B C own s → ∀ x y, VR s.heap a x → VR s.heap b y → Does prog w B (f x y) C own s Q
noncomputable def TN (f : List Value → Sem Value) (as : List V) (own : Own) (Q : V → Own → Prop) : Prop :=
  ∀ C s, NowC prog w B C own s → ∀ xs, VRs s.heap as xs → Does prog w B (f xs) C own s Q
end
section
variable {prog : Program} {w : World} {B : Base} {d : Nat} {Γ : Fn} {A : Around} {env : Env} {FA : List Nat} {l l' : List (Option V)} {own own' own'' : Own} {s s' s'' : Shared} {C : Ct}
theorem Post.step {Q : V → Own → Prop} {Q' : Value → Shared → Prop} (p : Post prog w B C own s Q Q') (x : Stp B C.FA own own' s s') : Post prog w B C own' s' Q Q' :=
  fun v y o2 s2 q r n t => p v y o2 s2 q r n (x.trans t)
theorem PostB.step {Q : Bool → Own → Prop} {Q' : Bool → Shared → Prop} (p : PostB prog w B C own s Q Q') (x : Stp B C.FA own own' s s') : PostB prog w B C own' s' Q Q' :=
  fun v o2 s2 q n t => p v o2 s2 q n (x.trans t)
theorem PostF.step {Q : Fl → List (Option V) → Own → Prop} {Q' : Flow → Shared → Prop} (p : PostF prog w B C own s Q Q') (x : Stp B C.FA own own' s s') : PostF prog w B (C.at l') own' s' Q Q' :=
  fun f y v o2 s2 q r n t => p f y v o2 s2 q r n (x.trans t)
theorem Now.tups (N : Now prog w B d Γ A env FA l own s) (x : Stp B FA own own' s s') : Tups s.heap s'.heap := x.tups N.loc.fa N.st
theorem Now.tok (N : Now prog w B d Γ A env FA l own s) (tk : Nat) : Now prog w B d Γ A env FA l own { s with toks := tk } ∧ Stp B FA own own s { s with toks := tk } :=
  N.ext (h' := s.heap) (tk := tk) (Ext.refl _)
theorem Does.mono {t : Sem Value} {Q Q2 : V → Own → Prop} (h : Does prog w B t C own s Q) (k : ∀ v o, Q v o → Q2 v o) : Does prog w B t C own s Q2 :=
  fun Q' E p => h Q' E fun v x o s' q => p v x o s' (k v o q)
theorem TE.int {i : Int} {k : Nat} {pos : Pos} {Q : V → Own → Prop} (h : Q (.int i) own) : TE prog w B d Γ (.Constant (.int i) k pos) l own Q :=
  fun A env FA s N Q' E p => wpAny_Constant_int (p (.int i) _ own _ h ⟨_, rfl⟩ (N.tok _).1 (N.tok _).2)
theorem TE.none {k : Nat} {pos : Pos} {Q : V → Own → Prop} (h : Q .none own) : TE prog w B d Γ (.Constant .none k pos) l own Q :=
  fun A env FA s N Q' E p => wpAny_Constant_none (p .none _ own _ h rfl N .refl)
theorem TE.bool {b : Bool} {k : Nat} {pos : Pos} {Q : V → Own → Prop} (h : Q (.bool b) own) : TE prog w B d Γ (.Constant (.bool b) k pos) l own Q :=
  fun A env FA s N Q' E p => wpAny_Constant_bool (p (.bool b) _ own _ h rfl N .refl)
theorem TE.str {x : Str} {k : Nat} {pos : Pos} {Q : V → Own → Prop} (h : Q (.str x.cps.toList) own) : TE prog w B d Γ (.Constant (.str x) k pos) l own Q :=
  fun A env FA s N Q' E p => wpAny_Constant_str (p (.str x.cps.toList) _ own _ h ⟨_, rfl⟩ (N.tok _).1 (N.tok _).2)
theorem Loc.slot (N : Loc B Γ env FA l own s) {i : Nat} {x : Str} {b : Bool} {v : V} (hi : Γ.loc[i]? = some (x, b)) (hv : l[i]? = some (some v)) :
    ∃ m, s.heap.Ns env.locals m ∧ LocAt s.heap env m x b (some v) := by
  obtain ⟨m, hm, hl⟩ := N.ns
  have := hl i x b hi
  rw [hv] at this
  exact ⟨m, hm, this⟩
theorem TE.loc {i : Nat} {x : Str} {b : Bool} {pos : Pos} {v : V} {Q : V → Own → Prop} (hi : Γ.loc[i]? = some (x, b)) (hd : (x == ("__debug__" : Str)) = false) (hv : l[i]? = some (some v)) (h : Q v own) : TE prog w B d Γ (.Name x pos) l own Q := by
  intro A env FA s N Q' E p
  refine wpAny_Name ?_ hd
  obtain ⟨m, hm, hl⟩ := N.loc.slot hi hv
  have hk := N.cx.loc x b (List.mem_of_getElem? hi)
  cases b with
  | false =>
    obtain ⟨val, e1, e2⟩ := hl
    exact wpAny_loadName_local N.cx.kind hk hm e1 (p v _ own _ h e2 N .refl)
  | true =>
    obtain ⟨c, val, e1, e2, val', rfl, e4⟩ := hl
    exact wpAny_loadName_cell N.cx.kind hk e1 e2 (p v _ own _ h e4 N .refl)
theorem TE.glob {x : Str} {pos : Pos} {v : V} {xv : Value} {Q : V → Own → Prop} (hx : x ∈ Γ.glb) (hd : (x == ("__debug__" : Str)) = false) (e : nsIn B.K mainGlobals x = some (some xv)) (hr : ∀ h, VR h v xv) (h : Q v own) : TE prog w B d Γ (.Name x pos) l own Q := by
  intro A env FA s N Q' E p
  refine Name_function_global N.cx.kind (N.cx.glb x hx) (loadGlobal_global (mg := B.mg) (by rw [N.cx.glob]; exact N.ok.T.g.keeps N.st.keep) (mg_of N.ok.K N.ok.T.g e) (p v _ own _ h (hr _) N .refl)) hd
theorem TE.binop {a b : Expr} {op : Operator} {pos : Pos} {Q : V → Own → Prop} (h : TE prog w B d Γ a l own (fun x own₁ => TE prog w B d Γ b l own₁ (fun y own₂ => T2 prog w B (binaryOp op) x y own₂ Q))) :
    TE prog w B d Γ (.BinOp a op b pos) l own Q := by
  intro A env FA s N Q' E p
  refine wpAny_BinOp (h A env FA s N _ E fun v x o1 s1 q1 r1 N1 S1 => q1 A env FA s1 N1 _ E fun v2 x2 o2 s2 q2 r2 N2 S2 => ?_)
  exact q2 _ s2 N2 x x2 (r1.mono (N1.tups S2)) r2 Q' E ((p.step S1).step S2)
theorem T2.add {a b : Int} {Q : V → Own → Prop} (h : Q (.int (a + b)) own) : T2 prog w B (binaryOp .Add) (.int a) (.int b) own Q := by
  rintro C s N _ _ ⟨t, rfl⟩ ⟨u, rfl⟩ Q' E p
  exact PyProof.Rows.add_int (p _ _ _ _ h ⟨_, rfl⟩ (N.tok _).1 (N.tok _).2)
theorem T2.sub {a b : Int} {Q : V → Own → Prop} (h : Q (.int (a - b)) own) : T2 prog w B (binaryOp .Sub) (.int a) (.int b) own Q := by
  rintro C s N _ _ ⟨t, rfl⟩ ⟨u, rfl⟩ Q' E p
  exact PyProof.Rows.sub_int (p _ _ _ _ h ⟨_, rfl⟩ (N.tok _).1 (N.tok _).2)
theorem T2.mod {a b : Int} {Q : V → Own → Prop} (hb : b ≠ 0) (h : Q (.int (a.fmod b)) own) : T2 prog w B (binaryOp .Mod) (.int a) (.int b) own Q := by
  rintro C s N _ _ ⟨t, rfl⟩ ⟨u, rfl⟩ Q' E p
  exact PyProof.Rows.mod_int hb (p _ _ _ _ h ⟨_, rfl⟩ (N.tok _).1 (N.tok _).2)
theorem T2.lt {a b : Int} {Q : V → Own → Prop} (h : Q (.bool (decide (a < b))) own) : T2 prog w B (compareOp .Lt) (.int a) (.int b) own Q := by
  rintro C s N _ _ ⟨t, rfl⟩ ⟨u, rfl⟩ Q' E p
  exact PyProof.Rows.lt_int (p _ _ _ _ h rfl N .refl)
theorem T2.le {a b : Int} {Q : V → Own → Prop} (h : Q (.bool (decide (a ≤ b))) own) : T2 prog w B (compareOp .LtE) (.int a) (.int b) own Q := by
  rintro C s N _ _ ⟨t, rfl⟩ ⟨u, rfl⟩ Q' E p
  exact PyProof.Rows.le_int (p _ _ _ _ h rfl N .refl)
theorem T2.gt {a b : Int} {Q : V → Own → Prop} (h : Q (.bool (decide (b < a))) own) : T2 prog w B (compareOp .Gt) (.int a) (.int b) own Q := by
  rintro C s N _ _ ⟨t, rfl⟩ ⟨u, rfl⟩ Q' E p
  exact PyProof.Rows.gt_int (p _ _ _ _ h rfl N .refl)
theorem T2.ge {a b : Int} {Q : V → Own → Prop} (h : Q (.bool (decide (b ≤ a))) own) : T2 prog w B (compareOp .GtE) (.int a) (.int b) own Q := by
  rintro C s N _ _ ⟨t, rfl⟩ ⟨u, rfl⟩ Q' E p
  exact PyProof.Rows.ge_int (p _ _ _ _ h rfl N .refl)
theorem T2.eqi {a b : Int} {Q : V → Own → Prop} (h : Q (.bool (a == b)) own) : T2 prog w B (compareOp .Eq) (.int a) (.int b) own Q := by
  rintro C s N _ _ ⟨t, rfl⟩ ⟨u, rfl⟩ Q' E p
  exact PyProof.Rows.eq_int (p _ _ _ _ h rfl N .refl)
theorem T2.nei {a b : Int} {Q : V → Own → Prop} (h : Q (.bool (a != b)) own) : T2 prog w B (compareOp .NotEq) (.int a) (.int b) own Q := by
  rintro C s N _ _ ⟨t, rfl⟩ ⟨u, rfl⟩ Q' E p
  exact PyProof.Rows.ne_int (p _ _ _ _ h rfl N .refl)
end
end Lw.Internal
namespace Lw.Internal
section
variable {prog : Program} {w : World} {B : Base} {d : Nat} {Γ : Fn} {A : Around} {env : Env} {FA : List Nat} {l l' : List (Option V)} {own own' own'' : Own} {s s' s'' : Shared} {C : Ct}
theorem T1B.bool {b : Bool} {Q : Bool → Own → Prop} (h : Q b own) : T1B prog w B truthy (.bool b) own Q := by
  rintro C s N _ rfl Q' E p
  exact wpAny_truthy_bool (p _ _ _ h N .refl)
theorem TT.plain {e : Expr} {Q : Bool → Own → Prop} (h : TE prog w B d Γ e l own (fun v own' => T1B prog w B truthy v own' Q))
    (he : ∀ env whole, isTrue e env whole = (do let v ← whole; standAt e.pos; holding [v] (truthy v))) : TT prog w B d Γ e l own Q := by
  intro A env FA s N Q' E p
  exact PyProof.Rows.isTrue_plain (h A env FA s N _ E fun v x o1 s1 q1 r1 N1 S1 => q1 _ s1 N1 x r1 Q' E (p.step S1)) (he env _)
theorem TT.not {e : Expr} {pos : Pos} {Q : Bool → Own → Prop} (h : TT prog w B d Γ e l own (fun b own' => Q (!b) own')) : TT prog w B d Γ (.UnaryOp .Not e pos) l own Q := by
  intro A env FA s N Q' E p
  exact PyProof.Rows.isTrue_not (h A env FA s N _ E fun b o1 s1 q1 N1 S1 => p _ _ _ q1 N1 S1)
theorem TT.and_nil {pos : Pos} {Q : Bool → Own → Prop} (h : Q true own) : TT prog w B d Γ (.BoolOp .And [] pos) l own Q := by
  intro A env FA s N Q' E p
  exact wpAny_isTrue_BoolOp (wpAny_allTrue_And_nil (p _ _ _ h N .refl))
theorem TT.or_nil {pos : Pos} {Q : Bool → Own → Prop} (h : Q false own) : TT prog w B d Γ (.BoolOp .Or [] pos) l own Q := by
  intro A env FA s N Q' E p
  exact wpAny_isTrue_BoolOp (wpAny_allTrue_Or_nil (p _ _ _ h N .refl))
theorem TT.and {e : Expr} {es : List Expr} {pos : Pos} {Q : Bool → Own → Prop} (h : TT prog w B d Γ e l own (fun b own' => match b with | true => TT prog w B d Γ (.BoolOp .And es pos) l own' Q | false => Q false own')) :
    TT prog w B d Γ (.BoolOp .And (e :: es) pos) l own Q := by
  intro A env FA s N Q' E p
  refine wpAny_isTrue_BoolOp (wpAny_allTrue_And_cons (h A env FA s N _ E fun b o1 s1 q1 N1 S1 => ?_))
  cases b with
  | false => exact p _ _ _ q1 N1 S1
  | true => exact q1 A env FA s1 N1 Q' E (p.step S1)
theorem TT.or {e : Expr} {es : List Expr} {pos : Pos} {Q : Bool → Own → Prop} (h : TT prog w B d Γ e l own (fun b own' => match b with | true => Q true own' | false => TT prog w B d Γ (.BoolOp .Or es pos) l own' Q)) :
    TT prog w B d Γ (.BoolOp .Or (e :: es) pos) l own Q := by
  intro A env FA s N Q' E p
  refine wpAny_isTrue_BoolOp (wpAny_allTrue_Or_cons (h A env FA s N _ E fun b o1 s1 q1 N1 S1 => ?_))
  cases b with
  | true => exact p _ _ _ q1 N1 S1
  | false => exact q1 A env FA s1 N1 Q' E (p.step S1)
theorem TT.cmp {a b : Expr} {op : CmpOp} {pos : Pos} {Q : Bool → Own → Prop} (hm : behindInMarks op b = false)
    (h : TE prog w B d Γ a l own (fun x own₁ => TE prog w B d Γ b l own₁ (fun y own₂ => T2 prog w B (compareOp op) x y own₂ (fun v own₃ => T1B prog w B truthy v own₃ Q)))) :
    TT prog w B d Γ (.Compare a [op] [b] pos) l own Q := by
  intro A env FA s N Q' E p
  refine wpAny_isTrue_Compare1 (h A env FA s N _ E fun v x o1 s1 q1 r1 N1 S1 => q1 A env FA s1 N1 _ E fun v2 x2 o2 s2 q2 r2 N2 S2 => ?_) hm
  exact q2 _ s2 N2 x x2 (r1.mono (N1.tups S2)) r2 _ E fun v3 x3 o3 s3 q3 r3 N3 S3 => q3 _ s3 N3 x3 r3 Q' E (((p.step S1).step S2).step S3)
theorem TE.cmp {a b : Expr} {op : CmpOp} {pos : Pos} {Q : V → Own → Prop} (hm : behindInMarks op b = false)
    (h : TE prog w B d Γ a l own (fun x own₁ => TE prog w B d Γ b l own₁ (fun y own₂ => T2 prog w B (compareOp op) x y own₂ Q))) :
    TE prog w B d Γ (.Compare a [op] [b] pos) l own Q := by
  intro A env FA s N Q' E p
  refine wpAny_Compare1 (h A env FA s N _ E fun v x o1 s1 q1 r1 N1 S1 => q1 A env FA s1 N1 _ E fun v2 x2 o2 s2 q2 r2 N2 S2 => ?_) hm
  exact q2 _ s2 N2 x x2 (r1.mono (N1.tups S2)) r2 _ E ((p.step S1).step S2)
theorem TE.ife {t a b : Expr} {pos : Pos} {Q : V → Own → Prop} (h : TT prog w B d Γ t l own (fun c own₁ => match c with | true => TE prog w B d Γ a l own₁ Q | false => TE prog w B d Γ b l own₁ Q)) :
    TE prog w B d Γ (.IfExp t a b pos) l own Q := by
  intro A env FA s N Q' E p
  refine wpAny_IfExp (h A env FA s N _ E fun c o1 s1 q1 N1 S1 => ?_)
  cases c with
  | true => exact q1 A env FA s1 N1 Q' E (p.step S1)
  | false => exact q1 A env FA s1 N1 Q' E (p.step S1)
theorem TE.neg {e : Expr} {pos : Pos} {Q : V → Own → Prop} (h : TE prog w B d Γ e l own (fun v own' => match v with | .int i => Q (.int (-i)) own' | _ => False)) : TE prog w B d Γ (.UnaryOp .USub e pos) l own Q := by
  intro A env FA s N Q' E p
  refine wpAny_UnaryOp (h A env FA s N _ E fun v x o1 s1 q1 r1 N1 S1 => ?_)
  cases v with
  | int i =>
    obtain ⟨t, rfl⟩ := r1
    exact PyProof.Rows.neg_int (p _ _ _ _ q1 ⟨_, rfl⟩ (N1.tok _).1 (S1.trans (N1.tok _).2))
  | _ => exact q1.elim
theorem TE.not {e : Expr} {pos : Pos} {Q : V → Own → Prop} (h : TE prog w B d Γ e l own (fun v own' => T1B prog w B truthy v own' (fun b own'' => Q (.bool (!b)) own''))) : TE prog w B d Γ (.UnaryOp .Not e pos) l own Q := by
  intro A env FA s N Q' E p
  refine wpAny_UnaryOp (h A env FA s N _ E fun v x o1 s1 q1 r1 N1 S1 => PyProof.Rows.not_of ?_)
  exact q1 _ s1 N1 x r1 _ E fun b o2 s2 q2 N2 S2 => p _ _ _ _ q2 rfl N2 (S1.trans S2)
noncomputable def TBo (prog : Program) (w : World) (B : Base) (d : Nat) (Γ : Fn) (op : BoolOp) (es : List Expr) (l : List (Option V)) (own : Own) (Q : V → Own → Prop) : Prop :=
  ∀ pos A env FA s, NowC prog w B ⟨d, Γ, A, env, FA, l⟩ own s → Does prog w B (boolOp pos op (evalEach es env)) ⟨d, Γ, A, env, FA, l⟩ own s Q
theorem TE.boolop {op : BoolOp} {es : List Expr} {pos : Pos} {Q : V → Own → Prop} (h : TBo prog w B d Γ op es l own Q) : TE prog w B d Γ (.BoolOp op es pos) l own Q :=
  fun A env FA s N => h pos A env FA s N
theorem TBo.one {op : BoolOp} {e : Expr} {Q : V → Own → Prop} (h : TE prog w B d Γ e l own Q) : TBo prog w B d Γ op [e] l own Q :=
  fun pos A env FA s N => h A env FA s N
theorem TBo.or {e e2 : Expr} {es : List Expr} {Q : V → Own → Prop}
    (h : TE prog w B d Γ e l own (fun v own₁ => T1B prog w B truthy v own₁ (fun b own₂ => match b with
      | true => Q v own₂
      | false => TBo prog w B d Γ .Or (e2 :: es) l own₂ Q))) : TBo prog w B d Γ .Or (e :: e2 :: es) l own Q := by
  intro pos A env FA s N Q' E p
  show wpAny _ _ (eval e env >>= fun v => standAt pos >>= fun _ => holding [v] (truthy v) >>= fun t => match BoolOp.Or, t with
    | .And, false | .Or, true => pure v
    | _, _ => boolOp pos .Or (evalEach (e2 :: es) env)) Q' E s
  refine wpAny_bind (h A env FA s N _ E fun v x o1 s1 q1 r1 N1 S1 => wpAny_bind (wpAny_standAt (wpAny_bind (wpAny_holding ?_))))
  refine q1 _ s1 N1 x r1 _ E fun b o2 s2 q2 N2 S2 => ?_
  cases b with
  | true => exact wpAny_pure (p _ _ _ _ q2 (r1.mono (N1.tups S2)) N2 (S1.trans S2))
  | false => exact q2 pos A env FA s2 N2 Q' E ((p.step S1).step S2)
theorem TBo.and {e e2 : Expr} {es : List Expr} {Q : V → Own → Prop}
    (h : TE prog w B d Γ e l own (fun v own₁ => T1B prog w B truthy v own₁ (fun b own₂ => match b with
      | false => Q v own₂
      | true => TBo prog w B d Γ .And (e2 :: es) l own₂ Q))) : TBo prog w B d Γ .And (e :: e2 :: es) l own Q := by
  intro pos A env FA s N Q' E p
  show wpAny _ _ (eval e env >>= fun v => standAt pos >>= fun _ => holding [v] (truthy v) >>= fun t => match BoolOp.And, t with
    | .And, false | .Or, true => pure v
    | _, _ => boolOp pos .And (evalEach (e2 :: es) env)) Q' E s
  refine wpAny_bind (h A env FA s N _ E fun v x o1 s1 q1 r1 N1 S1 => wpAny_bind (wpAny_standAt (wpAny_bind (wpAny_holding ?_))))
  refine q1 _ s1 N1 x r1 _ E fun b o2 s2 q2 N2 S2 => ?_
  cases b with
  | false => exact wpAny_pure (p _ _ _ _ q2 (r1.mono (N1.tups S2)) N2 (S1.trans S2))
  | true => exact q2 pos A env FA s2 N2 Q' E ((p.step S1).step S2)
theorem starEach_cons {e : Expr} {es : List Expr} (h : ∀ x p, e ≠ .Starred x p) : starEach (e :: es) env = (false, eval e env) :: starEach es env := by
  cases e <;> first | rfl | exact absurd rfl (h _ _)
theorem TA.nil {Q : List V → Own → Prop} (h : Q [] own) : TA prog w B d Γ [] l own Q :=
  fun pos A env FA s N Q' E p => wpAny_pure (p [] [] own s h rfl N .refl)
theorem TA.cons {e : Expr} {es : List Expr} {Q : List V → Own → Prop} (hs : ∀ x p, e ≠ .Starred x p)
    (h : TE prog w B d Γ e l own (fun v own₁ => TA prog w B d Γ es l own₁ (fun vs own₂ => Q (v :: vs) own₂))) : TA prog w B d Γ (e :: es) l own Q := by
  intro pos A env FA s N Q' E p
  rw [starEach_cons hs]
  show wpAny _ _ (eval e env >>= fun v => (do let here ← (pure [v] : Sem (List Value)); return here ++ (← holding here (spliced (backTo pos (starEach es env)))))) Q' E s
  refine wpAny_bind (h A env FA s N _ E fun v x o1 s1 q1 r1 N1 S1 => wpAny_bind (wpAny_pure (wpAny_bind (wpAny_holding ?_))))
  refine q1 pos A env FA s1 N1 _ E fun vs xs o2 s2 q2 r2 N2 S2 => wpAny_pure (p _ _ _ _ q2 ⟨_, _, rfl, r1.mono (N1.tups S2), r2⟩ N2 (S1.trans S2))
theorem VRs.length : ∀ {vs : List V} {xs : List Value} {h : Heap}, VRs h vs xs → xs.length = vs.length
  | [], _, _, e => by simp only [VRs] at e; subst e; rfl
  | _ :: _, _, _, e => by
    simp only [VRs] at e
    obtain ⟨v, r, rfl, _, h2⟩ := e
    rw [List.length_cons, List.length_cons, VRs.length h2]
theorem TE.tup {es : List Expr} {k : Nat} {pos : Pos} {Q : V → Own → Prop} (h : TA prog w B d Γ es l own (fun vs own₁ => vs.length ≤ sizeLine ∧ Q (.tup vs) own₁)) : TE prog w B d Γ (.Tuple es k pos) l own Q := by
  intro A env FA s N Q' E p
  refine wpAny_Tuple (h pos A env FA s N _ E fun vs xs o1 s1 q1 r1 N1 S1 => ⟨by rw [r1.length]; exact q1.1, ?_⟩)
  obtain ⟨N2, S2⟩ := N1.ext (tk := s1.toks) (Ext.push s1.heap { cls := .type "tuple", data := .seq xs.toArray })
  exact p _ _ _ _ q1.2 ⟨_, _, rfl, Heap.get?_push_size _ rfl, r1.mono (Ext.push _ _).tups⟩ N2 (S1.trans S2)
theorem TE.list {es : List Expr} {pos : Pos} {Q : V → Own → Prop} (h : TA prog w B d Γ es l own (fun vs own₁ => vs.length ≤ sizeLine ∧ ∀ a, own₁ a = Option.none → Q (.obj a) (own₁.put a (.list vs)))) : TE prog w B d Γ (.List es pos) l own Q := by
  intro A env FA s N Q' E p
  refine wpAny_List (h pos A env FA s N _ E fun vs xs o1 s1 q1 r1 N1 S1 => ⟨by rw [r1.length]; exact q1.1, ?_⟩)
  have x := Ext.push s1.heap { cls := .type "list", data := .seq xs.toArray }
  obtain ⟨N2, S2⟩ := N1.gain (tk := s1.toks) (o := .list vs) x (top _) ⟨_, _, Heap.get?_push_size _ rfl, r1.mono x.tups⟩
  exact p _ _ _ _ (q1.2 _ (N1.fresh (top _))) rfl N2 (S1.trans S2)
theorem TS.nil {Q : Fl → List (Option V) → Own → Prop} (h : Q .next l own) : TS prog w B d Γ [] l own Q :=
  fun A env FA s N Q' E p => wpAny_execs_nil (p .next .next l own s h rfl N .refl)
theorem TS.cons {st : Stmt} {ss : List Stmt} {Q : Fl → List (Option V) → Own → Prop}
    (h : TX prog w B d Γ st l own (fun f l₁ own₁ => match f with | .next => TS prog w B d Γ ss l₁ own₁ Q | .brk => Q .brk l₁ own₁ | .cont => Q .cont l₁ own₁ | .ret v => Q (.ret v) l₁ own₁)) : TS prog w B d Γ (st :: ss) l own Q := by
  intro A env FA s N Q' E p
  refine wpAny_execs_cons (h A env FA s N _ E fun f x l1 o1 s1 q1 r1 N1 S1 => ?_)
  cases f with
  | next => cases r1; exact q1 A env FA s1 N1 Q' E (p.step S1)
  | brk => cases r1; exact p .brk _ _ _ _ q1 rfl N1 S1
  | cont => cases r1; exact p .cont _ _ _ _ q1 rfl N1 S1
  | ret v => obtain ⟨x, rfl, r⟩ := r1; exact p (.ret v) _ _ _ _ q1 ⟨x, rfl, r⟩ N1 S1
theorem TX.if_ {t : Expr} {a b : List Stmt} {pos : Pos} {Q : Fl → List (Option V) → Own → Prop} (h : TT prog w B d Γ t l own (fun c own₁ => match c with | true => TS prog w B d Γ a l own₁ Q | false => TS prog w B d Γ b l own₁ Q)) :
    TX prog w B d Γ (.If t a b pos) l own Q := by
  intro A env FA s N Q' E p
  refine wpAny_If (h A env FA s N _ E fun c o1 s1 q1 N1 S1 => ?_)
  cases c with
  | true => exact q1 A env FA s1 N1 Q' E (p.step S1)
  | false => exact q1 A env FA s1 N1 Q' E (p.step S1)
theorem TX.ret {e : Expr} {pos : Pos} {Q : Fl → List (Option V) → Own → Prop} (h : TE prog w B d Γ e l own (fun v own₁ => Q (.ret v) l own₁)) : TX prog w B d Γ (.Return (some e) pos) l own Q := by
  intro A env FA s N Q' E p
  exact wpAny_Return_some (h A env FA s N _ E fun v x o1 s1 q1 r1 N1 S1 => p (.ret v) _ _ _ _ q1 ⟨x, rfl, r1⟩ N1 S1)
theorem TX.cont {pos : Pos} {Q : Fl → List (Option V) → Own → Prop} (h : Q .cont l own) : TX prog w B d Γ (.Continue pos) l own Q := by
  intro A env FA s N Q' E p
  exact wpAny_Continue (p .cont _ _ _ _ h rfl N .refl)
theorem TX.expr {e : Expr} {pos : Pos} {Q : Fl → List (Option V) → Own → Prop} (h : TE prog w B d Γ e l own (fun _ own₁ => Q .next l own₁)) (hs : ∀ env : Env, swapsWith e none pos.line env = pure false) : TX prog w B d Γ (.Expr e pos) l own Q := by
  intro A env FA s N Q' E p
  have hi : interactive env = false := by unfold interactive; rw [N.cx.kind]; rfl
  exact wpAny_Expr_any (h A env FA s N _ E fun v x o1 s1 q1 r1 N1 S1 => p .next _ _ _ _ q1 rfl N1 S1) hi (hs env)
theorem Now.store (N : Now prog w B d Γ A env FA l own s) {a : Nat} (ha : a ∈ FA) {h' : Heap} {tk : Nat} (hs : Heap.SameBut a s.heap h') (hd : ∃ o, h'.get? a = some o ∧ FrD o)
    (hn : ∃ m, h'.Ns env.locals m ∧ ∀ (i : Nat) x b, Γ.loc[i]? = some (x, b) → LocAt h' env m x b ((l'[i]?).getD none)) :
    Now prog w B d Γ A env FA l' own { s with heap := h', toks := tk } ∧ Stp B FA own own s { s with heap := h', toks := tk } := by
  have notown : ∀ b o, own b = some o → b ≠ a := fun b o e q => by rw [q, N.loc.fa.own _ ha] at e; cases e
  have tu : Tups s.heap h' := fun b o e hc => (hs.2 b (fun q => by
    obtain ⟨o', e', n1⟩ := N.loc.fa.obj _ ha
    rw [q, e'] at e; cases e
    exact n1.not hc)).trans e
  refine ⟨⟨N.ok, N.bud, N.cx, ⟨fun b o e => ?_, N.st.gens, N.st.os, fun b o e => ?_, ?_⟩, ⟨⟨N.loc.fa.own, N.loc.fa.hi, fun b hb => ?_⟩, hn, N.loc.cells_keep (fun _ h => .inl h) fun c o _ h2 h3 => by
    by_cases q : c = a
    · subst q; exact hd
    · exact ⟨o, (hs.2 c q).trans h3, h2⟩⟩⟩, ⟨fun b o e hf _ _ => (hs.2 b (fun q => hf (q ▸ ha))).trans e, fun _ h => .inl h, fun b o e => ?_⟩⟩
  case refine_5 =>
    by_cases q : b = a
    · subst q; obtain ⟨o', e', _⟩ := hd; exact ⟨o', e'⟩
    · exact ⟨o, (hs.2 b q).trans e⟩
  · exact (hs.2 b (fun q => by subst q; rw [N.loc.fa.hi _ ha] at e; cases e)).trans (N.st.keep b o e)
  · obtain ⟨y1, y2, y3⟩ := N.st.obj b o e
    exact ⟨y1.mono tu (hs.2 b (notown b o e)), y2, y3⟩
  · refine N.st.tab.mono tu (hs.2 _ (fun q => ?_))
    obtain ⟨o, e, n⟩ := N.loc.fa.obj _ ha
    rcases N.st.tab with z | ⟨_, _, _, _, z, _⟩
    · rw [q, e] at z; cases z; rcases n with ⟨_, _, n⟩ | ⟨_, n⟩ <;> cases n
    · rw [q, e] at z; cases z; rcases n with ⟨_, _, n⟩ | ⟨_, n⟩ <;> cases n
  · by_cases q : b = a
    · subst q; exact hd
    · obtain ⟨o1, e1, n1⟩ := N.loc.fa.obj b hb
      exact ⟨o1, (hs.2 b q).trans e1, n1⟩
theorem Now.uniq (N : Now prog w B d Γ A env FA l own s) {i j : Nat} {x : Str} {b c : Bool} (hi : Γ.loc[i]? = some (x, b)) (hj : Γ.loc[j]? = some (x, c)) : j = i := by
  have n := N.cx.nodup
  have e1 : (Γ.loc.map (·.1))[j]? = some x := by rw [List.getElem?_map, hj]; rfl
  have e2 : (Γ.loc.map (·.1))[i]? = some x := by rw [List.getElem?_map, hi]; rfl
  exact (List.getElem?_inj (List.getElem?_eq_some_iff.mp e1).1 n).mp (by rw [e1, e2])
theorem getD_set {i j : Nat} {v : V} (hl : i < l.length) : ((l.set i (some v))[j]?).getD none = if j = i then some v else (l[j]?).getD none := by
  by_cases q : j = i
  · subst q; rw [if_pos rfl, List.getElem?_set_self hl]; rfl
  · rw [if_neg q, List.getElem?_set_ne (Ne.symm q)]
theorem store_name {i : Nat} {x : Str} {b : Bool} {v : V} {xv : Value} {Q' : Unit → Shared → Prop} {E : Value → Shared → Prop} (N : Now prog w B d Γ A env FA l own s) (hv : VR s.heap v xv) (hi : Γ.loc[i]? = some (x, b)) (hl : i < l.length) (hb : b = true → Γ.ro = false)
    (h : ∀ s', Now prog w B d Γ A env FA (l.set i (some v)) own s' → Stp B FA own own s s' → Q' () s') : wpAny (model prog w) A (storeName env x xv) Q' E s := by
  have hk := N.cx.loc x b (List.mem_of_getElem? hi)
  obtain ⟨m, hm, hls⟩ := N.loc.ns
  cases b with
  | false =>
    have kp : (env.scope.kind == .class || (env.scope.kind == .module && env.locals != env.globals)) = false := by rw [N.cx.kind]; rfl
    refine wpAny_storeName_local hk hm (fun h' hn hs => ?_) kp
    have hL := N.cx.L
    have tu : Tups s.heap h' := fun b o e hc => (hs.2 b (fun q => by
      obtain ⟨o', e', n1⟩ := N.loc.fa.obj _ hL
      rw [q, e'] at e; cases e
      exact n1.not hc)).trans e
    have R := N.store (l' := l.set i (some v)) (tk := s.toks + 1) hL hs (by obtain ⟨o, es, ep, e, hd, _⟩ := hn; exact ⟨o, e, .inl ⟨es, ep, hd⟩⟩) ⟨_, hn, fun j y c hj => by
      rw [getD_set hl]
      by_cases q : j = i
      · subst q
        rw [hi] at hj; cases hj
        rw [if_pos rfl]
        exact ⟨xv, by simp, hv.mono tu⟩
      · rw [if_neg q]
        have z := (hls j y c hj).mono tu (fun hc a ha => hs.2 a (fun e => by
          subst hc
          obtain ⟨c', h1, _, h2⟩ := N.cx.cell y (List.mem_of_getElem? hj)
          rw [h1] at ha; cases ha; exact h2 e))
        have ne : y ≠ x := fun e => q (N.uniq hi (e ▸ hj))
        cases c with
        | true => exact z
        | false =>
          cases hh : (l[j]?).getD none with
          | none => trivial
          | some v' =>
            rw [hh] at z
            obtain ⟨val, z1, z2⟩ := z
            exact ⟨val, by simp [ne, z1], z2⟩⟩
    exact h _ R.1 R.2
  | true =>
    obtain ⟨c, hc1, hc2, hc3⟩ := N.cx.cell x (List.mem_of_getElem? hi)
    have hc2 := hc2 (hb rfl)
    obtain ⟨c', val, z1, z2, _⟩ := hls i x true hi
    rw [hc1] at z1; cases z1
    refine wpAny_storeName_cell N.cx.kind hk hc1 z2 (fun h' hn hs => ?_)
    have tu : Tups s.heap h' := fun b o e hc => (hs.2 b (fun q => by
      obtain ⟨o', e', n1⟩ := N.loc.fa.obj _ hc2
      rw [q, e'] at e; cases e
      exact n1.not hc)).trans e
    have R := N.store (l' := l.set i (some v)) (tk := s.toks) hc2 hs (by obtain ⟨o, e, hd⟩ := hn; exact ⟨o, e, .inr ⟨_, hd⟩⟩) ⟨m, hm.sameBut hs (Ne.symm hc3), fun j y b hj => by
      rw [getD_set hl]
      by_cases q : j = i
      · subst q
        rw [hi] at hj; cases hj
        rw [if_pos rfl]
        exact ⟨c, _, hc1, hn, xv, rfl, hv.mono tu⟩
      · rw [if_neg q]
        refine (hls j y b hj).mono tu (fun hb a ha => hs.2 a (fun e => ?_))
        subst hb
        subst e
        have := N.cx.apart x y a (List.mem_of_getElem? hi) (List.mem_of_getElem? hj) hc1 ha
        subst this
        exact q (N.uniq hi hj)⟩
    exact h _ R.1 R.2
theorem TG.name {i : Nat} {x : Str} {b : Bool} {pos : Pos} {v : V} {Q : List (Option V) → Own → Prop} (hi : Γ.loc[i]? = some (x, b)) (hl : i < l.length) (hb : b = true → Γ.ro = false) (h : Q (l.set i (some v)) own) : TG prog w B d Γ (.Name x pos) v l own Q :=
  fun A env FA s N xv hv Q' E p => wpAny_assign_Name (store_name N hv hi hl hb fun s' N' S' => p _ _ _ h N' S')
theorem TX.assign {i : Nat} {x : Str} {b : Bool} {e : Expr} {np pos : Pos} {Q : Fl → List (Option V) → Own → Prop} (hi : Γ.loc[i]? = some (x, b)) (hl : i < l.length) (hb : b = true → Γ.ro = false) (hs : ∀ env FA, Cx Γ env FA → swapsWith e (some (.Name x np)) pos.line env = pure false)
    (h : TE prog w B d Γ e l own (fun v own₁ => Q .next (l.set i (some v)) own₁)) : TX prog w B d Γ (.Assign [.Name x np] e pos) l own Q := by
  intro A env FA s N Q' E p
  exact wpAny_Assign_Name (h A env FA s N _ E fun v xv o1 s1 q1 r1 N1 S1 => store_name N1 r1 hi hl hb fun s' N' S' => p .next _ _ _ _ q1 rfl N' (S1.trans S')) (hs env FA N.cx)
end
end Lw.Internal
namespace Lw.Internal
section
variable {prog : Program} {w : World} {B : Base} {d : Nat} {Γ Γ' : Fn} {A : Around} {env : Env} {FA FA' : List Nat} {l l' : List (Option V)} {own own' own'' : Own} {s s' s'' : Shared} {C : Ct}
noncomputable def TC (prog : Program) (w : World) (B : Base) (d : Nat) (f : Value) (args : List V) (own : Own) (Q : V → Own → Prop) : Prop :=
  ∀ C s, C.d = d → NowC prog w B C own s → ∀ xs, VRs s.heap args xs → ∀ R : Result → Shared → Prop,
    Post prog w B C own s Q (fun x s' => R (.ok (.ret x)) s') → codeAny (model prog w) C.A (.call f ⟨xs, []⟩) R s
theorem Now.other (N : Now prog w B d Γ A env FA l own s) (S : Stp B FA' own own' s s') (T : St prog w B own' s') (hd : ∀ a ∈ FA', s.heap.get? a = none) (tu : Tups s.heap s'.heap) : Now prog w B d Γ A env FA l own' s' := by
  have keep : ∀ a o, own a = none → FrD o → s.heap.get? a = some o → s'.heap.get? a = some o := fun a o ho n e => by
    refine S.oth a o e (fun q => by rw [hd a q] at e; cases e) ho (fun q => ?_)
    rcases N.st.tab with z | ⟨_, _, _, _, z, _⟩
    · rw [← q, e] at z; cases z; rcases n with ⟨_, _, n⟩ | ⟨_, n⟩ <;> cases n
    · rw [← q, e] at z; cases z; rcases n with ⟨_, _, n⟩ | ⟨_, n⟩ <;> cases n
  refine ⟨N.ok, N.bud, N.cx, T, ⟨⟨fun a ha => ?_, N.loc.fa.hi, fun a ha => ?_⟩, ?_, N.loc.cells_keep S.new fun c o h1 h2 h3 => ⟨o, keep c o h1 h2 h3, h2⟩⟩⟩
  · cases q : own' a with
    | none => rfl
    | some o =>
      exfalso
      rcases S.new a (by rw [q]; rfl) with z | z
      · rw [N.loc.fa.own a ha] at z; cases z
      · obtain ⟨o', e', _⟩ := N.loc.fa.obj a ha
        rw [z] at e'; cases e'
  · obtain ⟨o, e, n⟩ := N.loc.fa.obj a ha
    exact ⟨o, keep a o (N.loc.fa.own a ha) n e, n⟩
  · obtain ⟨m, ⟨o, es, ep, e, r⟩, hl⟩ := N.loc.ns
    obtain ⟨oL, eL, nL⟩ := N.loc.fa.obj _ N.cx.L
    rw [e] at eL; cases eL
    refine ⟨m, ⟨o, es, ep, keep _ _ (N.loc.fa.own _ N.cx.L) nL e, r⟩, fun i x b hi => (hl i x b hi).mono tu fun hb c hc => ?_⟩
    subst hb
    obtain ⟨h1, o', e', h2⟩ := N.loc.cells x c (List.mem_of_getElem? hi) hc
    exact (keep c o' h1 h2 e').trans e'.symm
theorem Bud.deeper (h : Bud (d + 1) A) (env : Env) : Bud d (A.deeper env) :=
  ⟨h.hd, by have := h.depth; show A.depth + 1 + 3 * d + 3 ≤ _; omega, by have := h.units; show A.units + 3 + 20 * d + 200 ≤ _; omega⟩
theorem Bud.room (h : Bud d A) : A.depth < recursionLimit := by have := h.depth; omega
structure DefOk (B : Base) (a : Nat) (fd : FuncData) (body : List Stmt) (n : Nat) (ps : List Str) (ds : List Value) : Prop where
  look : ∃ oc od osl, B.K.lookup a = some ⟨oc, od, .func fd, osl⟩
  body : fd.body = .stmts body
  code : codeIn B.K fd.code fd.qualname = true
  glob : fd.globals = mainGlobals
  blt : fd.builtins = builtinsNs
  clo : fd.closure = []
  co : fd.scope.isCoroutine = false
  gen : fd.scope.isGenerator = false
  kind : fd.scope.kind = .function
  bind : ∀ s : Shared, B.K.In s.heap → ∀ xs : List Value, xs.length = n → BindsTo s fd ⟨xs, []⟩ (ps.zip (xs ++ ds))
structure FnOk (Γ : Fn) (sc : Scope) (ps : List Str) : Prop where
  loc : ∀ x b, (x, b) ∈ Γ.loc → b = false ∧ sc.names.lookup x = some .local
  nodup : (Γ.loc.map (·.1)).Nodup
  glb : ∀ x ∈ Γ.glb, sc.names.lookup x = some .globalImplicit
  cell : ∀ x ∈ sc.names, x.2 ≠ .cell
  par : ∀ x ∈ ps, sc.names.lookup x = some .local
  first : (Γ.loc.map (·.1)).take ps.length = ps
theorem zip_lookup : ∀ (ps : List Str) (xs : List Value), ps.Nodup → ps.length = xs.length → ∀ (i : Nat) (x : Str), ps[i]? = some x → (ps.zip xs).reverse.lookup x = xs[i]? := by
  intro ps xs hn hl i x hi
  have key : ∀ (ps : List Str) (xs : List Value), ps.Nodup → ps.length = xs.length → ∀ (i : Nat) (x : Str), ps[i]? = some x → (ps.zip xs).lookup x = xs[i]? := by
    intro ps
    induction ps with
    | nil => intro xs _ _ i x hi; simp at hi
    | cons p ps ih =>
      intro xs hn hl i x hi
      cases xs with
      | nil => simp at hl
      | cons v xs =>
        rw [List.nodup_cons] at hn
        cases i with
        | zero =>
          simp only [List.getElem?_cons_zero, Option.some.injEq] at hi
          subst hi
          simp [List.zip_cons_cons, List.lookup_cons]
        | succ i =>
          simp only [List.getElem?_cons_succ] at hi
          have ne : (x == p) = false := beq_eq_false_iff_ne.mpr (fun e => hn.1 (e ▸ List.mem_of_getElem? hi))
          rw [List.zip_cons_cons, List.lookup_cons, ne]
          simpa using ih xs hn.2 (by simpa using hl) i x hi
  have mem : ∀ (l : List (Str × Value)) (x : Str), (l.map (·.1)).Nodup → l.reverse.lookup x = l.lookup x := by
    intro l
    induction l with
    | nil => intro x _; rfl
    | cons q l ih =>
      intro x hn
      obtain ⟨k, v⟩ := q
      rw [List.map_cons, List.nodup_cons] at hn
      rw [List.reverse_cons, List.lookup_append, ih x hn.2, List.lookup_cons]
      by_cases q : x = k
      · subst q
        have : l.lookup x = none := by
          rw [List.lookup_eq_none_iff]
          intro p hp
          have : x ≠ p.1 := fun e => hn.1 (by show x ∈ _; rw [e]; exact List.mem_map_of_mem hp)
          simpa using this
        rw [this]; simp
      · have : (x == k) = false := beq_eq_false_iff_ne.mpr q
        rw [this]; simp [List.lookup_cons, this]
  rw [mem _ x (by rw [List.map_fst_zip (Nat.le_of_eq hl)]; exact hn)]
  exact key ps xs hn hl i x hi
theorem VRs.at {h : Heap} : ∀ {vs : List V} {xs : List Value}, VRs h vs xs → ∀ (i : Nat) v, vs[i]? = some v → ∃ x, xs[i]? = some x ∧ VR h v x
  | [], _, _, i, v, e => by simp at e
  | _ :: _, _, r, i, v, e => by
    simp only [VRs] at r
    obtain ⟨x, t, rfl, h1, h2⟩ := r
    cases i with
    | zero => simp at e; subst e; exact ⟨x, by simp, h1⟩
    | succ i => simp at e; simpa using VRs.at h2 i v e
theorem TC.def {a : Nat} {fd : FuncData} {body : List Stmt} {n : Nat} {ps : List Str} {ds : List Value} {dv args : List V} {Q : V → Own → Prop} (D : DefOk B a fd body n ps ds) (G : FnOk Γ fd.scope ps) (hn : args.length = n) (hp : ps.length = n + ds.length)
    (hds : ∀ h, VRs h dv ds) (hcd : ∀ q, Γ.code = some q → fd.code = q.1 ∧ fd.qualname ++ (".<locals>." : Str) = q.2)
    (h : TS prog w B d Γ body ((args ++ dv).map some ++ List.replicate (Γ.loc.length - ps.length) none) own (fun f _ own' => match f with | .ret v => Q v own' | _ => Q .none own')) : TC prog w B (d + 1) (.ref a) args own Q := by
  intro C s hC N xs hxs R hR
  obtain ⟨Cd, CΓ, CA, Cenv, CFA, Cl⟩ := C
  dsimp only at hC; subst hC
  obtain ⟨oc, od, osl, lk⟩ := D.look
  have hK := N.ok.K.keeps N.st.keep
  have hxl : xs.length = n := hxs.length.trans hn
  refine codeAny_call_def (fd := fd) (binds := ps.zip (xs ++ ds)) N.bud.room (hK _ _ lk) rfl (N.ok.T.nolimit.keeps N.st.keep) (codeRec_of hK D.code) D.body (D.bind s hK xs hxl) G.cell (fun x hx => G.par _ (List.of_mem_zip hx).1) (fun h₀ hns hk => ?_) D.co D.gen D.kind
  have hsz : s.heap.objs.size < h₀.objs.size := hns.lt
  have X : Ext s.heap h₀ := ⟨hk⟩
  generalize htk : s.toks + (ps.zip (xs ++ ds)).length = tk
  obtain ⟨N1, S1⟩ := N.ext (tk := tk) X
  have hpl : ps.length = (xs ++ ds).length := by rw [hp, List.length_append, hxl]
  have hpn : ps.Nodup := by rw [← G.first]; exact (List.take_sublist _ _).nodup G.nodup
  have hv : VRs h₀ (args ++ dv) (xs ++ ds) := by
    have : ∀ {as : List V} {ys : List Value}, VRs s.heap as ys → VRs h₀ (as ++ dv) (ys ++ ds) := by
      intro as
      induction as with
      | nil => intro ys e; simp only [VRs] at e; subst e; exact hds _
      | cons b as ih =>
        intro ys e
        simp only [VRs] at e
        obtain ⟨x, t, rfl, e1, e2⟩ := e
        exact ⟨x, t ++ ds, rfl, e1.mono X.tups, ih e2⟩
    exact this hxs
  have NC : NowC prog w B ⟨d, Γ, CA.deeper (callEnv fd s.heap.objs.size a), callEnv fd s.heap.objs.size a, [s.heap.objs.size], (args ++ dv).map some ++ List.replicate (Γ.loc.length - ps.length) none⟩ own { s with heap := h₀, toks := tk } := by
    refine ⟨N.ok, N.bud.deeper _, ⟨D.kind, D.glob, D.blt, fun x b hx => ?_, fun x hx => ?_, fun x y c hx => ?_, G.nodup, fun x hx => G.glb x hx, List.mem_singleton_self _, hcd⟩, N1.st, ⟨⟨fun b hb => ?_, fun b hb => ?_, fun b hb => ?_⟩, ⟨_, hns, fun i x b hi => ?_⟩, fun x c hx => by cases (G.loc x _ hx).1⟩⟩
    · obtain ⟨rfl, e⟩ := G.loc x b hx; exact e
    · cases (G.loc x _ hx).1
    · cases (G.loc x _ hx).1
    · rw [List.mem_singleton] at hb; subst hb; exact N.fresh (top _)
    · rw [List.mem_singleton] at hb; subst hb
      cases q : B.h₀.get? s.heap.objs.size with
      | none => rfl
      | some o => exact absurd (Heap.lt_size (N.st.keep _ _ q)) (Nat.lt_irrefl _)
    · rw [List.mem_singleton] at hb; subst hb
      obtain ⟨o, es, ep, e, hd, _⟩ := hns
      exact ⟨o, e, .inl ⟨es, ep, hd⟩⟩
    · obtain ⟨rfl, e⟩ := G.loc x b (List.mem_of_getElem? hi)
      show LocAt _ _ _ _ _ _
      by_cases q : i < ps.length
      · have e1 : ps[i]? = some x := by
          rw [← G.first, List.getElem?_take, if_pos q, List.getElem?_map, hi]; rfl
        have hil : i < (args ++ dv).length := by rw [← hv.length, ← hpl]; exact q
        have e3 : (((args ++ dv).map some ++ List.replicate (Γ.loc.length - ps.length) none)[i]?).getD none = (args ++ dv)[i]? := by
          rw [List.getElem?_append_left (by rw [List.length_map]; exact hil), List.getElem?_map]
          rw [List.getElem?_eq_getElem hil]; rfl
        rw [e3, List.getElem?_eq_getElem hil]
        obtain ⟨xv, e4, e5⟩ := hv.at i _ (List.getElem?_eq_getElem hil)
        exact ⟨xv, (zip_lookup ps _ hpn hpl i x e1).trans e4, e5⟩
      · have hil : ¬ i < ((args ++ dv).map some).length := by rw [List.length_map, ← hv.length, ← hpl]; exact q
        have e3 : (((args ++ dv).map some ++ List.replicate (Γ.loc.length - ps.length) none)[i]?).getD none = (none : Option V) := by
          rw [List.getElem?_append_right (Nat.le_of_not_lt hil), List.getElem?_replicate]
          split <;> rfl
        rw [e3]; trivial
  have fin : ∀ (v : V) (x : Value) (o2 : Own) (s2 : Shared), Q v o2 → VR s2.heap v x → St prog w B o2 s2 → Stp B [s.heap.objs.size] own o2 { s with heap := h₀, toks := tk } s2 → Tups h₀ s2.heap → R (.ok (.ret x)) s2 := by
    intro v x o2 s2 q r T S tu
    have ne : ∀ b ∈ CFA, b ≠ s.heap.objs.size := fun b hb e => by
      obtain ⟨o, e', _⟩ := N.loc.fa.obj b hb
      exact absurd (Heap.lt_size e') (by rw [e]; exact Nat.lt_irrefl _)
    have S0 : Stp B [s.heap.objs.size] own o2 s s2 := by
      refine ⟨fun b o e hf hn hp => S.oth b o (hk b o e) hf hn hp, fun b hb => ?_, fun b o e => S.stay b o (hk b o e)⟩
      rcases S.new b hb with z | z
      · exact .inl z
      · refine .inr ?_
        cases q : s.heap.get? b with
        | none => rfl
        | some o => have e := hk b o q; rw [show h₀.get? b = none from z] at e; cases e
    have S' : Stp B CFA own o2 s s2 := by
      refine ⟨fun b o e hf hn hp => S.oth b o (hk b o e) (by rw [List.mem_singleton]; exact Nat.ne_of_lt (Heap.lt_size e)) hn hp, fun b hb => ?_, fun b o e => S.stay b o (hk b o e)⟩
      rcases S.new b hb with z | z
      · exact .inl z
      · refine .inr ?_
        cases q : s.heap.get? b with
        | none => rfl
        | some o => have e := hk b o q; rw [show h₀.get? b = none from z] at e; cases e
    exact hR v x o2 s2 q r (N.other S0 T (fun b hb => by rw [List.mem_singleton] at hb; subst hb; exact top _) (fun b o e hx => tu b o (hk b o e) hx)) S'
  refine h _ _ _ _ NC _ _ fun f x l2 o2 s2 q r N2 S2 => ?_
  have tu := NC.tups S2
  cases f with
  | next => cases r; exact fin _ _ _ _ q rfl N2.st S2 tu
  | brk => cases r; exact fin _ _ _ _ q rfl N2.st S2 tu
  | cont => cases r; exact fin _ _ _ _ q rfl N2.st S2 tu
  | ret v => obtain ⟨x, rfl, r⟩ := r; exact fin _ _ _ _ q r N2.st S2 tu
noncomputable def noStar (es : List Expr) : Bool := es.all fun e => match e with | .Starred .. => false | _ => true
theorem noStar_cons {e : Expr} {es : List Expr} (h : noStar (e :: es) = true) : (∀ x p, e ≠ .Starred x p) ∧ noStar es = true := by
  unfold noStar at h ⊢
  rw [List.all_cons, Bool.and_eq_true] at h
  exact ⟨fun x p q => by subst q; exact absurd h.1 (by simp), h.2⟩
theorem noStar_any {pos : Pos} : ∀ {es : List Expr}, noStar es = true → (backTo pos (starEach es env)).any (·.1) = false
  | [], _ => rfl
  | e :: es, h => by
    obtain ⟨h1, h2⟩ := noStar_cons h
    rw [starEach_cons h1]
    show (false || (backTo pos (starEach es env)).any (·.1)) = false
    rw [noStar_any h2]; rfl
theorem glob_name {x : Str} {np : Pos} {v : Value} {Q' : Value → Shared → Prop} {E : Value → Shared → Prop} (N : Now prog w B d Γ A env FA l own s) (hx : x ∈ Γ.glb) (hd : (x == ("__debug__" : Str)) = false) (e : nsIn B.K mainGlobals x = some (some v)) (h : Q' v s) :
    wpAny (model prog w) A (eval (.Name x np) env) Q' E s :=
  Name_function_global N.cx.kind (N.cx.glb x hx) (loadGlobal_global (mg := B.mg) (by rw [N.cx.glob]; exact N.ok.T.g.keeps N.st.keep) (mg_of N.ok.K N.ok.T.g e) h) hd
theorem TE.call {x : Str} {np pos : Pos} {a : Nat} {e0 : Expr} {es : List Expr} {Q : V → Own → Prop} (hx : x ∈ Γ.glb) (hd : (x == ("__debug__" : Str)) = false) (e : nsIn B.K mainGlobals x = some (some (.ref a))) (hk : keepIn B.K (.ref a) = true) (hs : noStar (e0 :: es) = true)
    (h : TA prog w B d Γ (e0 :: es) l own (fun vs own₁ => TC prog w B d (.ref a) vs own₁ Q)) : TE prog w B d Γ (.Call (.Name x np) (e0 :: es) [] pos) l own Q := by
  intro A env FA s N Q' E p
  obtain ⟨h1, h2⟩ := noStar_cons hs
  refine wpAny_Call_NameR (glob_name N hx hd e (callWith_K N.ok.K hk (h pos A env FA s N _ E fun vs xs o1 s1 q1 r1 N1 S1 => ⟨N1.ok.K.keeps N1.st.keep, ?_⟩) (starEach_cons h1) (noStar_any h2)))
  exact wpAny_call (q1 ⟨d, Γ, A, env, FA, l⟩ s1 rfl N1 xs r1 _ (p.step S1))
theorem TE.call0 {x : Str} {np pos : Pos} {a : Nat} {Q : V → Own → Prop} (hx : x ∈ Γ.glb) (hd : (x == ("__debug__" : Str)) = false) (e : nsIn B.K mainGlobals x = some (some (.ref a))) (hk : keepIn B.K (.ref a) = true)
    (h : TC prog w B d (.ref a) [] own Q) : TE prog w B d Γ (.Call (.Name x np) [] [] pos) l own Q := by
  intro A env FA s N Q' E p
  refine wpAny_Call_NameR (glob_name N hx hd e (callWith_K0 (N.ok.K.keeps N.st.keep) hk ?_))
  exact wpAny_call (h ⟨d, Γ, A, env, FA, l⟩ s rfl N [] rfl _ p)
end
end Lw.Internal
namespace Lw.Internal
section
variable {prog : Program} {w : World} {B : Base} {d : Nat} {Γ : Fn} {A : Around} {env : Env} {FA : List Nat} {l l' : List (Option V)} {own own' own'' : Own} {s s' s'' : Shared} {C : Ct}
theorem ObjAt.isList {h : Heap} {a : Nat} {vs : List V} (x : ObjAt prog w h a (.list vs)) : ∃ its n, h.get? a = some { cls := .type "list", data := .seq its n } ∧ h.IsList a its ∧ VRs h vs its.toList := by
  obtain ⟨its, n, e, r⟩ := x
  exact ⟨its, n, e, ⟨_, e, rfl, _, rfl⟩, r⟩
theorem VR.tupIs {h : Heap} {vs : List V} {x : Value} (r : VR h (.tup vs) x) : ∃ a its, x = .ref a ∧ IsTup h a its ∧ VRs h vs its.toList ∧ h.get? a = some { cls := .type "tuple", data := .seq its } := by
  simp only [VR] at r
  obtain ⟨a, its, rfl, e, r⟩ := r
  exact ⟨a, its, rfl, ⟨_, e, rfl, _, rfl⟩, r, e⟩
theorem VRs.size {h : Heap} {vs : List V} {its : Array Value} (r : VRs h vs its.toList) : its.size = vs.length := by
  rw [← Array.length_toList]; exact r.length
theorem VRs.append {h : Heap} : ∀ {vs ws : List V} {xs ys : List Value}, VRs h vs xs → VRs h ws ys → VRs h (vs ++ ws) (xs ++ ys)
  | [], ws, xs, ys, e, k => by simp only [VRs] at e; subst e; simpa using k
  | v :: vs, ws, xs, ys, e, k => by
    simp only [VRs] at e
    obtain ⟨x, t, rfl, h1, h2⟩ := e
    exact ⟨x, t ++ ys, rfl, h1, VRs.append h2 k⟩
theorem VRs.drop {h : Heap} : ∀ {vs : List V} {xs : List Value} (n : Nat), VRs h vs xs → VRs h (vs.drop n) (xs.drop n)
  | [], _, n, e => by simp only [VRs] at e; subst e; simp [VRs]
  | v :: vs, _, 0, e => e
  | v :: vs, _, n + 1, e => by
    simp only [VRs] at e
    obtain ⟨x, t, rfl, h1, h2⟩ := e
    simpa using VRs.drop n h2
theorem VRs.take {h : Heap} : ∀ {vs : List V} {xs : List Value} (n : Nat), VRs h vs xs → VRs h (vs.take n) (xs.take n)
  | [], _, n, e => by simp only [VRs] at e; subst e; simp [VRs]
  | v :: vs, _, 0, e => by simp [VRs]
  | v :: vs, _, n + 1, e => by
    simp only [VRs] at e
    obtain ⟨x, t, rfl, h1, h2⟩ := e
    rw [List.take_succ_cons, List.take_succ_cons]
    exact ⟨_, _, rfl, h1, VRs.take n h2⟩
theorem VRs.set {h : Heap} : ∀ {vs : List V} {xs : List Value} (n : Nat) {v : V} {x : Value}, VRs h vs xs → VR h v x → VRs h (vs.set n v) (xs.set n x)
  | [], _, n, _, _, e, _ => by simp only [VRs] at e; subst e; simp [VRs]
  | v :: vs, _, 0, _, _, e, k => by
    simp only [VRs] at e
    obtain ⟨x, t, rfl, h1, h2⟩ := e
    exact ⟨_, _, rfl, k, h2⟩
  | v :: vs, _, n + 1, _, _, e, k => by
    simp only [VRs] at e
    obtain ⟨x, t, rfl, h1, h2⟩ := e
    exact ⟨_, _, rfl, h1, VRs.set n h2 k⟩
theorem VRs.atA {h : Heap} {vs : List V} {its : Array Value} (r : VRs h vs its.toList) {i : Nat} {v : V} (e : vs[i]? = some v) : ∃ x, its[i]? = some x ∧ VR h v x := by
  obtain ⟨x, e, r⟩ := r.at i v e
  exact ⟨x, by simpa using e, r⟩
theorem TE.sub {a b : Expr} {pos : Pos} {Q : V → Own → Prop} (h : TE prog w B d Γ a l own (fun x own₁ => TE prog w B d Γ b l own₁ (fun y own₂ => T2 prog w B (subscriptTail a b) x y own₂ Q))) :
    TE prog w B d Γ (.Subscript a b pos) l own Q := by
  intro A env FA s N Q' E p
  refine Subscript_ (h A env FA s N _ E fun v x o1 s1 q1 r1 N1 S1 => q1 A env FA s1 N1 _ E fun v2 x2 o2 s2 q2 r2 N2 S2 => ?_)
  exact q2 _ s2 N2 x x2 (r1.mono (N1.tups S2)) r2 Q' E ((p.step S1).step S2)
noncomputable def PlainSub (b : Expr) : Prop := ∀ o i, subscripted b false o i = operate [o, i] (getItem o i)
theorem T2.item_list {a b : Expr} {o : Nat} {vs : List V} {k : Int} {v : V} {Q : V → Own → Prop} (hs : PlainSub b) (ho : own o = some (.list vs)) (h0 : 0 ≤ k) (hk : k < 2 ^ 63) (hv : vs[k.toNat]? = some v) (h : Q v own) :
    T2 prog w B (subscriptTail a b) (.obj o) (.int k) own Q := by
  rintro C s N _ _ rfl ⟨t, rfl⟩ Q' E p
  obtain ⟨its, n, e, il, r⟩ := (N.st.obj o _ ho).1.isList
  obtain ⟨x, ex, rx⟩ := r.atA hv
  exact tail_any il.typeIs slot_list_getitem.lookup (wpAny_getItem_list il h0 hk ex (p v x _ _ h rx N .refl)) (hs _ _)
theorem T2.item_listn {a b : Expr} {o : Nat} {vs : List V} {k : Int} {v : V} {Q : V → Own → Prop} (hs : PlainSub b) (ho : own o = some (.list vs)) (h0 : k < 0) (h1 : -(vs.length : Int) ≤ k) (hk : -(2 ^ 63) ≤ k) (hv : vs[(k + vs.length).toNat]? = some v) (h : Q v own) :
    T2 prog w B (subscriptTail a b) (.obj o) (.int k) own Q := by
  rintro C s N _ _ rfl ⟨t, rfl⟩ Q' E p
  obtain ⟨its, n, e, il, r⟩ := (N.st.obj o _ ho).1.isList
  rw [← r.size] at hv h1
  obtain ⟨x, ex, rx⟩ := r.atA hv
  exact tail_any il.typeIs slot_list_getitem.lookup (wpAny_getItem_list_neg il h0 h1 hk ex (p v x _ _ h rx N .refl)) (hs _ _)
theorem T2.item_tup {a b : Expr} {vs : List V} {k : Int} {j : Nat} {v : V} {Q : V → Own → Prop} (hs : PlainSub b) (h0 : -(2 ^ 63) ≤ k) (hk : k < 2 ^ 63) (hj : seqIndex? k vs.length = some j) (hv : vs[j]? = some v) (h : Q v own) :
    T2 prog w B (subscriptTail a b) (.tup vs) (.int k) own Q := by
  rintro C s N _ _ r ⟨t, rfl⟩ Q' E p
  obtain ⟨o, its, rfl, it, r, e⟩ := r.tupIs
  obtain ⟨x, ex, rx⟩ := r.atA hv
  exact tail_any it.typeIs slot_tuple_getitem.lookup (getItem_tuple it h0 hk (by rw [r.size]; exact hj) ex (p v x _ _ h rx N .refl)) (hs _ _)
noncomputable def kget {K : Type} [BEq K] (kvs : List (K × V)) (k : K) : Option V := kvs.lookup k
theorem KVs.at {K K' : Type} [BEq K] [LawfulBEq K] [DecidableEq K'] {f : K → K'} (hf : ∀ a b, f a = f b → a = b) {h : Heap} : ∀ {kvs : List (K × V)} {es : List (K' × Value)}, KVs f h kvs es → ∀ k, match kget kvs k with
    | some v => ∃ x, valueAt es (f k) = some x ∧ VR h v x
    | none => valueAt es (f k) = none
  | [], _, e, k => by simp only [KVs] at e; subst e; simp [kget, valueAt]
  | (k', v) :: kvs, _, e, k => by
    simp only [KVs] at e
    obtain ⟨x, t, rfl, h1, h2⟩ := e
    unfold kget
    rw [List.lookup_cons]
    by_cases q : k = k'
    · subst q; simp only [beq_self_eq_true]; exact ⟨x, by simp [valueAt], h1⟩
    · have : (k == k') = false := by simpa using q
      rw [this]
      have ne : ¬ f k' = f k := fun z => q (hf _ _ z).symm
      have e2 : valueAt ((f k', x) :: t) (f k) = valueAt t (f k) := by simp [valueAt, List.find?_cons, ne]
      rw [e2]
      exact KVs.at hf h2 k
theorem S_inj (a b : List Nat) (h : S a = S b) : a = b := by
  have := congrArg Str.cps h
  simpa [S] using this
theorem id_inj (a b : Int) (h : id a = id b) : a = b := h
theorem Now.hi_ne (N : Now prog w B d Γ A env FA l own s) {o : Nat} {ob : O} (ho : own o = some ob) : (o == sysModules) = false := by
  have k := (N.st.obj o _ ho).2.1
  refine beq_eq_false_iff_ne.mpr (fun e => ?_)
  obtain ⟨o', h⟩ := N.ok.M
  rw [e, h] at k; cases k
theorem int_key {k : Int} {t : Tok} : (intKind prog w).is k (.int k t) = true := by simp [intKind, Value.isInt]
theorem str_key {k : Str} {t : Tok} : (PySem.strKind prog w).is k (.str k t) = true := by simp [PySem.strKind, Value.isStrOf]
theorem T2.item_dicti {a b : Expr} {o ep : Nat} {kvs : List (Int × V)} {k : Int} {v : V} {Q : V → Own → Prop} (hs : PlainSub b) (ho : own o = some (.dicti ep kvs)) (hv : kget kvs k = some v) (h : Q v own) :
    T2 prog w B (subscriptTail a b) (.obj o) (.int k) own Q := by
  rintro C s N _ _ rfl ⟨t, rfl⟩ Q' E p
  obtain ⟨xs, hd, r⟩ := (N.st.obj o _ ho).1
  have := r.at id_inj k
  rw [hv] at this
  obtain ⟨x, ex, rx⟩ := this
  exact tail_any hd.dictOf.typeIs slot_dict_getitem.lookup (wpAny_getItem_of int_key hd.dictOf.mapOf ex (p v x _ _ h rx (N.tok _).1 (N.tok _).2)) (hs _ _)
theorem T2.item_dicts {a b : Expr} {o : Nat} {kvs : List (List Nat × V)} {k : List Nat} {v : V} {Q : V → Own → Prop} (hs : PlainSub b) (ho : own o = some (.dicts kvs)) (hv : kget kvs k = some v) (h : Q v own) :
    T2 prog w B (subscriptTail a b) (.obj o) (.str k) own Q := by
  rintro C s N _ _ rfl ⟨t, rfl⟩ Q' E p
  obtain ⟨xs, hd, r⟩ := (N.st.obj o _ ho).1
  have := r.at S_inj k
  rw [hv] at this
  obtain ⟨x, ex, rx⟩ := this
  exact tail_any hd.typeIs slot_dict_getitem.lookup (wpAny_getItem_of str_key hd.mapOf ex (p v x _ _ h rx (N.tok _).1 (N.tok _).2)) (hs _ _)
theorem T2.in_dicti {o ep : Nat} {kvs : List (Int × V)} {k : Int} {Q : V → Own → Prop} (ho : own o = some (.dicti ep kvs)) (h : Q (.bool (kget kvs k).isSome) own) : T2 prog w B (compareOp .In) (.int k) (.obj o) own Q := by
  rintro C s N _ _ ⟨t, rfl⟩ rfl Q' E p
  obtain ⟨xs, hd, r⟩ := (N.st.obj o _ ho).1
  have e : (kget kvs k).isSome = (valueAt xs k).isSome := by
    have := r.at id_inj k
    revert this
    cases kget kvs k with
    | none => intro e; rw [show valueAt xs k = none from e]; rfl
    | some v => rintro ⟨x, e, _⟩; rw [show valueAt xs k = some x from e]; rfl
  exact wpAny_in_of int_key (N.hi_ne ho) hd.dictOf.mapOf (p (.bool _) _ _ _ h (by rw [e]; rfl) (N.tok _).1 (N.tok _).2)
theorem T2.notin {x y : V} {Q : V → Own → Prop} (h : T2 prog w B (compareOp .In) x y own (fun v own' => match v with | .bool b => Q (.bool !b) own' | _ => False)) : T2 prog w B (compareOp .NotIn) x y own Q := by
  intro C s N a b ra rb Q' E p
  have key := h C s N a b ra rb (fun v s' => match v with | .bool t => Q' (.bool !t) s' | _ => False) E (fun v x o' s' q r N' S' => by
    cases v with
    | bool t => cases r; exact p _ _ _ _ q rfl N' S'
    | _ => exact q.elim)
  have e : compareOp .In a b = (contains b a >>= fun t => pure (.bool t)) := rfl
  rw [e] at key
  have kk : wpAny (model prog w) C.A (contains b a) (fun t s' => Q' (.bool !t) s') E s := fun Γ' p' hΓ => by
    have k := key Γ' p' hΓ
    rw [Sem.wp_bind'] at k
    exact k
  show wpAny _ _ (contains b a >>= fun t => pure (.bool !t)) Q' E s
  exact wpAny_bind (wpAny_mono kk (fun t s2 k2 => wpAny_pure k2) fun _ _ k2 => k2)
theorem in_str (o : Nat) (kvs : List (List Nat × V)) (k : List Nat) {xs : List (Str × Value)} {h : Heap} (r : KVs S h kvs xs) : (kget kvs k).isSome = (valueAt xs (S k)).isSome := by
  have := r.at S_inj k
  revert this
  cases kget kvs k with
  | none => intro e; rw [show valueAt xs (S k) = none from e]; rfl
  | some v => rintro ⟨x, e, _⟩; rw [show valueAt xs (S k) = some x from e]; rfl
theorem T2.in_dicts {o : Nat} {kvs : List (List Nat × V)} {k : List Nat} {Q : V → Own → Prop} (ho : own o = some (.dicts kvs)) (h : Q (.bool (kget kvs k).isSome) own) : T2 prog w B (compareOp .In) (.str k) (.obj o) own Q := by
  rintro C s N _ _ ⟨t, rfl⟩ rfl Q' E p
  obtain ⟨xs, hd, r⟩ := (N.st.obj o _ ho).1
  exact wpAny_in_of str_key (N.hi_ne ho) hd.mapOf (p (.bool _) _ _ _ h (by rw [in_str o kvs k r]; rfl) (N.tok _).1 (N.tok _).2)
mutual
inductive Rd (own : Own) : V → PyData → Prop
  | none : Rd own .none .none
  | bool (b : Bool) : Rd own (.bool b) (.bool b)
  | int (i : Int) : Rd own (.int i) (.int i)
  | str (l : List Nat) : Rd own (.str l) (.str (S l))
  | tup {vs : List V} {ds : List PyData} : RdAll own vs ds → Rd own (.tup vs) (.tuple ds)
  | list {a : Nat} {vs : List V} {ds : List PyData} : own a = some (.list vs) → RdAll own vs ds → Rd own (.obj a) (.list ds)
inductive RdAll (own : Own) : List V → List PyData → Prop
  | nil : RdAll own [] []
  | cons {v : V} {d : PyData} {vs : List V} {ds : List PyData} : Rd own v d → RdAll own vs ds → RdAll own (v :: vs) (d :: ds)
end
mutual
theorem Rd.reads (N : Now prog w B d Γ A env FA l own s) : ∀ {v : V} {x : Value} {da : PyData}, Rd own v da → VR s.heap v x → ∃ as, Reads s.heap x da as
  | _, _, _, .none, e => by simp only [VR] at e; subst e; exact ⟨_, .none⟩
  | _, _, _, .bool b, e => by simp only [VR] at e; subst e; exact ⟨_, .bool b⟩
  | _, _, _, .int i, e => by simp only [VR] at e; obtain ⟨t, rfl⟩ := e; exact ⟨_, .int i t⟩
  | _, _, _, .str l, e => by simp only [VR] at e; obtain ⟨t, rfl⟩ := e; exact ⟨_, .str _ t⟩
  | _, _, _, .tup r, e => by
    simp only [VR] at e
    obtain ⟨a, its, rfl, e1, e2⟩ := e
    obtain ⟨as, k⟩ := RdAll.reads N r e2
    exact ⟨as, .tuple e1 rfl rfl k⟩
  | _, _, _, .list ho r, e => by
    simp only [VR] at e; subst e
    obtain ⟨its, n, e1, e2⟩ := (N.st.obj _ _ ho).1
    obtain ⟨as, k⟩ := RdAll.reads N r e2
    exact ⟨_, .list e1 rfl rfl k⟩
theorem RdAll.reads (N : Now prog w B d Γ A env FA l own s) : ∀ {vs : List V} {xs : List Value} {ds : List PyData}, RdAll own vs ds → VRs s.heap vs xs → ∃ as, ReadsAll s.heap xs ds as
  | _, _, _, .nil, e => by simp only [VRs] at e; subst e; exact ⟨_, .nil⟩
  | _, _, _, .cons r rs, e => by
    simp only [VRs] at e
    obtain ⟨x, t, rfl, h1, h2⟩ := e
    obtain ⟨as, k1⟩ := Rd.reads N r h1
    obtain ⟨bs, k2⟩ := RdAll.reads N rs h2
    exact ⟨_, .cons k1 k2⟩
end
theorem RdAll.ints (own : Own) : ∀ ns : List Int, RdAll own (ns.map V.int) (ns.map PyData.int)
  | [] => .nil
  | n :: ns => .cons (.int n) (RdAll.ints own ns)
theorem canLay_ints : ∀ ns : List Int, PyData.canLayAll0 (ns.map PyData.int) = true
  | [] => rfl
  | n :: ns => by
    have h := canLay_ints ns
    have e : PyData.canLay0 (.int n) = true := rfl
    simp [PyData.canLayAll0, e, h]
theorem eqv_ints : ∀ ns ms : List Int, PyData.eqvAll (ns.map PyData.int) (ms.map PyData.int) = (ns == ms)
  | [], [] => rfl
  | [], _ :: _ => rfl
  | _ :: _, [] => rfl
  | n :: ns, m :: ms => by
    have h := eqv_ints ns ms
    simp [PyData.eqvAll, PyData.eqv, h]
theorem T2.eq {a b : V} {da db : PyData} {Q : V → Own → Prop} (ra : Rd own a da) (rb : Rd own b db) (ca : da.canLay0 = true) (cb : db.canLay0 = true) (hd : min da.depth db.depth ≤ 100) (h : Q (.bool (PyData.eqv da db)) own) : T2 prog w B (compareOp .Eq) a b own Q := by
  intro C s N x y hx hy Q' E p
  obtain ⟨as, k1⟩ := ra.reads N hx
  obtain ⟨bs, k2⟩ := rb.reads N hy
  refine SeqAt.compareEq_reads k1 k2 ca cb ?_ (p _ _ _ _ h rfl N .refl)
  have := N.bud.units
  omega
theorem T2.ne {a b : V} {da db : PyData} {Q : V → Own → Prop} (ra : Rd own a da) (rb : Rd own b db) (ca : da.canLay0 = true) (cb : db.canLay0 = true) (hd : min da.depth db.depth ≤ 100) (h : Q (.bool (!PyData.eqv da db)) own) : T2 prog w B (compareOp .NotEq) a b own Q := by
  intro C s N x y hx hy Q' E p
  obtain ⟨as, k1⟩ := ra.reads N hx
  obtain ⟨bs, k2⟩ := rb.reads N hy
  refine SeqAt.compareNe_reads k1 k2 ca cb ?_ (p _ _ _ _ h rfl N .refl)
  have := N.bud.units
  omega
theorem T2.in_tup {a : V} {vs : List V} {da : PyData} {ds : List PyData} {Q : V → Own → Prop} (ra : Rd own a da) (rb : RdAll own vs ds) (ca : da.canLay0 = true) (cb : PyData.canLayAll0 ds = true) (hd : da.depth ≤ 100) (h : Q (.bool (ds.any fun y => PyData.eqv y da)) own) : T2 prog w B (compareOp .In) a (.tup vs) own Q := by
  intro C s N x y hx hy Q' E p
  obtain ⟨as, k1⟩ := ra.reads N hx
  obtain ⟨bs, k2⟩ := (Rd.tup rb).reads N hy
  refine SeqAt.in_tuple_reads k2 k1 cb ca ?_ (p _ _ _ _ h rfl N .refl)
  have := N.bud.units
  omega
theorem T2.in_list {a : V} {o : Nat} {vs : List V} {da : PyData} {ds : List PyData} {Q : V → Own → Prop} (ho : own o = some (.list vs)) (ra : Rd own a da) (rb : RdAll own vs ds) (ca : da.canLay0 = true) (cb : PyData.canLayAll0 ds = true) (hd : da.depth ≤ 100) (h : Q (.bool (ds.any fun y => PyData.eqv y da)) own) : T2 prog w B (compareOp .In) a (.obj o) own Q := by
  intro C s N x y hx hy Q' E p
  obtain ⟨as, k1⟩ := ra.reads N hx
  obtain ⟨bs, k2⟩ := (Rd.list ho rb).reads N hy
  refine SeqAt.in_list_reads k2 k1 cb ca ?_ (p _ _ _ _ h rfl N .refl)
  have := N.bud.units
  omega
noncomputable def V.isNone : V → Bool | .none => true | _ => false
theorem VR.isNone {h : Heap} {v : V} {x : Value} (r : VR h v x) : (x == .none) = v.isNone := by
  cases v with
  | none => simp only [VR] at r; subst r; rfl
  | bool b => simp only [VR] at r; subst r; rfl
  | int i => simp only [VR] at r; obtain ⟨t, rfl⟩ := r; rfl
  | str l => simp only [VR] at r; obtain ⟨t, rfl⟩ := r; rfl
  | tup vs => simp only [VR] at r; obtain ⟨a, its, rfl, _⟩ := r; rfl
  | obj a => simp only [VR] at r; subst r; rfl
theorem T2.isn {v : V} {Q : V → Own → Prop} (h : Q (.bool v.isNone) own) : T2 prog w B (compareOp .Is) v .none own Q := by
  rintro C s N x _ hx rfl Q' E p
  exact is_none_gen (p (.bool _) _ _ _ h (by rw [hx.isNone]; rfl) N .refl)
theorem T2.isnn {v : V} {Q : V → Own → Prop} (h : Q (.bool !v.isNone) own) : T2 prog w B (compareOp .IsNot) v .none own Q := by
  rintro C s N x _ hx rfl Q' E p
  exact isnot_none_gen (p (.bool _) _ _ _ h (by rw [hx.isNone]; rfl) N .refl)
end
end Lw.Internal
namespace Lw.Internal
section
variable {prog : Program} {w : World} {B : Base} {d : Nat} {Γ : Fn} {A : Around} {env : Env} {FA : List Nat} {l l' : List (Option V)} {own own' own'' : Own} {s s' s'' : Shared} {C : Ct}
inductive HasT (own : Own) : String → V → Prop
  | list {a : Nat} {vs : List V} : own a = some (.list vs) → HasT own "list" (.obj a)
  | dicti {a ep : Nat} {kvs : List (Int × V)} : own a = some (.dicti ep kvs) → HasT own "dict" (.obj a)
  | dicts {a : Nat} {kvs : List (List Nat × V)} : own a = some (.dicts kvs) → HasT own "dict" (.obj a)
  | dictt {a ep : Nat} {kvs : List (List Int × V)} : own a = some (.dictt ep kvs) → HasT own "dict" (.obj a)
theorem HasT.typed (N : Now prog w B d Γ A env FA l own s) {T : String} {v : V} {x : Value} (t : HasT own T v) (r : VR s.heap v x) : s.TypeIs x T ∧ ∀ a, x = .ref a → ∃ ob, s.heap.get? a = some ob ∧ ob.dict = none := by
  cases t with
  | list ho =>
    simp only [VR] at r; subst r
    obtain ⟨its, n, e, _⟩ := (N.st.obj _ _ ho).1
    exact ⟨⟨_, e, rfl⟩, fun a h => by cases h; exact ⟨_, e, rfl⟩⟩
  | dicti ho =>
    simp only [VR] at r; subst r
    obtain ⟨xs, ⟨o, es, e, hx, _⟩, _⟩ := (N.st.obj _ _ ho).1
    exact ⟨⟨_, e, hx.1⟩, fun a h => by cases h; exact ⟨_, e, hx.2.1⟩⟩
  | dicts ho =>
    simp only [VR] at r; subst r
    obtain ⟨xs, ⟨o, es, ep, e, hx, _⟩, _⟩ := (N.st.obj _ _ ho).1
    exact ⟨⟨_, e, hx.1⟩, fun a h => by cases h; exact ⟨_, e, hx.2.1⟩⟩
  | dictt ho =>
    simp only [VR] at r; subst r
    obtain ⟨xs, ⟨o, es, e, hx, _⟩, _⟩ := (N.st.obj _ _ ho).1
    exact ⟨⟨_, e, hx.1⟩, fun a h => by cases h; exact ⟨_, e, hx.2.1⟩⟩
noncomputable def PlainBase (o : Expr) (name : Str) : Prop := ∀ (env : Env) (whole : Sem Value), attributeBase o name env whole = whole
theorem noStar_all {pos : Pos} : ∀ {es : List Expr}, noStar es = true → (backTo pos (starEach es env)).all (fun x => !x.1) = true
  | [], _ => rfl
  | e :: es, h => by
    obtain ⟨h1, h2⟩ := noStar_cons h
    rw [starEach_cons h1]
    show (true && (backTo pos (starEach es env)).all (fun x => !x.1)) = true
    rw [noStar_all h2]; rfl
theorem few {pos : Pos} {es : List Expr} (h : noStar es = true) (hn : es.length < 30) : ((backTo pos (starEach es env)).all (fun x => !x.1) && (backToKw pos (keywordEach [] env)).all (fun x => x.1.isSome)
      && decide (es.length + ([] : List Keyword).length + (if ([] : List Keyword).isEmpty then 0 else 1) < 30)) = true := by
  rw [noStar_all h]
  show (true && true && decide (es.length < 30)) = true
  exact decide_eq_true hn
theorem TE.method {o : Expr} {name : Str} {apos pos : Pos} {e0 : Expr} {es : List Expr} {T id : String} {Q : V → Own → Prop} (hb : PlainBase o name) (hs : noStar (e0 :: es) = true) (hn : (e0 :: es).length < 30) (hl : (apos.endLine == pos.line) = true)
    (pa : PlainAttrs T) (slot : Slot T name id) (hty : typeOf (.builtin id) = pure (.type "method_descriptor"))
    (h : TE prog w B d Γ o l own (fun x own₁ => HasT own₁ T x ∧ TA prog w B d Γ (e0 :: es) l own₁ (fun vs own₂ => TN prog w B (fun xs => PySem.call (.builtin id) xs) (x :: vs) own₂ Q))) :
    TE prog w B d Γ (.Call (.Attribute o name apos) (e0 :: es) [] pos) l own Q := by
  intro A env FA s N Q' E p
  refine wpAny_Call_method (hb env _) (few hs hn) hl pa slot hty (h A env FA s N _ E fun v x o1 s1 q1 r1 N1 S1 => ?_)
  obtain ⟨t, q2⟩ := q1
  obtain ⟨t1, t2⟩ := t.typed N1 r1
  obtain ⟨h1, h2⟩ := noStar_cons hs
  refine ⟨t1, t2, callWith_method1 (q2 pos A env FA s1 N1 _ E fun vs xs o2 s2 q3 r2 N2 S2 => ?_) (starEach_cons h1) (noStar_any h2)⟩
  exact q3 _ s2 N2 (x :: xs) ⟨_, _, rfl, r1.mono (N1.tups S2), r2⟩ Q' E ((p.step S1).step S2)
theorem TE.method0 {o : Expr} {name : Str} {apos pos : Pos} {T id : String} {Q : V → Own → Prop} (hb : PlainBase o name) (hl : (apos.endLine == pos.line) = true)
    (pa : PlainAttrs T) (slot : Slot T name id) (hty : typeOf (.builtin id) = pure (.type "method_descriptor"))
    (h : TE prog w B d Γ o l own (fun x own₁ => HasT own₁ T x ∧ TN prog w B (fun xs => PySem.call (.builtin id) xs) [x] own₁ Q)) :
    TE prog w B d Γ (.Call (.Attribute o name apos) [] [] pos) l own Q := by
  intro A env FA s N Q' E p
  refine wpAny_Call_method (hb env _) (few (es := []) rfl (by decide)) hl pa slot hty (h A env FA s N _ E fun v x o1 s1 q1 r1 N1 S1 => ?_)
  obtain ⟨t, q2⟩ := q1
  obtain ⟨t1, t2⟩ := t.typed N1 r1
  refine ⟨t1, t2, callWith_method0 ?_⟩
  exact q2 _ s1 N1 [x] ⟨_, _, rfl, r1, rfl⟩ Q' E (p.step S1)
theorem VRs.one {h : Heap} {v : V} {xs : List Value} (r : VRs h [v] xs) : ∃ x, xs = [x] ∧ VR h v x := by
  simp only [VRs] at r
  obtain ⟨x, t, rfl, r, rfl⟩ := r
  exact ⟨x, rfl, r⟩
theorem VRs.two {h : Heap} {v u : V} {xs : List Value} (r : VRs h [v, u] xs) : ∃ x y, xs = [x, y] ∧ VR h v x ∧ VR h u y := by
  simp only [VRs] at r
  obtain ⟨x, t, rfl, r, y, t', rfl, r', rfl⟩ := r
  exact ⟨x, y, rfl, r, r'⟩
theorem VRs.three {h : Heap} {v u t : V} {xs : List Value} (r : VRs h [v, u, t] xs) : ∃ x y z, xs = [x, y, z] ∧ VR h v x ∧ VR h u y ∧ VR h t z := by
  simp only [VRs] at r
  obtain ⟨x, _, rfl, r, y, _, rfl, r', z, _, rfl, r'', rfl⟩ := r
  exact ⟨x, y, z, rfl, r, r', r''⟩
theorem VRs.pop {h : Heap} : ∀ {vs : List V} {xs : List Value}, VRs h vs xs → VRs h vs.dropLast xs.dropLast
  | vs, xs, r => by
    have e1 : vs.dropLast = vs.take (vs.length - 1) := List.dropLast_eq_take
    have e2 : xs.dropLast = xs.take (xs.length - 1) := List.dropLast_eq_take
    rw [e1, e2, r.length]
    exact r.take _
theorem Now.list (N : Now prog w B d Γ A env FA l own s) {a : Nat} {vs ws : List V} (ha : own a = some (.list vs)) {h' : Heap} {its : Array Value} {n : Nat} {tk : Nat} (hs : Heap.SameBut a s.heap h') (ho : h'.get? a = some { cls := .type "list", data := .seq its n }) (r : Tups s.heap h' → VRs h' ws its.toList) :
    Now prog w B d Γ A env FA l (own.put a (.list ws)) { s with heap := h', toks := tk } ∧ Stp B FA own (own.put a (.list ws)) s { s with heap := h', toks := tk } := by
  obtain ⟨x1, x2, x3⟩ := N.st.obj a _ ha
  obtain ⟨ob, e1, n1, _⟩ := x1.get
  have k : Tups s.heap h' := fun b o2 e hc => (hs.2 b (fun q => by subst q; rw [e1] at e; cases e; exact n1 hc)).trans e
  exact N.upd ha hs ⟨its, n, ho, r k⟩
theorem TN.append {a : Nat} {vs : List V} {v : V} {Q : V → Own → Prop} (ho : own a = some (.list vs)) (hz : vs.length ≤ sizeLine) (h : Q .none (own.put a (.list (vs ++ [v])))) : TN prog w B (fun xs => PySem.call (.builtin "list.append") xs) [.obj a, v] own Q := by
  intro C s N xs r Q' E p
  obtain ⟨x, y, rfl, r1, r2⟩ := r.two
  simp only [VR] at r1; subst r1
  obtain ⟨its, n, e, r⟩ := (N.st.obj _ _ ho).1
  refine append_at e (fun h' hs he => ?_) (by rw [VRs.size r]; exact hz)
  obtain ⟨N', S'⟩ := N.list (ws := vs ++ [v]) (tk := s.toks) ho hs he (fun k => by
    rw [Array.toList_push]
    exact (r.mono k).append ⟨_, _, rfl, r2.mono k, rfl⟩)
  exact p .none _ _ _ h rfl N' S'
theorem TN.pop {a : Nat} {vs : List V} {v : V} {Q : V → Own → Prop} (ho : own a = some (.list (vs ++ [v]))) (hz : (vs ++ [v]).length ≤ sizeLine) (h : Q v (own.put a (.list vs))) : TN prog w B (fun xs => PySem.call (.builtin "list.pop") xs) [.obj a] own Q := by
  intro C s N xs r Q' E p
  obtain ⟨x, rfl, r1⟩ := r.one
  simp only [VR] at r1; subst r1
  obtain ⟨its, n, e, r⟩ := (N.st.obj _ _ ho).1
  have sz : its.size = vs.length + 1 := by rw [VRs.size r, List.length_append]; rfl
  obtain ⟨y, ey, ry⟩ := r.atA (i := its.size - 1) (v := v) (by rw [sz, Nat.add_sub_cancel]; simp)
  refine Copied.pop_at e ey (fun h' hs he => ?_) (by rw [VRs.size r]; exact hz)
  have kk : ∀ k : Tups s.heap h', VRs h' vs its.pop.toList := fun k => by
    have := (r.mono k).pop
    rw [List.dropLast_concat] at this
    rw [Array.toList_pop]
    exact this
  obtain ⟨N', S'⟩ := N.list (ws := vs) (tk := s.toks) ho hs he kk
  exact p v _ _ _ h (ry.mono (N.tups S')) N' S'
end
end Lw.Internal
namespace Lw.Internal
section
variable {prog : Program} {w : World} {B : Base} {d : Nat} {Γ : Fn} {A : Around} {env : Env} {FA : List Nat} {l l' : List (Option V)} {own own' own'' : Own} {s s' s'' : Shared} {C : Ct}
theorem size_1000 : 1000 ≤ sizeLine := by rw [show sizeLine = 16777216 from rfl]; decide
theorem seq_room {a b : Array Value} (h : a.size + b.size ≤ sizeLine) : ¬(!a.isEmpty && Builtin.List.listTooLong (a.size + b.size)) = true := extend_door h
theorem TN.extend {a b : Nat} {vs ws : List V} {Q : V → Own → Prop} (ho : own a = some (.list vs)) (hb : own b = some (.list ws)) (hz : vs.length + ws.length ≤ sizeLine) (h : Q .none (own.put a (.list (vs ++ ws)))) : TN prog w B (fun xs => PySem.call (.builtin "list.extend") xs) [.obj a, .obj b] own Q := by
  intro C s N xs r Q' E p
  obtain ⟨x, y, rfl, r1, r2⟩ := r.two
  simp only [VR] at r1 r2; subst r1; subst r2
  obtain ⟨its, n, e, r⟩ := (N.st.obj _ _ ho).1
  obtain ⟨its2, n2, e2, r2⟩ := (N.st.obj _ _ hb).1
  have hsz : its.size + its2.size ≤ sizeLine := by rw [VRs.size r, VRs.size r2]; exact hz
  refine call_meets PySem.F.slot_list_extend ⟨_, e, rfl⟩ PySem.F.entry_list_extend (PySem.F.args_list_extend_2 _ _) (AutoSeq1.list_extend_list_list_0 a its n b its2 n2 (seq_room hsz) (Nat.le_trans (Nat.le_add_right _ _) hsz) (Nat.le_succ_of_le hsz)) ⟨e, e2, ?_⟩
  have ho' : (s.heap.update a (Obj.mapSeq fun x => x ++ its2)).get? a = some { cls := .type "list", data := .seq (its ++ its2) (if (its ++ its2).size == its.size then n else n + 1) } := by
    rw [Heap.get?_update_self _ e (by rw [mapSeq_app]; rfl), mapSeq_app]
  obtain ⟨N', S'⟩ := N.list (ws := vs ++ ws) (tk := s.toks) ho (Heap.SameBut.update ..) ho' (fun k => by
    rw [Array.toList_append]; exact (r.mono k).append (r2.mono k))
  exact p .none _ _ _ h rfl N' S'
theorem insert_at {s : Shared} {a : Nat} {its : Array Value} {n : Nat} {i : Int} {t : Tok} {z : Value} {Q' : Value → Shared → Prop} {E : Value → Shared → Prop} (e : s.heap.get? a = some { cls := .type "list", data := .seq its n })
    (h0 : 0 ≤ i) (hi : i ≤ its.size) (hz : its.size ≤ sizeLine) (hf : ¬(!Builtin.List.listFitsIndex i) = true)
    (h : ∀ h' n', Heap.SameBut a s.heap h' → h'.get? a = some { cls := .type "list", data := .seq ((its.extract 0 i.toNat).push z ++ its.extract i.toNat) n' } → Q' .none { s with heap := h' }) :
    wpAny (model prog w) A (PySem.call (.builtin "list.insert") [.ref a, .int i t, z]) Q' E s := by
  refine call_meets PySem.F.slot_list_insert ⟨_, e, rfl⟩ PySem.F.entry_list_insert (PySem.F.args_list_insert_3 _ _ _) (AutoSeq1.list_insert_list_int_val_1 a its n i t z hf hz) ⟨e, ?_⟩
  have hmin : min i.toNat its.size = i.toNat := Nat.min_eq_left (by omega)
  refine h _ (n + 1) (Heap.SameBut.update ..) ?_
  · rw [Heap.get?_update_self _ e (by rfl)]
    show some (Obj.mapSeq _ _) = _
    unfold Obj.mapSeq
    dsimp only
    rw [if_neg (show ¬ i < 0 by omega), hmin]
    have : ((its.extract 0 i.toNat).push z ++ its.extract i.toNat).size ≠ its.size := by
      simp only [Array.size_append, Array.size_push, Array.size_extract]
      omega
    simp
    omega
theorem TN.insert {a : Nat} {vs : List V} {i : Int} {v : V} {Q : V → Own → Prop} (ho : own a = some (.list vs)) (hz : vs.length ≤ 1000) (h0 : 0 ≤ i) (hi : i ≤ vs.length) (h : Q .none (own.put a (.list (vs.take i.toNat ++ v :: vs.drop i.toNat)))) : TN prog w B (fun xs => PySem.call (.builtin "list.insert") xs) [.obj a, .int i, v] own Q := by
  intro C s N xs r Q' E p
  obtain ⟨x, y, z, rfl, r1, r2, r3⟩ := r.three
  simp only [VR] at r1 r2; subst r1
  obtain ⟨t, rfl⟩ := r2
  obtain ⟨its, n, e, r⟩ := (N.st.obj _ _ ho).1
  have hsz : its.size = vs.length := VRs.size r
  have hz' : its.size ≤ sizeLine := Nat.le_trans (Nat.le_of_eq hsz) (Nat.le_trans hz size_1000)
  have hf : ¬(!Builtin.List.listFitsIndex i) = true := by
    unfold Builtin.List.listFitsIndex
    simp only [Bool.not_eq_true', Bool.not_eq_false, Bool.and_eq_true, decide_eq_true_eq]
    omega
  refine insert_at e h0 (by omega) hz' hf fun h' n' hs ho' => ?_
  have el : ((its.extract 0 i.toNat).push z ++ its.extract i.toNat).toList = its.toList.take i.toNat ++ z :: its.toList.drop i.toNat := by
    simp [Array.toList_append, Array.toList_push, Array.toList_extract, List.extract_eq_take_drop]
    exact List.take_of_length_le (by simp)
  obtain ⟨N', S'⟩ := N.list (ws := vs.take i.toNat ++ v :: vs.drop i.toNat) (tk := s.toks) ho hs ho' (fun k' => by
    rw [el]; exact ((r.mono k').take _).append ⟨_, _, rfl, r3.mono k', (r.mono k').drop _⟩)
  exact p .none _ _ _ h rfl N' S'
theorem TN.get_dicti {a ep : Nat} {kvs : List (Int × V)} {k : Int} {v : V} {Q : V → Own → Prop} (ho : own a = some (.dicti ep kvs)) (h : Q ((kget kvs k).getD v) own) : TN prog w B (fun xs => PySem.call (.builtin "dict.get") xs) [.obj a, .int k, v] own Q := by
  intro C s N xs r Q' E p
  obtain ⟨x, y, z, rfl, r1, r2, r3⟩ := r.three
  simp only [VR] at r1 r2; subst r1
  obtain ⟨t, rfl⟩ := r2
  obtain ⟨xs, hd, r⟩ := (N.st.obj _ _ ho).1
  refine call_meetsIn PySem.F.slot_dict_get hd.dictOf.typeIs PySem.F.entry_dict_get (PySem.F.args_dict_get_3 _ _ _) (meets_dict_get_default (intKind prog w) a int_key (N.hi_ne ho) z) ⟨_, hd.dictOf.mapOf, ?_⟩
  refine p _ _ _ _ h ?_ (N.tok _).1 (N.tok _).2
  have := r.at id_inj k
  revert this
  cases kget kvs k with
  | none => intro e; rw [show valueAt xs k = none from e]; exact r3
  | some v => rintro ⟨x, e, rx⟩; rw [show valueAt xs k = some x from e]; exact rx
theorem TN.get_dicts {a : Nat} {kvs : List (List Nat × V)} {k : List Nat} {Q : V → Own → Prop} (ho : own a = some (.dicts kvs)) (h : Q ((kget kvs k).getD .none) own) : TN prog w B (fun xs => PySem.call (.builtin "dict.get") xs) [.obj a, .str k] own Q := by
  intro C s N xs r Q' E p
  obtain ⟨x, y, rfl, r1, r2⟩ := r.two
  simp only [VR] at r1 r2; subst r1
  obtain ⟨t, rfl⟩ := r2
  obtain ⟨xs, hd, r⟩ := (N.st.obj _ _ ho).1
  refine call_meetsIn PySem.F.slot_dict_get hd.typeIs PySem.F.entry_dict_get (PySem.F.args_dict_get_2 _ _) (meets_dict_get (PySem.strKind prog w) a str_key (N.hi_ne ho)) ⟨_, hd.mapOf, ?_⟩
  refine p _ _ _ _ h ?_ (N.tok _).1 (N.tok _).2
  have := r.at S_inj k
  revert this
  cases kget kvs k with
  | none => intro e; rw [show valueAt xs (S k) = none from e]; rfl
  | some v => rintro ⟨x, e, rx⟩; rw [show valueAt xs (S k) = some x from e]; exact rx
theorem ints_key {h : Heap} : ∀ {ks : List Int} {xs : List Value}, VRs h (ks.map V.int) xs → PySem.ItemsAre (intKind prog w) ks xs
  | [], _, r => by simp only [List.map_nil, VRs] at r; subst r; exact .nil
  | k :: ks, _, r => by
    simp only [List.map_cons, VRs] at r
    obtain ⟨x, t, rfl, h1, h2⟩ := r
    simp only [VR] at h1
    obtain ⟨u, rfl⟩ := h1
    exact .cons int_key (ints_key h2)
theorem tup_key {h : Heap} {ks : List Int} {a : Addr} (r : VR h (.tup (ks.map V.int)) (.ref a)) : (tupleKind (intKind prog w)).is h ks a := by
  simp only [VR] at r
  obtain ⟨b, its, e, g, r⟩ := r
  cases e
  exact ⟨_, _, _, g, rfl, rfl, ints_key r⟩
theorem DictT.dictOfH {h : Heap} {a ep : Nat} {xs : List (List Int × Addr × Value)} (x : DictT prog w h a ep xs) : h.DictOfH (tupleKind (intKind prog w)) a xs := by
  obtain ⟨o, es, e1, e2, e3, e4, e5, e6⟩ := x
  exact ⟨o, es, ep, e1, e2, e3, e4, fun y hy => tup_key (e5 y hy), e6⟩
theorem KVt.at {h : Heap} : ∀ {kvs : List (List Int × V)} {es : List (List Int × Addr × Value)}, KVt h kvs es → ∀ k, match kget kvs k with
    | some v => ∃ a x, atKey es k = some (a, x) ∧ VR h v x
    | none => atKey es k = none
  | [], _, e, k => by simp only [KVt] at e; subst e; simp [kget, atKey]
  | (k', v) :: kvs, _, e, k => by
    simp only [KVt] at e
    obtain ⟨a, x, t, rfl, h1, h2⟩ := e
    unfold kget
    rw [List.lookup_cons]
    by_cases q : k = k'
    · subst q; simp only [beq_self_eq_true]; exact ⟨a, x, by simp [atKey], h1⟩
    · have : (k == k') = false := by simpa using q
      rw [this]
      have e2 : atKey ((k', a, x) :: t) k = atKey t k := by simp [atKey, List.find?_cons, Ne.symm q]
      rw [e2]
      exact KVt.at h2 k
theorem NowC.room (N : NowC prog w B C own s) : (tupleKind (intKind prog w)).room C.A.in1 := by
  have := N.bud.units
  exact tupleKind_room_in1 (by omega)
theorem TN.get_dictt {a ep : Nat} {kvs : List (List Int × V)} {ks : List Int} {v : V} {Q : V → Own → Prop} (ho : own a = some (.dictt ep kvs)) (h : Q ((kget kvs ks).getD v) own) : TN prog w B (fun xs => PySem.call (.builtin "dict.get") xs) [.obj a, .tup (ks.map V.int), v] own Q := by
  intro C s N xs r Q' E p
  obtain ⟨x, y, z, rfl, r1, r2, r3⟩ := r.three
  simp only [VR] at r1; subst r1
  obtain ⟨b, its, rfl, _⟩ := r2.tupIs
  obtain ⟨xs, hd, r⟩ := (N.st.obj _ _ ho).1
  refine call_meetsIn PySem.F.slot_dict_get hd.dictOfH.typeIs PySem.F.entry_dict_get (PySem.F.args_dict_get_3 _ _ _) (meetsH_dict_get_default (tupleKind (intKind prog w)) a b (N.hi_ne ho) z) ⟨NowC.room N, ks, xs, tup_key r2, hd.dictOfH, ?_⟩
  refine p _ _ _ _ h ?_ (N.tok _).1 (N.tok _).2
  have := r.at ks
  revert this
  cases kget kvs ks with
  | none => intro e; rw [show atKey xs ks = none from e]; exact r3
  | some v => rintro ⟨_, x, e, rx⟩; rw [show atKey xs ks = some (_, x) from e]; exact rx
theorem T2.in_dictt {o ep : Nat} {kvs : List (List Int × V)} {ks : List Int} {Q : V → Own → Prop} (ho : own o = some (.dictt ep kvs)) (h : Q (.bool (kget kvs ks).isSome) own) : T2 prog w B (compareOp .In) (.tup (ks.map V.int)) (.obj o) own Q := by
  rintro C s N x _ r1 rfl Q' E p
  obtain ⟨b, its, rfl, _⟩ := r1.tupIs
  obtain ⟨xs, hd, r⟩ := (N.st.obj o _ ho).1
  refine wpAny_in_heap (NowC.room N) (tup_key r1) (N.hi_ne ho) hd.dictOfH (p (.bool _) _ _ _ h ?_ (N.tok _).1 (N.tok _).2)
  have := r.at ks
  revert this
  cases kget kvs ks with
  | none => intro e; rw [show atKey xs ks = none from e]; rfl
  | some v => rintro ⟨_, x, e, _⟩; rw [show atKey xs ks = some (_, x) from e]; rfl
theorem T2.addl {a b : Nat} {vs ws : List V} {Q : V → Own → Prop} (ho : own a = some (.list vs)) (hb : own b = some (.list ws)) (hz : vs.length + ws.length ≤ sizeLine) (h : ∀ c, own c = none → Q (.obj c) (own.put c (.list (vs ++ ws)))) : T2 prog w B (binaryOp .Add) (.obj a) (.obj b) own Q := by
  rintro C s N _ _ rfl rfl Q' E p
  obtain ⟨its, n, e, r⟩ := (N.st.obj _ _ ho).1
  obtain ⟨its2, n2, e2, r2⟩ := (N.st.obj _ _ hb).1
  have hsz : its.size + its2.size ≤ sizeLine := by rw [VRs.size r, VRs.size r2]; exact hz
  refine PySem.P.add_list e e2 ?_ hsz
  have x := Ext.push s.heap { cls := .type "list", data := .seq (its ++ its2) }
  obtain ⟨N2, S2⟩ := N.gain (tk := s.toks) (o := .list (vs ++ ws)) x (top _) ⟨_, _, Heap.get?_push_size _ rfl, by rw [Array.toList_append]; exact (r.mono x.tups).append (r2.mono x.tups)⟩
  exact p _ _ _ _ (h _ (N.fresh (top _))) rfl N2 S2
theorem bname {x : Str} {np : Pos} {v : Value} {Q' : Value → Shared → Prop} {E : Value → Shared → Prop} (N : Now prog w B d Γ A env FA l own s) (hx : x ∈ Γ.glb) (hd : (x == ("__debug__" : Str)) = false) (e : nsIn B.K mainGlobals x = some Option.none) (hv : bootBuiltins x = some v) (hn : x ≠ "__name__") (h : Q' v s) :
    wpAny (model prog w) A (eval (.Name x np) env) Q' E s := by
  refine Name_function_global N.cx.kind (N.cx.glb x hx) (loadGlobal_builtin (mg := B.mg) (mb := B.mb) ?_ (mg_none_of N.ok.K N.ok.T.g e) ?_ ((N.ok.T.builtins x hn).trans hv) h) hd
  · rw [N.cx.glob]; exact N.ok.T.g.keeps N.st.keep
  · rw [N.cx.blt]; exact N.ok.T.b.keeps N.st.keep
theorem TE.bcall {x : Str} {np pos : Pos} {id : String} {e0 : Expr} {es : List Expr} {Q : V → Own → Prop} (hx : x ∈ Γ.glb) (hd : (x == ("__debug__" : Str)) = false) (e : nsIn B.K mainGlobals x = some Option.none) (hv : bootBuiltins x = some (.builtin id)) (hn : x ≠ "__name__") (hs : noStar (e0 :: es) = true)
    (h : TA prog w B d Γ (e0 :: es) l own (fun vs own₁ => TN prog w B (fun xs => PySem.call (.builtin id) xs) vs own₁ Q)) : TE prog w B d Γ (.Call (.Name x np) (e0 :: es) [] pos) l own Q := by
  intro A env FA s N Q' E p
  obtain ⟨h1, h2⟩ := noStar_cons hs
  refine wpAny_Call_NameR (bname N hx hd e hv hn (PyProof.Rows.callWith_builtin1 (h pos A env FA s N _ E fun vs xs o1 s1 q1 r1 N1 S1 => ?_) (starEach_cons h1) (noStar_any h2)))
  exact q1 _ s1 N1 xs r1 Q' E (p.step S1)
theorem TE.tcall {x : Str} {np pos : Pos} {T : String} {e0 : Expr} {es : List Expr} {Q : V → Own → Prop} (hx : x ∈ Γ.glb) (hd : (x == ("__debug__" : Str)) = false) (e : nsIn B.K mainGlobals x = some Option.none) (hv : bootBuiltins x = some (.type T)) (hn : x ≠ "__name__") (hs : noStar (e0 :: es) = true)
    (h : TA prog w B d Γ (e0 :: es) l own (fun vs own₁ => TN prog w B (fun xs => PySem.call (.type T) xs) vs own₁ Q)) : TE prog w B d Γ (.Call (.Name x np) (e0 :: es) [] pos) l own Q := by
  intro A env FA s N Q' E p
  obtain ⟨h1, h2⟩ := noStar_cons hs
  refine wpAny_Call_NameR (bname N hx hd e hv hn (PyProof.Rows.callWith_type1 (h pos A env FA s N _ E fun vs xs o1 s1 q1 r1 N1 S1 => ?_) (starEach_cons h1) (noStar_any h2)))
  exact q1 _ s1 N1 xs r1 Q' E (p.step S1)
theorem TN.len_list {a : Nat} {vs : List V} {Q : V → Own → Prop} (ho : own a = some (.list vs)) (hz : vs.length ≤ sizeLine) (h : Q (.int vs.length) own) : TN prog w B (fun xs => PySem.call (.builtin "len") xs) [.obj a] own Q := by
  intro C s N xs r Q' E p
  obtain ⟨x, rfl, r1⟩ := r.one
  simp only [VR] at r1; subst r1
  obtain ⟨its, n, e, il, r⟩ := (N.st.obj _ _ ho).1.isList
  have hsz := VRs.size r
  have : sizeLine = 2 ^ 24 := rfl
  refine Calls.call_len_list il (by rw [hsz]; omega) (p (.int vs.length) _ _ _ h (by rw [hsz]; exact ⟨_, rfl⟩) (N.tok _).1 (N.tok _).2)
theorem TN.len_tup {vs : List V} {Q : V → Own → Prop} (hz : vs.length ≤ sizeLine) (h : Q (.int vs.length) own) : TN prog w B (fun xs => PySem.call (.builtin "len") xs) [.tup vs] own Q := by
  intro C s N xs r Q' E p
  obtain ⟨x, rfl, r1⟩ := r.one
  obtain ⟨b, its, rfl, it, r, e⟩ := r1.tupIs
  have hsz := VRs.size r
  have : sizeLine = 2 ^ 24 := rfl
  exact PyProof.Rows.len_tuple it (by rw [hsz]; omega) (p (.int vs.length) _ _ _ h (by rw [hsz]; exact ⟨_, rfl⟩) (N.tok _).1 (N.tok _).2)
theorem list_of (N : NowC prog w B C own s) {b : Nat} {o : Obj} {T : String} {its : Array Value} {n : Nat} {vs : List V} {Q : V → Own → Prop} {Q' : Value → Shared → Prop} {E : Value → Shared → Prop} (hT : T = "list" ∨ T = "tuple") (ho : s.heap.get? b = some o) (hc : o.cls = .type T) (hd : o.data = .seq its n)
    (r : VRs s.heap vs its.toList) (hz : vs.length ≤ sizeLine) (h : ∀ c, own c = none → Q (.obj c) (own.put c (.list vs))) (p : Post prog w B C own s Q Q') : wpAny (model prog w) C.A (PySem.call (.type "list") [.ref b]) Q' E s := by
  refine call_list_seq b hT ho hc hd (fun h' c' k e => ?_) (by rw [VRs.size r]; exact hz)
  have x : Ext s.heap h' := ⟨k⟩
  obtain ⟨N2, S2⟩ := N.gain (tk := s.toks) (o := .list vs) x (top _) ⟨_, _, e, r.mono x.tups⟩
  exact p _ _ _ _ (h _ (N.fresh (top _))) rfl N2 S2
theorem TN.list_list {a : Nat} {vs : List V} {Q : V → Own → Prop} (ho : own a = some (.list vs)) (hz : vs.length ≤ sizeLine) (h : ∀ c, own c = none → Q (.obj c) (own.put c (.list vs))) : TN prog w B (fun xs => PySem.call (.type "list") xs) [.obj a] own Q := by
  intro C s N xs r Q' E p
  obtain ⟨x, rfl, r1⟩ := r.one
  simp only [VR] at r1; subst r1
  obtain ⟨its, n, e, r⟩ := (N.st.obj _ _ ho).1
  exact list_of N (.inl rfl) e rfl rfl r hz h p
theorem TN.list_tup {vs : List V} {Q : V → Own → Prop} (hz : vs.length ≤ sizeLine) (h : ∀ c, own c = none → Q (.obj c) (own.put c (.list vs))) : TN prog w B (fun xs => PySem.call (.type "list") xs) [.tup vs] own Q := by
  intro C s N xs r Q' E p
  obtain ⟨x, rfl, r1⟩ := r.one
  obtain ⟨b, its, rfl, it, r, e⟩ := r1.tupIs
  exact list_of N (.inr rfl) e rfl rfl r hz h p
end
end Lw.Internal
namespace Lw.Internal
section
variable {prog : Program} {w : World} {B : Base} {d : Nat} {Γ : Fn} {A : Around} {env : Env} {FA : List Nat} {l l' : List (Option V)} {own own' own'' : Own} {s s' s'' : Shared} {C : Ct}
noncomputable def TSI (prog : Program) (w : World) (B : Base) (o i v : V) (own : Own) (Q : Own → Prop) : Prop :=
  ∀ C s, NowC prog w B C own s → ∀ x y z, VR s.heap o x → VR s.heap i y → VR s.heap v z → DoesU prog w B (setItem x y z) C own s Q
theorem TX.setsub {o i e : Expr} {pos' pos : Pos} {Q : Fl → List (Option V) → Own → Prop} (hs : ∀ env : Env, swapsWith e (some (.Subscript o i pos')) pos.line env = pure false)
    (h : TE prog w B d Γ e l own (fun v own₁ => TE prog w B d Γ o l own₁ (fun ov own₂ => TE prog w B d Γ i l own₂ (fun iv own₃ => TSI prog w B ov iv v own₃ (fun own₄ => Q .next l own₄))))) :
    TX prog w B d Γ (.Assign [.Subscript o i pos'] e pos) l own Q := by
  intro A env FA s N Q' E p
  refine wpAny_Assign_Subscript (h A env FA s N _ E fun v x o1 s1 q1 r1 N1 S1 => q1 A env FA s1 N1 _ E fun v2 x2 o2 s2 q2 r2 N2 S2 => q2 A env FA s2 N2 _ E fun v3 x3 o3 s3 q3 r3 N3 S3 => ?_) (hs env)
  have t2 := N1.tups S2
  have t3 := N2.tups S3
  exact q3 _ s3 N3 x2 x3 x (r2.mono t3) r3 ((r1.mono t2).mono t3) _ E fun o4 s4 q4 N4 S4 => p .next .next _ _ _ q4 rfl N4 (((S1.trans S2).trans S3).trans S4)
theorem setItem_at {a : Nat} {its : Array Value} {n : Nat} {k : Int} {t : Tok} {v : Value} {Q : Unit → Shared → Prop} {E : Value → Shared → Prop} (e : s.heap.get? a = some { cls := .type "list", data := .seq its n })
    (h0 : 0 ≤ k) (hfit : k < 2 ^ 63) (hn : k < its.size)
    (hQ : ∀ h' n', h'.get? a = some { cls := .type "list", data := .seq (its.setIfInBounds k.toNat v) n' } → Heap.SameBut a s.heap h' → Q () { s with heap := h' }) :
    wpAny (model prog w) A (setItem (.ref a) (.int k t) v) Q E s := by
  have hl : s.heap.IsList a its := ⟨_, e, rfl, _, rfl⟩
  unfold setItem
  try with_reducible refine wpAny_holding ?_
  first | refine wpAny_bind (wpAny_pure ?_) | skip
  refine wpAny_bind (wpAny_sequenceKey hl.typeIs (by decide) ?_)
  refine wpAny_bind (wpAny_callSpecial?_slot (name := Str.ofString "__setitem__") hl.typeIs slot_list_setitem
    (wpAny_call_entry slot_list_setitem hl.typeIs entry_list_setitem ?_ (args_list_setitem _ _ _)))
  show wpAny _ _ (Builtin.List.listSubscript? (.int k t) >>= _) _ _ s
  refine wpAny_bind (wpAny_listSubscript_int (fitsIndex_of h0 hfit) ?_)
  obtain ⟨j, rfl⟩ := Int.eq_ofNat_of_zero_le h0
  have hj : j < its.size := by omega
  have hx' : its[j]? = some its[j] := Array.getElem?_eq_getElem hj
  show wpAny _ _ ((seqItemAt a j >>= fun r => pure (r.map (j, ·))) >>= _) _ _ s
  refine wpAny_bind (wpAny_bind (wpAny_seqItemAt e rfl (wpAny_pure ?_)))
  rw [hx']
  show wpAny _ _ (setSeqItemAt a j v >>= _) _ _ s
  have hfin : (s.heap.update a (Obj.mapSeq (·.setIfInBounds j v))).get? a = some { cls := .type "list", data := .seq (its.setIfInBounds j v) (if (its.setIfInBounds j v).size == its.size then n else n + 1) } := by
    rw [Heap.get?_update_self _ e (by rfl)]; rfl
  refine wpAny_bind (wpAny_setSeqItemAt e rfl ?_)
  first
    | exact wpAny_bind (wpAny_pure (wpAny_pure ⟨.none, rfl, wpAny_pure (hQ _ _ hfin (Heap.SameBut.update ..))⟩))
    | exact wpAny_pure ⟨.none, rfl, wpAny_pure (hQ _ _ hfin (Heap.SameBut.update ..))⟩
theorem TSI.list {a : Nat} {vs : List V} {k : Int} {v : V} {Q : Own → Prop} (ho : own a = some (.list vs)) (h0 : 0 ≤ k) (hk : k < vs.length) (hz : vs.length ≤ sizeLine) (h : Q (own.put a (.list (vs.set k.toNat v)))) : TSI prog w B (.obj a) (.int k) v own Q := by
  rintro C s N x y z r1 ⟨t, rfl⟩ r3 Q' E p
  simp only [VR] at r1; subst r1
  obtain ⟨its, n, e, r⟩ := (N.st.obj _ _ ho).1
  have hsz := VRs.size r
  have hzz : sizeLine = 16777216 := rfl
  refine setItem_at e h0 (by omega) (by omega) fun h' n' e' hs => ?_
  obtain ⟨N', S'⟩ := N.list (ws := vs.set k.toNat v) (tk := s.toks) ho hs e' (fun k' => by
    rw [Array.toList_setIfInBounds]; exact (r.mono k').set _ (r3.mono k'))
  exact p _ _ h N' S'
noncomputable def kput {K : Type} [DecidableEq K] (kvs : List (K × V)) (k : K) (v : V) : List (K × V) := if kvs.any (fun kv => kv.1 = k) then kvs.map (fun kv => if kv.1 = k then (kv.1, v) else kv) else kvs ++ [(k, v)]
theorem KVs.append {K K' : Type} {f : K → K'} {h : Heap} : ∀ {kvs ls : List (K × V)} {es ms : List (K' × Value)}, KVs f h kvs es → KVs f h ls ms → KVs f h (kvs ++ ls) (es ++ ms)
  | [], _, _, _, e, k => by simp only [KVs] at e; subst e; simpa using k
  | (_, _) :: _, _, _, _, e, k => by
    simp only [KVs] at e
    obtain ⟨x, t, rfl, h1, h2⟩ := e
    exact ⟨x, t ++ _, rfl, h1, KVs.append h2 k⟩
theorem KVs.any {K K' : Type} [DecidableEq K] [DecidableEq K'] {f : K → K'} (hf : ∀ a b, f a = f b → a = b) {h : Heap} : ∀ {kvs : List (K × V)} {es : List (K' × Value)}, KVs f h kvs es → ∀ k, (es.any fun kv => kv.1 = f k) = kvs.any fun kv => kv.1 = k
  | [], _, e, k => by simp only [KVs] at e; subst e; rfl
  | (k', v) :: _, _, e, k => by
    simp only [KVs] at e
    obtain ⟨x, t, rfl, h1, h2⟩ := e
    rw [List.any_cons, List.any_cons, KVs.any hf h2]
    congr 1
    by_cases q : k' = k
    · subst q; simp
    · have : ¬ f k' = f k := fun z => q (hf _ _ z)
      simp [q, this]
theorem KVs.put1 {K K' : Type} [DecidableEq K] [DecidableEq K'] {f : K → K'} (hf : ∀ a b, f a = f b → a = b) {h : Heap} {k : K} {v : V} {y : Value} (ry : VR h v y) : ∀ {kvs : List (K × V)} {es : List (K' × Value)}, KVs f h kvs es → KVs f h (kvs.map (fun kv => if kv.1 = k then (kv.1, v) else kv)) (es.map (fun kv => if kv.1 = f k then (kv.1, y) else kv))
  | [], _, e => by simp only [KVs] at e; subst e; simp [KVs]
  | (k', u) :: _, _, e => by
    simp only [KVs] at e
    obtain ⟨x, t, rfl, h1, h2⟩ := e
    rw [List.map_cons, List.map_cons]
    by_cases q : k' = k
    · subst q
      simp only [if_true]
      exact ⟨_, _, rfl, ry, KVs.put1 hf ry h2⟩
    · have : ¬ f k' = f k := fun z => q (hf _ _ z)
      simp only [if_neg q, if_neg this]
      exact ⟨_, _, rfl, h1, KVs.put1 hf ry h2⟩
theorem KVs.put {K K' : Type} [DecidableEq K] [DecidableEq K'] {f : K → K'} (hf : ∀ a b, f a = f b → a = b) {h : Heap} {k : K} {v : V} {y : Value} (ry : VR h v y) {kvs : List (K × V)} {es : List (K' × Value)} (r : KVs f h kvs es) : KVs f h (kput kvs k v) (PySem.stored es (f k) y) := by
  unfold kput PySem.stored
  rw [r.any hf]
  split
  · exact r.put1 hf ry
  · exact r.append ⟨_, _, rfl, ry, rfl⟩
theorem KVs.length {K K' : Type} {f : K → K'} {h : Heap} : ∀ {kvs : List (K × V)} {es : List (K' × Value)}, KVs f h kvs es → es.length = kvs.length
  | [], _, e => by simp only [KVs] at e; subst e; rfl
  | (_, _) :: _, _, e => by
    simp only [KVs] at e
    obtain ⟨x, t, rfl, h1, h2⟩ := e
    rw [List.length_cons, List.length_cons, KVs.length h2]
theorem TSI.dicti {a ep : Nat} {kvs : List (Int × V)} {k : Int} {v : V} {Q : Own → Prop} (ho : own a = some (.dicti ep kvs)) (hz : kvs.length ≤ 1000) (h : ∀ ep', Q (own.put a (.dicti ep' (kput kvs k v)))) : TSI prog w B (.obj a) (.int k) v own Q := by
  rintro C s N x y z r1 ⟨t, rfl⟩ r3 Q' E p
  simp only [VR] at r1; subst r1
  obtain ⟨x1, x2, x3⟩ := N.st.obj a _ ho
  obtain ⟨ob, e1, n1, _⟩ := x1.get
  obtain ⟨xs, hd, r⟩ := x1
  refine wpAny_setItem_pairs int_key hd.dictOf (fun h' hm hs => ?_) (Nat.le_trans (by rw [r.length]; exact hz) size_1000)
  have k' : Tups s.heap h' := fun b o2 e hc => (hs.2 b (fun q => by subst q; rw [e1] at e; cases e; exact n1 hc)).trans e
  obtain ⟨ep', hm'⟩ := hm.dictAt
  obtain ⟨N', S'⟩ := N.upd (o' := .dicti ep' (kput kvs k v)) (tk := s.toks + 1) ho hs ⟨_, hm', (r.mono k').put id_inj (r3.mono k')⟩
  exact p _ _ (h ep') N' S'
theorem TSI.dicts {a : Nat} {kvs : List (List Nat × V)} {k : List Nat} {v : V} {Q : Own → Prop} (ho : own a = some (.dicts kvs)) (hz : kvs.length ≤ 1000) (h : Q (own.put a (.dicts (kput kvs k v)))) : TSI prog w B (.obj a) (.str k) v own Q := by
  rintro C s N x y z r1 ⟨t, rfl⟩ r3 Q' E p
  simp only [VR] at r1; subst r1
  obtain ⟨x1, x2, x3⟩ := N.st.obj a _ ho
  obtain ⟨ob, e1, n1, _⟩ := x1.get
  obtain ⟨xs, hd, r⟩ := x1
  refine wpAny_setItem_pairs str_key hd (fun h' hm hs => ?_) (Nat.le_trans (by rw [r.length]; exact hz) size_1000)
  have k' : Tups s.heap h' := fun b o2 e hc => (hs.2 b (fun q => by subst q; rw [e1] at e; cases e; exact n1 hc)).trans e
  obtain ⟨N', S'⟩ := N.upd (o' := .dicts (kput kvs k v)) (tk := s.toks + 1) ho hs ⟨_, hm, (r.mono k').put S_inj (r3.mono k')⟩
  exact p _ _ h N' S'
theorem TSI.dictt {a ep : Nat} {kvs : List (List Int × V)} {ks : List Int} {v : V} {Q : Own → Prop} (ho : own a = some (.dictt ep kvs)) (hz : kvs.length ≤ 1000) (hk : kget kvs ks = none) (h : ∀ ep', Q (own.put a (.dictt ep' (kvs ++ [(ks, v)])))) : TSI prog w B (.obj a) (.tup (ks.map V.int)) v own Q := by
  rintro C s N x y z r1 r2 r3 Q' E p
  simp only [VR] at r1; subst r1
  obtain ⟨x1, x2, x3⟩ := N.st.obj a _ ho
  obtain ⟨ob, e1, n1, _⟩ := x1.get
  obtain ⟨xs, hd, r⟩ := x1
  obtain ⟨b, its, rfl, _⟩ := r2.tupIs
  have hn : atKey xs ks = none := by have := r.at ks; rw [hk] at this; exact this
  have hl : ∀ {kvs : List (List Int × V)} {es : List (List Int × Addr × Value)}, KVt s.heap kvs es → es.length = kvs.length := by
    intro kvs
    induction kvs with
    | nil => intro es e; simp only [KVt] at e; subst e; rfl
    | cons q kvs ih =>
      intro es e
      obtain ⟨k', u⟩ := q
      simp only [KVt] at e
      obtain ⟨a', x', t', rfl, _, h2⟩ := e
      rw [List.length_cons, List.length_cons, ih h2]
  have hap : ∀ {h : Heap} {kvs ls : List (List Int × V)} {es ms : List (List Int × Addr × Value)}, KVt h kvs es → KVt h ls ms → KVt h (kvs ++ ls) (es ++ ms) := by
    intro h kvs
    induction kvs with
    | nil => intro ls es ms e k; simp only [KVt] at e; subst e; simpa using k
    | cons q kvs ih =>
      intro ls es ms e k
      obtain ⟨k', u⟩ := q
      simp only [KVt] at e
      obtain ⟨a', x', t', rfl, h1, h2⟩ := e
      exact ⟨a', x', t' ++ ms, rfl, h1, ih h2 k⟩
  refine wpAny_setItem_heap (NowC.room N) (tup_key r2) hd.dictOfH (fun h' hm hs => ?_) (Nat.le_trans (by rw [hl r]; exact hz) size_1000)
  have k' : Tups s.heap h' := fun b o2 e hc => (hs.2 b (fun q => by subst q; rw [e1] at e; cases e; exact n1 hc)).trans e
  rw [storedH_new hn] at hm
  obtain ⟨o', es', ep', g1, g2, g3, g4, _, g6⟩ := hm
  obtain ⟨o, es, f1, f2, f3, f4, f5, f6⟩ := hd
  obtain ⟨N', S'⟩ := N.upd (o' := .dictt ep' (kvs ++ [(ks, v)])) (tk := s.toks + (tupleKind (intKind prog w)).draws ks) ho hs ⟨xs ++ [(ks, b, z)], ⟨o', es', g1, g2, g3, g4, fun y hy => by
    rcases List.mem_append.mp hy with q | q
    · exact (f5 y q).mono k'
    · rw [List.mem_singleton] at q; subst q; exact r2.mono k', g6⟩, hap (r.mono k') ⟨_, _, _, rfl, r3.mono k', rfl⟩⟩
  exact p _ _ (h ep') N' S'
theorem TE.dict0i {pos : Pos} {Q : V → Own → Prop} (h : ∀ a ep, own a = Option.none → Q (.obj a) (own.put a (.dicti ep []))) : TE prog w B d Γ (.Dict [] [] pos) l own Q := by
  intro A env FA s N Q' E p
  refine wpAny_Dict_empty ?_
  have x := Ext.push s.heap { cls := .type "dict", data := .dict #[] }
  obtain ⟨ep, hd⟩ := (Heap.DictOf.new (knd := intKind prog w) s.heap).dictAt
  obtain ⟨N2, S2⟩ := N.gain (tk := s.toks) (o := .dicti ep []) x (top _) ⟨_, hd, rfl⟩
  exact p _ _ _ _ (h _ ep (N.fresh (top _))) rfl N2 S2
theorem TE.dict0s {pos : Pos} {Q : V → Own → Prop} (h : ∀ a, own a = Option.none → Q (.obj a) (own.put a (.dicts []))) : TE prog w B d Γ (.Dict [] [] pos) l own Q := by
  intro A env FA s N Q' E p
  refine wpAny_Dict_empty ?_
  have x := Ext.push s.heap { cls := .type "dict", data := .dict #[] }
  obtain ⟨N2, S2⟩ := N.gain (tk := s.toks) (o := .dicts []) x (top _) ⟨_, Heap.DictOf.new (knd := PySem.strKind prog w) s.heap, rfl⟩
  exact p _ _ _ _ (h _ (N.fresh (top _))) rfl N2 S2
theorem TE.dict0t {pos : Pos} {Q : V → Own → Prop} (h : ∀ a ep, own a = Option.none → Q (.obj a) (own.put a (.dictt ep []))) : TE prog w B d Γ (.Dict [] [] pos) l own Q := by
  intro A env FA s N Q' E p
  refine wpAny_Dict_empty ?_
  have x := Ext.push s.heap { cls := .type "dict", data := .dict #[] }
  obtain ⟨N2, S2⟩ := N.gain (tk := s.toks) (o := .dictt 0 []) x (top _) ⟨[], ⟨_, _, Heap.get?_push_size _ rfl, ⟨rfl, rfl, rfl⟩, rfl, rfl, (fun _ h => by simp at h), List.nodup_nil⟩, rfl⟩
  exact p _ _ _ _ (h _ 0 (N.fresh (top _))) rfl N2 S2
end
end Lw.Internal
namespace Lw.Internal
section
variable {prog : Program} {w : World} {B : Base} {d : Nat} {Γ : Fn} {A : Around} {env : Env} {FA : List Nat} {l l' : List (Option V)} {own own' own'' : Own} {s s' s'' : Shared} {C : Ct}
theorem Ext.of_but {h h' : Heap} {a : Nat} (ha : h.get? a = none) (x : Heap.ExtBut a h h') : Ext h h' :=
  ⟨fun b o e => x b o (fun q => by subst q; rw [ha] at e; cases e) e⟩
noncomputable def TGo (prog : Program) (w : World) (B : Base) (d : Nat) (Γ : Fn) (es : List Expr) (vs : List V) (l : List (Option V)) (own : Own) (Q : List (Option V) → Own → Prop) : Prop :=
  ∀ A env FA s, NowC prog w B ⟨d, Γ, A, env, FA, l⟩ own s → ∀ xs, VRs s.heap vs xs → DoesS prog w B (assignInOrder ((assignEach es env).map (·.2)) xs) ⟨d, Γ, A, env, FA, l⟩ own s Q
theorem TGo.nil {Q : List (Option V) → Own → Prop} (h : Q l own) : TGo prog w B d Γ [] [] l own Q := by
  intro A env FA s N xs r Q' E p
  simp only [VRs] at r; subst r
  exact wpAny_pure (p l own s h N .refl)
theorem assignEach_cons {e : Expr} {es : List Expr} (h : ∀ x p, e ≠ .Starred x p) : assignEach (e :: es) env = (false, assign e env) :: assignEach es env := by
  cases e <;> first | rfl | exact absurd rfl (h _ _)
theorem TGo.cons {e : Expr} {es : List Expr} {v : V} {vs : List V} {Q : List (Option V) → Own → Prop} (hs : ∀ x p, e ≠ .Starred x p) (h : TG prog w B d Γ e v l own (fun l₁ own₁ => TGo prog w B d Γ es vs l₁ own₁ Q)) : TGo prog w B d Γ (e :: es) (v :: vs) l own Q := by
  intro A env FA s N xs r Q' E p
  simp only [VRs] at r
  obtain ⟨x, t, rfl, r1, r2⟩ := r
  rw [assignEach_cons hs]
  show wpAny _ _ (holding t (assign e env x) >>= fun _ => assignInOrder ((assignEach es env).map (·.2)) t) Q' E s
  refine wpAny_bind (wpAny_holding (h A env FA s N x r1 _ E fun l1 o1 s1 q1 N1 S1 => ?_))
  exact q1 A env FA s1 N1 t (r2.mono (N.tups S1)) Q' E fun l2 o2 s2 q2 N2 S2 => p _ _ _ q2 N2 (S1.trans S2)
theorem assignEach_length : ∀ es : List Expr, (assignEach es env).length = es.length
  | [] => rfl
  | e :: es => by cases e <;> exact congrArg Nat.succ (assignEach_length es)
theorem assignEach_star : ∀ es : List Expr, noStar es = true → (assignEach es env).findIdx? (·.1) = none
  | [], _ => rfl
  | e :: es, h => by
    obtain ⟨h1, h2⟩ := noStar_cons h
    rw [assignEach_cons h1, List.findIdx?_cons]
    simp [assignEach_star es h2]
theorem TG.tup {es : List Expr} {k : Nat} {pos : Pos} {vs : List V} {Q : List (Option V) → Own → Prop} (hs : noStar es = true) (hn : es.length = vs.length) (h : TGo prog w B d Γ es vs l own Q) : TG prog w B d Γ (.Tuple es k pos) (.tup vs) l own Q := by
  intro A env FA s N x r Q' E p
  obtain ⟨a, its, rfl, it, r, e⟩ := r.tupIs
  refine wpAny_assign_Tuple N.bud.hd it ?_ (assignEach_star es hs) fun h' he => ?_
  · rw [assignEach_length, hn, VRs.size r]
  · obtain ⟨N2, S2⟩ := N.ext (tk := s.toks) (Ext.of_but (top _) he)
    exact h A env FA _ N2 _ (r.mono (Ext.of_but (top _) he).tups) Q' E (fun l2 o2 s2 q2 N3 S3 => p _ _ _ q2 N3 (S2.trans S3))
theorem TX.assignt {es : List Expr} {k : Nat} {tp pos : Pos} {e : Expr} {Q : Fl → List (Option V) → Own → Prop} (hs : ∀ env : Env, swapsWithSole [.Tuple es k tp] e pos.line env = pure false)
    (hw : ∀ env FA, Cx Γ env FA → swappedStores [.Tuple es k tp] e env = pure none)
    (h : TE prog w B d Γ e l own (fun v own₁ => TG prog w B d Γ (.Tuple es k tp) v l own₁ (fun l₂ own₂ => Q .next l₂ own₂))) : TX prog w B d Γ (.Assign [.Tuple es k tp] e pos) l own Q := by
  intro A env FA s N Q' E p
  refine Assign_Tuple (h A env FA s N _ E fun v x o1 s1 q1 r1 N1 S1 => ?_) (hs env) (hw env FA N.cx)
  exact q1 A env FA s1 N1 x r1 _ E fun l2 o2 s2 q2 N2 S2 => p .next .next _ _ _ q2 rfl N2 (S1.trans S2)
theorem blockKind_of (c : Cx Γ env FA) : env.blockKind = .function := by
  unfold Env.blockKind; rw [c.kind]; rfl
theorem noStar_sw : ∀ {vs : List Expr}, noStar vs = true → ¬ (vs.any fun | .Starred .. => true | _ => false) = true
  | [], _ => by simp
  | e :: es, h => by
    obtain ⟨h1, h2⟩ := noStar_cons h
    rw [List.any_cons, Bool.or_eq_true]
    rintro (q | q)
    · cases e <;> first | exact h1 _ _ rfl | cases q
    · exact noStar_sw h2 q
theorem swapped2 {x y : Str} {px py tp vp : Pos} {k k' : Nat} {v1 v2 : Expr} (hx : (x, false) ∈ Γ.loc) (hy : (y, false) ∈ Γ.loc) (hxy : (x == y) = false) (hl : (py.line == px.line) = true)
    (h1 : noStar [v1, v2] = true) (hf : ([v1, v2].all (foldedForSure 8)) = false) (hc : ([v1, v2].all (constantsAlone 8)) = false) (c : Cx Γ env FA) :
    swappedStores [.Tuple [.Name x px, .Name y py] k tp] (.Tuple [v1, v2] k' vp) env = pure (some [x, y]) := by
  have kx := c.loc _ _ hx
  have ky := c.loc _ _ hy
  simp only [Bool.false_eq_true, if_false] at kx ky
  have hb := blockKind_of c
  have hne : [x, y].eraseDups.length = 2 := by
    have : (y == x) = false := by rw [Bool.beq_comm]; exact hxy
    simp [List.eraseDups_cons, this]
  have hline : (px.line == px.line) = true := by simp
  have hn : ([Expr.Name x px, Expr.Name y py].filterMap fun
    | .Name id pos => if env.kindOf id == some .local && pos.line == px.line then some id else none
    | _ => none) = [x, y] := by
    simp only [List.filterMap_cons, List.filterMap_nil, kx, ky, hl, hline]; rfl
  show (if (!([Expr.Name x px, Expr.Name y py].length == 2 || [Expr.Name x px, Expr.Name y py].length == 3) || [v1, v2].length != [Expr.Name x px, Expr.Name y py].length || env.blockKind != .function) = true then pure none
    else if ([v1, v2].any fun | .Starred .. => true | _ => false) = true then pure none else
    if (([Expr.Name x px, Expr.Name y py].filterMap fun
      | .Name id pos => if env.kindOf id == some .local && pos.line == px.line then some id else none
      | _ => none).length != [Expr.Name x px, Expr.Name y py].length || ([Expr.Name x px, Expr.Name y py].filterMap fun
      | .Name id pos => if env.kindOf id == some .local && pos.line == px.line then some id else none
      | _ => none).eraseDups.length != ([Expr.Name x px, Expr.Name y py].filterMap fun
      | .Name id pos => if env.kindOf id == some .local && pos.line == px.line then some id else none
      | _ => none).length) = true then pure none else if ([v1, v2].all (foldedForSure 8)) = true then pure none else _) = _
  rw [if_neg (by rw [hb]; exact Bool.false_ne_true), if_neg (noStar_sw h1), hn, if_neg (by rw [hne]; exact Bool.false_ne_true), if_neg (by rw [hf]; exact Bool.false_ne_true)]
  refine (if_neg (by rw [hc]; exact Bool.false_ne_true)).trans ?_
  exact congrArg (fun z => (pure (some z) : Sem (Option (List Str)))) hn
theorem swapped3 {x y z : Str} {px py pz tp vp : Pos} {k k' : Nat} {v1 v2 v3 : Expr} (hx : (x, false) ∈ Γ.loc) (hy : (y, false) ∈ Γ.loc) (hz : (z, false) ∈ Γ.loc) (hxy : (x == y) = false) (hxz : (x == z) = false) (hyz : (y == z) = false) (hl : (py.line == px.line) = true) (hl3 : (pz.line == px.line) = true)
    (h1 : noStar [v1, v2, v3] = true) (hf : ([v1, v2, v3].all (foldedForSure 8)) = false) (hc : ([v1, v2, v3].all (constantsAlone 8)) = false) (c : Cx Γ env FA) :
    swappedStores [.Tuple [.Name x px, .Name y py, .Name z pz] k tp] (.Tuple [v1, v2, v3] k' vp) env = pure (some [x, y, z]) := by
  have kx := c.loc _ _ hx
  have ky := c.loc _ _ hy
  have kz := c.loc _ _ hz
  simp only [Bool.false_eq_true, if_false] at kx ky kz
  have hb := blockKind_of c
  have hne : [x, y, z].eraseDups.length = 3 := by
    have e1 : (y == x) = false := by rw [Bool.beq_comm]; exact hxy
    have e2 : (z == x) = false := by rw [Bool.beq_comm]; exact hxz
    have e3 : (z == y) = false := by rw [Bool.beq_comm]; exact hyz
    simp [List.eraseDups_cons, e1, e2, e3]
  have hline : (px.line == px.line) = true := by simp
  have hn : ([Expr.Name x px, Expr.Name y py, Expr.Name z pz].filterMap fun
    | .Name id pos => if env.kindOf id == some .local && pos.line == px.line then some id else none
    | _ => none) = [x, y, z] := by
    simp only [List.filterMap_cons, List.filterMap_nil, kx, ky, kz, hl, hl3, hline]; rfl
  show (if (!([Expr.Name x px, Expr.Name y py, Expr.Name z pz].length == 2 || [Expr.Name x px, Expr.Name y py, Expr.Name z pz].length == 3) || [v1, v2, v3].length != [Expr.Name x px, Expr.Name y py, Expr.Name z pz].length || env.blockKind != .function) = true then pure none
    else if ([v1, v2, v3].any fun | .Starred .. => true | _ => false) = true then pure none else
    if (([Expr.Name x px, Expr.Name y py, Expr.Name z pz].filterMap fun
      | .Name id pos => if env.kindOf id == some .local && pos.line == px.line then some id else none
      | _ => none).length != [Expr.Name x px, Expr.Name y py, Expr.Name z pz].length || ([Expr.Name x px, Expr.Name y py, Expr.Name z pz].filterMap fun
      | .Name id pos => if env.kindOf id == some .local && pos.line == px.line then some id else none
      | _ => none).eraseDups.length != ([Expr.Name x px, Expr.Name y py, Expr.Name z pz].filterMap fun
      | .Name id pos => if env.kindOf id == some .local && pos.line == px.line then some id else none
      | _ => none).length) = true then pure none else if ([v1, v2, v3].all (foldedForSure 8)) = true then pure none else _) = _
  rw [if_neg (by rw [hb]; exact Bool.false_ne_true), if_neg (noStar_sw h1), hn, if_neg (by rw [hne]; exact Bool.false_ne_true), if_neg (by rw [hf]; exact Bool.false_ne_true)]
  refine (if_neg (by rw [hc]; exact Bool.false_ne_true)).trans ?_
  exact congrArg (fun z => (pure (some z) : Sem (Option (List Str)))) hn
theorem names_swapped {x y : Str} {i j : Nat} (hi : Γ.loc[i]? = some (x, false)) (hj : Γ.loc[j]? = some (y, false)) (hil : i < l.length) (hjl : j < l.length) {v u : V} {xv yv : Value} (N : Now prog w B d Γ A env FA l own s) (rv : VR s.heap v xv) (ru : VR s.heap u yv) {Q : List (Option V) → Own → Prop} (h : Q ((l.set j (some u)).set i (some v)) own) :
    DoesS prog w B (assignInOrder ([x, y].reverse.map fun n => bindName env n) [xv, yv].reverse) ⟨d, Γ, A, env, FA, l⟩ own s Q := by
  intro Q' E p
  show wpAny _ _ (holding [xv] (bindName env y yv) >>= fun _ => holding [] (bindName env x xv) >>= fun _ => pure ()) Q' E s
  refine wpAny_bind (wpAny_holding (bindName_ (store_name N ru hj hjl (by intro h; cases h) fun s1 N1 S1 => wpAny_bind (wpAny_holding (bindName_ ?_)))))
  exact store_name N1 (rv.mono (N.tups S1)) hi (by rw [List.length_set]; exact hil) (by intro h; cases h) fun s2 N2 S2 => wpAny_pure (p _ _ _ h N2 (S1.trans S2))
theorem names_swapped3 {x y z : Str} {i j k : Nat} (hi : Γ.loc[i]? = some (x, false)) (hj : Γ.loc[j]? = some (y, false)) (hk : Γ.loc[k]? = some (z, false)) (hil : i < l.length) (hjl : j < l.length) (hkl : k < l.length) {v u t : V} {xv yv zv : Value} (N : Now prog w B d Γ A env FA l own s) (rv : VR s.heap v xv) (ru : VR s.heap u yv) (rt : VR s.heap t zv) {Q : List (Option V) → Own → Prop} (h : Q (((l.set k (some t)).set j (some u)).set i (some v)) own) :
    DoesS prog w B (assignInOrder ([x, y, z].reverse.map fun n => bindName env n) [xv, yv, zv].reverse) ⟨d, Γ, A, env, FA, l⟩ own s Q := by
  intro Q' E p
  show wpAny _ _ (holding [yv, xv] (bindName env z zv) >>= fun _ => holding [xv] (bindName env y yv) >>= fun _ => holding [] (bindName env x xv) >>= fun _ => pure ()) Q' E s
  refine wpAny_bind (wpAny_holding (bindName_ (store_name N rt hk hkl (by intro h; cases h) fun s1 N1 S1 => wpAny_bind (wpAny_holding (bindName_ ?_)))))
  have t1 := N.tups S1
  refine store_name N1 (ru.mono t1) hj (by rw [List.length_set]; exact hjl) (by intro h; cases h) fun s2 N2 S2 => wpAny_bind (wpAny_holding (bindName_ ?_))
  exact store_name N2 ((rv.mono t1).mono (N1.tups S2)) hi (by rw [List.length_set, List.length_set]; exact hil) (by intro h; cases h) fun s3 N3 S3 => wpAny_pure (p _ _ _ h N3 ((S1.trans S2).trans S3))
theorem TX.assign2 {x y : Str} {i j : Nat} {px py tp vp pos : Pos} {k k' : Nat} {v1 v2 : Expr} {Q : Fl → List (Option V) → Own → Prop} (hi : Γ.loc[i]? = some (x, false)) (hj : Γ.loc[j]? = some (y, false)) (hil : i < l.length) (hjl : j < l.length) (hxy : (x == y) = false) (hl : (py.line == px.line) = true)
    (h1 : noStar [v1, v2] = true) (hf : ([v1, v2].all (foldedForSure 8)) = false) (hc : ([v1, v2].all (constantsAlone 8)) = false)
    (h : TE prog w B d Γ v1 l own (fun v own₁ => TE prog w B d Γ v2 l own₁ (fun u own₂ => Q .next ((l.set j (some u)).set i (some v)) own₂))) :
    TX prog w B d Γ (.Assign [.Tuple [.Name x px, .Name y py] k tp] (.Tuple [v1, v2] k' vp) pos) l own Q := by
  intro A env FA s N Q' E p
  obtain ⟨s1, s2⟩ := noStar_cons h1
  obtain ⟨s2, _⟩ := noStar_cons s2
  have T : TE prog w B d Γ (.Tuple [v1, v2] k' vp) l own (fun v own₁ => match v with | .tup [a, b] => Q .next ((l.set j (some b)).set i (some a)) own₁ | _ => False) := by
    refine TE.tup (TA.cons s1 fun A env FA s N => (h A env FA s N).mono fun v o q => TA.cons s2 fun A env FA s N => (q A env FA s N).mono fun u o' q' => TA.nil ⟨by rw [show sizeLine = 16777216 from rfl]; simp, q'⟩)
  refine Assign_Tuple_swapped (T A env FA s N _ E fun v xv o1 s1 q1 r1 N1 S1 => ?_) rfl (swapped2 (List.mem_of_getElem? hi) (List.mem_of_getElem? hj) hxy hl h1 hf hc N.cx)
  match v, q1, r1 with
  | .tup [a, b], q1, r1 =>
    obtain ⟨t, its, rfl, it, r, e⟩ := r1.tupIs
    obtain ⟨av, bv, e2, ra, rb⟩ := r.two
    have sz : its.size = 2 := VRs.size r
    refine (show [x, y].length = its.size from sz.symm) ▸ unpackItems_tuple N1.bud.hd it fun h' he => ?_
    have X := Ext.of_but (top _) he
    obtain ⟨N2, S2⟩ := N1.ext (tk := s1.toks) X
    rw [e2]
    exact names_swapped hi hj hil hjl N2 (ra.mono X.tups) (rb.mono X.tups) (Q := fun l' o' => Q .next l' o') q1 _ E fun l2 o2 s2 q2 N3 S3 => p .next .next _ _ _ q2 rfl N3 ((S1.trans S2).trans S3)
theorem TX.assign3 {x y z : Str} {i j m : Nat} {px py pz tp vp pos : Pos} {k k' : Nat} {v1 v2 v3 : Expr} {Q : Fl → List (Option V) → Own → Prop} (hi : Γ.loc[i]? = some (x, false)) (hj : Γ.loc[j]? = some (y, false)) (hm : Γ.loc[m]? = some (z, false)) (hil : i < l.length) (hjl : j < l.length) (hml : m < l.length) (hxy : (x == y) = false) (hxz : (x == z) = false) (hyz : (y == z) = false) (hl : (py.line == px.line) = true) (hl3 : (pz.line == px.line) = true)
    (h1 : noStar [v1, v2, v3] = true) (hf : ([v1, v2, v3].all (foldedForSure 8)) = false) (hc : ([v1, v2, v3].all (constantsAlone 8)) = false)
    (h : TE prog w B d Γ v1 l own (fun v own₁ => TE prog w B d Γ v2 l own₁ (fun u own₂ => TE prog w B d Γ v3 l own₂ (fun t own₃ => Q .next (((l.set m (some t)).set j (some u)).set i (some v)) own₃)))) :
    TX prog w B d Γ (.Assign [.Tuple [.Name x px, .Name y py, .Name z pz] k tp] (.Tuple [v1, v2, v3] k' vp) pos) l own Q := by
  intro A env FA s N Q' E p
  obtain ⟨s1, s2⟩ := noStar_cons h1
  obtain ⟨s2, s3⟩ := noStar_cons s2
  obtain ⟨s3, _⟩ := noStar_cons s3
  have T : TE prog w B d Γ (.Tuple [v1, v2, v3] k' vp) l own (fun v own₁ => match v with | .tup [a, b, c] => Q .next (((l.set m (some c)).set j (some b)).set i (some a)) own₁ | _ => False) := by
    refine TE.tup (TA.cons s1 fun A env FA s N => (h A env FA s N).mono fun v o q => TA.cons s2 fun A env FA s N => (q A env FA s N).mono fun u o' q' => TA.cons s3 fun A env FA s N => (q' A env FA s N).mono fun u2 o2' q2' => TA.nil ⟨by rw [show sizeLine = 16777216 from rfl]; simp, q2'⟩)
  refine Assign_Tuple_swapped (T A env FA s N _ E fun v xv o1 s1 q1 r1 N1 S1 => ?_) rfl (swapped3 (List.mem_of_getElem? hi) (List.mem_of_getElem? hj) (List.mem_of_getElem? hm) hxy hxz hyz hl hl3 h1 hf hc N.cx)
  match v, q1, r1 with
  | .tup [a, b, c], q1, r1 =>
    obtain ⟨t, its, rfl, it, r, e⟩ := r1.tupIs
    obtain ⟨av, bv, cv, e2, ra, rb, rc⟩ := r.three
    have sz : its.size = 3 := VRs.size r
    refine (show [x, y, z].length = its.size from sz.symm) ▸ unpackItems_tuple N1.bud.hd it fun h' he => ?_
    have X := Ext.of_but (top _) he
    obtain ⟨N2, S2⟩ := N1.ext (tk := s1.toks) X
    rw [e2]
    exact names_swapped3 hi hj hm hil hjl hml N2 (ra.mono X.tups) (rb.mono X.tups) (rc.mono X.tups) (Q := fun l' o' => Q .next l' o') q1 _ E fun l2 o2 s2 q2 N3 S3 => p .next .next _ _ _ q2 rfl N3 ((S1.trans S2).trans S3)
theorem TE.chain {a b c : Expr} {op1 op2 : CmpOp} {pos : Pos} {Q : V → Own → Prop} (hm : lastMarks [op1, op2] [b, c] = false)
    (h : TE prog w B d Γ a l own (fun x own₁ => TE prog w B d Γ b l own₁ (fun y own₂ => T2 prog w B (compareOp op1) x y own₂ (fun v own₃ => T1B prog w B truthy v own₃ (fun t own₄ => match t with
      | false => Q v own₄
      | true => TE prog w B d Γ c l own₄ (fun z own₅ => T2 prog w B (compareOp op2) y z own₅ Q)))))) :
    TE prog w B d Γ (.Compare a [op1, op2] [b, c] pos) l own Q := by
  intro A env FA s N Q' E p
  refine Compare_chain (h A env FA s N _ E fun v x o1 s1 q1 r1 N1 S1 => chain_link (q1 A env FA s1 N1 _ E fun v2 y o2 s2 q2 r2 N2 S2 => ?_)) hm
  refine q2 _ s2 N2 x y (r1.mono (N1.tups S2)) r2 _ E fun v3 cx o3 s3 q3 r3 N3 S3 => q3 _ s3 N3 cx r3 _ E fun t o4 s4 q4 N4 S4 => ?_
  cases t with
  | false => exact p _ _ _ _ q4 (r3.mono (N3.tups S4)) N4 (((S1.trans S2).trans S3).trans S4)
  | true =>
    refine chain_last (q4 A env FA s4 N4 _ E fun v5 z o5 s5 q5 r5 N5 S5 => ?_)
    exact q5 _ s5 N5 y z (((r2.mono (N2.tups S3)).mono (N3.tups S4)).mono (N4.tups S5)) r5 Q' E (((((p.step S1).step S2).step S3).step S4).step S5)
theorem TT.chain {a b c : Expr} {op1 op2 : CmpOp} {pos : Pos} {Q : Bool → Own → Prop} (hm : lastMarks [op1, op2] [b, c] = false)
    (h : TE prog w B d Γ a l own (fun x own₁ => TE prog w B d Γ b l own₁ (fun y own₂ => T2 prog w B (compareOp op1) x y own₂ (fun v own₃ => T1B prog w B truthy v own₃ (fun t own₄ => match t with
      | false => Q false own₄
      | true => TE prog w B d Γ c l own₄ (fun z own₅ => T2 prog w B (compareOp op2) y z own₅ (fun v own₆ => T1B prog w B truthy v own₆ Q))))))) :
    TT prog w B d Γ (.Compare a [op1, op2] [b, c] pos) l own Q := by
  intro A env FA s N Q' E p
  refine isTrue_chain (h A env FA s N _ E fun v x o1 s1 q1 r1 N1 S1 => test_link (q1 A env FA s1 N1 _ E fun v2 y o2 s2 q2 r2 N2 S2 => ?_)) hm
  refine q2 _ s2 N2 x y (r1.mono (N1.tups S2)) r2 _ E fun v3 cx o3 s3 q3 r3 N3 S3 => q3 _ s3 N3 cx r3 _ E fun t o4 s4 q4 N4 S4 => ?_
  cases t with
  | false => exact p _ _ _ q4 N4 (((S1.trans S2).trans S3).trans S4)
  | true =>
    refine test_last (q4 A env FA s4 N4 _ E fun v5 z o5 s5 q5 r5 N5 S5 => ?_)
    exact q5 _ s5 N5 y z (((r2.mono (N2.tups S3)).mono (N3.tups S4)).mono (N4.tups S5)) r5 _ E fun v6 x6 o6 s6 q6 r6 N6 S6 => q6 _ s6 N6 x6 r6 Q' E ((((((p.step S1).step S2).step S3).step S4).step S5).step S6)
end
end Lw.Internal
namespace Lw.Internal
section
variable {prog : Program} {w : World} {B : Base} {d : Nat} {Γ : Fn} {A : Around} {env : Env} {FA : List Nat} {l l' : List (Option V)} {own own' own'' : Own} {s s' s'' : Shared} {C : Ct}
noncomputable def TEo (prog : Program) (w : World) (B : Base) (d : Nat) (Γ : Fn) (e : Option Expr) (l : List (Option V)) (own : Own) (Q : V → Own → Prop) : Prop := match e with
  | none => Q .none own
  | some e => TE prog w B d Γ e l own Q
theorem TEo.run {e : Option Expr} {Q : V → Own → Prop} (h : TEo prog w B d Γ e l own Q) (N : NowC prog w B ⟨d, Γ, A, env, FA, l⟩ own s) : Does prog w B (evalPart e env) ⟨d, Γ, A, env, FA, l⟩ own s Q := by
  cases e with
  | none => exact fun Q' E p => wpAny_pure (p .none _ _ _ h rfl N .refl)
  | some e => exact h A env FA s N
noncomputable def partOf : V → Option (Option Int)
  | .none => some none
  | .int i => some (some i)
  | _ => none
theorem partOf.is {h : Heap} {v : V} {x : Value} {o : Option Int} (e : partOf v = some o) (r : VR h v x) : IsPart x o := by
  cases v with
  | none => simp only [VR] at r; subst r; cases e; exact .none
  | int i => simp only [VR] at r; obtain ⟨t, rfl⟩ := r; cases e; exact .int i t
  | _ => cases e
noncomputable def vpick (vs : List V) (lo hi : Option Int) : List V := (vs.drop (lo.elim 0 (clipAt vs.length))).take (hi.elim vs.length (clipAt vs.length) - lo.elim 0 (clipAt vs.length))
theorem VRs.pick {h : Heap} {vs : List V} {its : Array Value} (r : VRs h vs its.toList) (lo hi : Option Int) : VRs h (vpick vs lo hi) (slicePick its lo hi none).toList := by
  rw [slicePick_plain]
  unfold vpick
  rw [VRs.size r]
  exact (r.drop _).take _
theorem TE.slice {e : Expr} {lo hi : Option Expr} {p1 pos : Pos} {Q : V → Own → Prop} (hs : ∀ o i, subscripted (.Slice lo hi Option.none p1) false o i = operate [i, o] (getItem o i))
    (h : TE prog w B d Γ e l own (fun x own₁ => TEo prog w B d Γ lo l own₁ (fun a own₂ => TEo prog w B d Γ hi l own₂ (fun b own₃ => ∃ o vs pa pb, x = .obj o ∧ own₃ o = some (.list vs) ∧ vs.length ≤ 1000 ∧ partOf a = some pa ∧ partOf b = some pb ∧ ∀ c, own₃ c = Option.none → Q (.obj c) (own₃.put c (.list (vpick vs pa pb))))))) :
    TE prog w B d Γ (.Subscript e (.Slice lo hi Option.none p1) pos) l own Q := by
  intro A env FA s N Q' E p
  refine Subscript_ (h A env FA s N _ E fun v x o1 s1 q1 r1 N1 S1 => wpAny_Slice (TEo.run q1 N1 _ E fun va xa o2 s2 q2 r2 N2 S2 => TEo.run q2 N2 _ E fun vb xb o3 s3 q3 r3 N3 S3 => wpAny_pure ?_))
  obtain ⟨o, vs, pa, pb, rfl, ho, hz, ea, eb, q⟩ := q3
  simp only [VR] at r1; subst r1
  obtain ⟨N4, S4⟩ := N3.ext (tk := s3.toks) (Ext.push s3.heap { cls := .type "slice", data := .fields #[xa, xb, .none] })
  obtain ⟨its, n, e, il, r⟩ := (N4.st.obj _ _ ho).1.isList
  refine tail_any il.typeIs slot_list_getitem.lookup ?_ (hs _ _)
  refine wpAny_getItem_list_slice il (Heap.IsSliceOf.new ..) (partOf.is ea (r2.mono (N2.tups S3))) (partOf.is eb r3) .none (by simp) ?_ (Nat.le_trans (by rw [VRs.size r]; exact hz) size_1000)
  have X := Ext.push (s3.heap.push { cls := .type "slice", data := .fields #[xa, xb, .none] }) { cls := .type "list", data := .seq (slicePick its pa pb Option.none) }
  obtain ⟨N5, S5⟩ := N4.gain (tk := s3.toks) (o := .list (vpick vs pa pb)) X (top _) ⟨_, _, Heap.get?_push_size _ rfl, (r.mono X.tups).pick _ _⟩
  exact p _ _ _ _ (q _ (N4.fresh (top _))) rfl N5 ((((S1.trans S2).trans S3).trans S4).trans S5)
theorem TE.slice_str {e hi : Expr} {p1 pos : Pos} {Q : V → Own → Prop} (hs : ∀ o i, subscripted (.Slice Option.none (some hi) Option.none p1) false o i = operate [i, o] (getItem o i))
    (h : TE prog w B d Γ e l own (fun x own₁ => TE prog w B d Γ hi l own₁ (fun b own₂ => ∃ t j, x = .str t ∧ b = .int j ∧ t.length ≤ 1000 ∧ Q (.str (Txt.slice (S t) Option.none (some j)).cps.toList) own₂))) :
    TE prog w B d Γ (.Subscript e (.Slice Option.none (some hi) Option.none p1) pos) l own Q := by
  intro A env FA s N Q' E p
  refine Subscript_ (h A env FA s N _ E fun v x o1 s1 q1 r1 N1 S1 => wpAny_Slice (wpAny_pure (q1 A env FA s1 N1 _ E fun v2 x2 o2 s2 q2 r2 N2 S2 => wpAny_pure ?_)))
  obtain ⟨t, j, rfl, rfl, hz, q⟩ := q2
  simp only [VR] at r1 r2
  obtain ⟨tk, rfl⟩ := r1
  obtain ⟨tj, rfl⟩ := r2
  obtain ⟨T, id, hl, hT, hg⟩ := SBH.sliceItem_ns (prog := prog) (w := w) (A := A) (E := E) (P := fun h => Ext s2.heap h) (s := s2) (x := S t) (t := tk) (uj := tj) (j := j) (Q := Q') (fun h ob k => ⟨fun b o e => Heap.get?_push_of_some _ (k.keep b o e)⟩) (Ext.refl _) (fun h' t' k X => by
    obtain ⟨N3, S3⟩ := N2.ext (tk := k) X
    exact p _ _ _ _ q ⟨t', rfl⟩ N3 ((S1.trans S2).trans S3)) (by show (List.toArray t).size ≤ _; rw [List.size_toArray]; exact Nat.le_trans hz size_1000)
  exact tail_any hT hl hg (hs _ _)
theorem AKV.get {h : Heap} {name : Str} : ∀ {kvs : List (Str × V)} {es : List DictEntry}, AKV h kvs es → match kvs.lookup name with
    | some v => ∃ x, getL name es = some (some x) ∧ VR h v x
    | none => getL name es = some none
  | [], _, e => by simp only [AKV] at e; subst e; rfl
  | (k, v) :: kvs, _, e => by
    simp only [AKV] at e
    obtain ⟨en, t, tk, rfl, e1, h1, h2⟩ := e
    have ih := AKV.get (name := name) h2
    rw [List.lookup_cons]
    have isk : en.key.isStr name = (k == name) := by rw [e1]; rfl
    have nr : en.refKey = false := by unfold DictEntry.refKey; rw [e1]
    by_cases q : name = k
    · subst q
      simp only [beq_self_eq_true]
      refine ⟨en.val, ?_, h1⟩
      unfold getL
      rw [List.find?_cons, isk]; simp
    · have b1 : (name == k) = false := by simpa using q
      have b2 : (k == name) = false := by simpa using (Ne.symm q)
      rw [b1]
      have e2 : getL name (en :: t) = getL name t := by
        unfold getL
        rw [List.find?_cons, isk, b2, List.any_cons, nr, Bool.false_or]
      rw [e2]; exact ih
theorem AKV.length {h : Heap} : ∀ {kvs : List (Str × V)} {es : List DictEntry}, AKV h kvs es → es.length = kvs.length
  | [], _, e => by simp only [AKV] at e; subst e; rfl
  | (k, v) :: kvs, _, e => by
    simp only [AKV] at e
    obtain ⟨en, t, tk, rfl, e1, h1, h2⟩ := e
    rw [List.length_cons, List.length_cons, AKV.length h2]
noncomputable def aput (name : Str) (v : V) : List (Str × V) → List (Str × V)
  | [] => [(name, v)]
  | (k, u) :: r => if k == name then (k, v) :: r else (k, u) :: aput name v r
theorem AKV.put {h : Heap} {name : Str} {hsh : Int} {tk : Tok} {v : V} {x : Value} (rx : VR h v x) : ∀ {kvs : List (Str × V)} {es : List DictEntry}, AKV h kvs es → AKV h (aput name v kvs) (putL name hsh (.str name tk) x es)
  | [], _, e => by simp only [AKV] at e; subst e; exact ⟨_, _, tk, rfl, rfl, rx, rfl⟩
  | (k, u) :: kvs, _, e => by
    simp only [AKV] at e
    obtain ⟨en, t, tk', rfl, e1, h1, h2⟩ := e
    have isk : en.key.isStr name = (k == name) := by rw [e1]; rfl
    unfold aput putL
    rw [isk]
    cases k == name with
    | true => exact ⟨_, _, tk', rfl, e1, rx, h2⟩
    | false => exact ⟨_, _, tk', rfl, e1, h1, AKV.put rx h2⟩
structure Inst (own : Own) (a c da : Nat) (kvs : List (Str × V)) : Prop where
  obj : own a = some (.inst c da)
  dict : own da = some (.dicta kvs)
theorem Inst.at (N : Now prog w B d Γ A env FA l own s) {a c da : Nat} {kvs : List (Str × V)} (I : Inst own a c da kvs) : ∃ es n, PySem.W.InstAt s.heap a { cls := .ref c, dict := some da, data := .plain } c (some (dictOf es n)) ∧ AKV s.heap kvs es ∧ s.heap.get? da = some (dictOf es n) := by
  have e1 := (N.st.obj _ _ I.obj).1
  obtain ⟨es, n, e2, r⟩ := (N.st.obj _ _ I.dict).1
  exact ⟨es, n, ⟨e1, rfl, rfl, e2⟩, r, e2⟩
structure ClsOk (B : Base) (c : Nat) : Prop where
  get : ∀ name : Str, plainGet B.K c name = true
  hasD : hasDictIn B.K c = true
  setat : findIn B.K (.ref c) "__setattr__" = some (some (.builtin "object.__setattr__"))
  over : plainOver B.K c = true
  isC : (clsIn B.K c).any (·.hasDict) = true
noncomputable def T1A (prog : Program) (w : World) (B : Base) (name : Str) (o : V) (own : Own) (Q : V → Own → Prop) : Prop := T1 prog w B (fun x => getAttr x name true) o own Q
theorem TE.attr {o : Expr} {name : Str} {pos : Pos} {Q : V → Own → Prop} (hb : PlainBase o name) (h : TE prog w B d Γ o l own (fun x own₁ => T1A prog w B name x own₁ Q)) : TE prog w B d Γ (.Attribute o name pos) l own Q := by
  intro A env FA s N Q' E p
  exact Attribute_any_ (h A env FA s N _ E fun v x o1 s1 q1 r1 N1 S1 => q1 _ s1 N1 x r1 Q' E (p.step S1)) (by rw [arm_eval_Attribute, hb env])
theorem VR.handed {h : Heap} {v : V} {x : Value} (r : VR h v x) : handedIn x = true := by
  cases v with
  | none => simp only [VR] at r; subst r; rfl
  | bool b => simp only [VR] at r; subst r; rfl
  | int i => simp only [VR] at r; obtain ⟨t, rfl⟩ := r; rfl
  | str l => simp only [VR] at r; obtain ⟨t, rfl⟩ := r; rfl
  | tup vs => simp only [VR] at r; obtain ⟨a, its, rfl, _⟩ := r; rfl
  | obj a => simp only [VR] at r; subst r; rfl
theorem T1A.ofOwn {a c da : Nat} {kvs : List (Str × V)} {name : Str} {v : V} {Q : V → Own → Prop} (K : ClsOk B c) (I : Inst own a c da kvs) (hn : findIn B.K (.ref c) name = some none) (hl : kvs.lookup name = some v) (h : Q v own) : T1A prog w B name (.obj a) own Q := by
  rintro C s N x r Q' E p
  simp only [VR] at r; subst r
  obtain ⟨es, n, I', r, e⟩ := I.at N
  have g := r.get (name := name)
  rw [hl] at g
  obtain ⟨y, gy, ry⟩ := g
  have X := N.ok.K.keeps N.st.keep
  exact get_value X I' (plainGet_of (K.get name)).1 (findObj_own K.hasD hn rfl gy) ry.handed (p v y _ _ h ry (N.tok _).1 (N.tok _).2)
theorem TX.setattr {o e : Expr} {name : Str} {pos' pos : Pos} {Q : Fl → List (Option V) → Own → Prop} (hs : ∀ env : Env, swapsWith e (some (.Attribute o name pos')) pos.line env = pure false)
    (h : TE prog w B d Γ e l own (fun v own₁ => TE prog w B d Γ o l own₁ (fun ov own₂ => ∃ a c da kvs, ov = .obj a ∧ Inst own₂ a c da kvs ∧ ClsOk B c ∧ takerIn B.K c name = some none ∧ kvs.length ≤ 100 ∧ Q .next l (own₂.put da (.dicta (aput name v kvs)))))) :
    TX prog w B d Γ (.Assign [.Attribute o name pos'] e pos) l own Q := by
  intro A env FA s N Q' E p
  refine plainObj_wpAny_Assign_Attribute (h A env FA s N _ E fun v x o1 s1 q1 r1 N1 S1 => q1 A env FA s1 N1 _ E fun v2 x2 o2 s2 q2 r2 N2 S2 => ?_) (hs env)
  obtain ⟨a, c, da, kvs, rfl, I, K, ht, hz, q⟩ := q2
  simp only [VR] at r2; subst r2
  obtain ⟨es, n, I', r, e⟩ := I.at N2
  have X : B.K.In ({ s2 with toks := s2.toks + 1 } : Shared).heap := N2.ok.K.keeps N2.st.keep
  refine set_plain (s := s2) X I' K.setat (osa_open (s := { s2 with toks := s2.toks + 1 }) X I' K.over ht fun b => ?_)
  obtain ⟨cd, hc, hd'⟩ := any_some K.isC
  have D : ({ s2 with toks := s2.toks + 1 } : Shared).heap.get? da = some (dictOf es n) := e
  refine wpAny_bind (wpAny_pure (wpAny_bind (wpAny_bind (wpAny_loadPart (s := { s2 with toks := s2.toks + 1 }) I'.at_ (wpAny_bind ((looks_clsIn X hc).here ?_))))))
  rw [hd']
  refine wpAny_pure (a := some da) (wpAny_bind (wpAny_pure (wpAny_bind ?_)))
  unfold nsSet
  refine wpAny_bind (wpAny_bind (wpAny_askSetting (wpAny_pure (wpAny_bind (wpAny_mkText (wpAny_bind (wpAny_loadPart D ?_)))))))
  have hnr : es.any (·.refKey) = false := by
    have : ∀ {kvs : List (Str × V)} {es : List DictEntry}, AKV s2.heap kvs es → es.any (·.refKey) = false := by
      intro kvs
      induction kvs with
      | nil => intro es e; simp only [AKV] at e; subst e; rfl
      | cons q kvs ih =>
        intro es e
        obtain ⟨k', u⟩ := q
        simp only [AKV] at e
        obtain ⟨en, t, tk, rfl, e1, _, h2⟩ := e
        have nr : en.refKey = false := by unfold DictEntry.refKey; rw [e1]
        rw [List.any_cons, nr, ih h2]; rfl
    exact this r
  dsimp only
  have cc : (!es.toArray.any (·.key.isStr name) && es.toArray.any (·.refKey)) = false := by
    rw [List.any_toArray, List.any_toArray, hnr, Bool.and_false]
  rw [aRefKeyMayBeTheName_at, cc]
  refine wpAny_updatePart D ?_
  have D' : (s2.heap.update da (Obj.putName name (PyData.keyHash w.params name) (.str name (s2.toks + 1)) x)).get? da = some (dictOf (putL name (PyData.keyHash w.params name) (.str name (s2.toks + 1)) x es) (putN name es n)) := by
    rw [Heap.get?_update_self _ e (by rw [putName_dict]; rfl), putName_dict]
  have hsz : (putL name (PyData.keyHash w.params name) (.str name (s2.toks + 1)) x es).length ≤ 1000 := by
    have : ∀ es : List DictEntry, (putL name (PyData.keyHash w.params name) (.str name (s2.toks + 1)) x es).length ≤ es.length + 1 := by
      intro es
      induction es with
      | nil => simp [putL]
      | cons q es ih =>
        unfold putL
        split <;> simp only [List.length_cons] <;> omega
    have h1 := this es
    rw [r.length] at h1
    omega
  refine wpAny_bind (wpAny_lookBehind (s := { s2 with heap := _, toks := _ }) D' (by rw [show (dictOf _ _).data = _ from rfl]; exact pastItsLine_dict (by rw [List.size_toArray, sizeLine_eq]; omega)) ?_)
  have ob := N2.st.obj _ _ I.dict
  have hs : Heap.SameBut da s2.heap (s2.heap.update da (Obj.putName name (PyData.keyHash w.params name) (.str name (s2.toks + 1)) x)) := Heap.SameBut.update ..
  have k' : Tups s2.heap (s2.heap.update da (Obj.putName name (PyData.keyHash w.params name) (.str name (s2.toks + 1)) x)) := fun b' o2 e2 hc2 => (hs.2 b' (fun q' => by
    obtain ⟨ob', g1, g2, _⟩ := ob.1.get
    subst q'; rw [g1] at e2; cases e2; exact g2 hc2)).trans e2
  obtain ⟨N3, S3⟩ := N2.upd (o' := .dicta (aput name v kvs)) (tk := s2.toks + 1 + 1) I.dict hs ⟨_, _, D', (r.mono k').put ((r1.mono (N1.tups S2)).mono k')⟩
  exact wpAny_pure (p .next .next _ _ _ q rfl N3 ((S1.trans S2).trans S3))
end
end Lw.Internal
namespace Lw.Internal
section
variable {prog : Program} {w : World} {B : Base} {d : Nat} {Γ : Fn} {A : Around} {env : Env} {FA : List Nat} {l l' : List (Option V)} {own own' own'' : Own} {s s' s'' : Shared} {C : Ct}
theorem weight_tc (c : Addr) (xs : List Value) : (Code.builtin "type.__call__" ⟨.ref c :: xs, []⟩).weight = 1 := by kernel_rfl
theorem units_tc (c : Addr) (xs : List Value) : (Code.builtin "type.__call__" ⟨.ref c :: xs, []⟩).cUnits = 1 := by kernel_rfl
theorem TC.make {c fI : Nat} {args : List V} {Q : V → Own → Prop} (hm : makesIn B.K c = true) (hi : findIn B.K (.ref c) "__init__" = some (some (.ref fI))) (hf : typeIn B.K (.ref fI) = some (.type "function"))
    (h : ∀ a da, own da = none → own a = none → a ≠ da → TC prog w B d (.ref fI) (.obj a :: args) ((own.put da (.dicta [])).put a (.inst c da)) (fun v own' => v = .none ∧ Q (.obj a) own')) : TC prog w B (d + 1) (.ref c) args own Q := by
  intro C s hC N xs hxs R hR
  obtain ⟨Cd, CΓ, CA, Cenv, CFA, Cl⟩ := C
  dsimp only at hC; subst hC
  obtain ⟨hh, g, dr, t, os⟩ := s
  have X : B.K.In hh := N.ok.K.keeps N.st.keep
  refine make_core (makes_of X hm) (looks_findIn X hi) (fun self => bind_fn X self hf) (.inl rfl) ?_
  have hne : hh.objs.size + 1 ≠ hh.objs.size := Nat.succ_ne_self _
  have fa : own (hh.objs.size + 1) = none := N.fresh (by
    show hh.get? _ = none
    cases q : hh.get? (hh.objs.size + 1) with
    | none => rfl
    | some o => exact absurd (Heap.lt_size q) (Nat.not_lt.mpr (Nat.le_succ _)))
  have fd : own hh.objs.size = none := N.fresh (top _)
  have x1 : Ext hh (hh.push emptyDict) := Ext.push _ _
  have x2 : Ext (hh.push emptyDict) ((hh.push emptyDict).push (instObj c hh.objs.size)) := Ext.push _ _
  obtain ⟨N1, S1⟩ := N.gain (h' := hh.push emptyDict) (tk := t) (o := .dicta []) x1 (top _) ⟨[], 0, Heap.get?_push_size _ rfl, rfl⟩
  obtain ⟨N2, S2⟩ := N1.gain (h' := (hh.push emptyDict).push (instObj c hh.objs.size)) (tk := t) (a := hh.objs.size + 1) (o := .inst c hh.objs.size) x2 (by
    show (hh.push emptyDict).get? (hh.objs.size + 1) = none
    have := top (hh.push emptyDict)
    rwa [Heap.size_push] at this) (by
    show ((hh.push emptyDict).push (instObj c hh.objs.size)).get? (hh.objs.size + 1) = _
    have := Heap.get?_push_size (hh.push emptyDict) (o := instObj c hh.objs.size) rfl
    rwa [Heap.size_push] at this)
  have b1 : CA.depth + 3 * (d + 1) + 3 ≤ recursionLimit := N2.bud.depth
  have b2 : CA.units + 20 * (d + 1) + 200 ≤ cLine := N2.bud.units
  have W1 := weight_tc c xs
  have W2 := units_tc c xs
  have N3 : NowC prog w B ⟨d, CΓ, CA.under (.builtin "type.__call__" ⟨.ref c :: xs, []⟩), Cenv, CFA, Cl⟩ ((own.put hh.objs.size (.dicta [])).put (hh.objs.size + 1) (.inst c hh.objs.size)) ⟨(hh.push emptyDict).push (instObj c hh.objs.size), g, dr, t, os⟩ :=
    ⟨N2.ok, ⟨N2.bud.hd, by show CA.depth + (Code.builtin "type.__call__" ⟨.ref c :: xs, []⟩).weight + 3 * d + 3 ≤ _; rw [W1]; omega, by show CA.units + (Code.builtin "type.__call__" ⟨.ref c :: xs, []⟩).cUnits + 20 * d + 200 ≤ _; rw [W2]; omega⟩, N2.cx, N2.st, N2.loc⟩
  refine h _ _ fd fa hne ⟨d, CΓ, CA.under (.builtin "type.__call__" ⟨.ref c :: xs, []⟩), Cenv, CFA, Cl⟩ _ rfl N3 (.ref (hh.objs.size + 1) :: xs) ⟨_, _, rfl, rfl, (VRs.mono x1.tups hxs).mono x2.tups⟩ _ ?_
  intro v x own' s' q r N' S'
  obtain ⟨rfl, q⟩ := q
  simp only [VR] at r
  exact ⟨r, hR _ _ _ _ q rfl ⟨N'.ok, N.bud, N'.cx, N'.st, N'.loc⟩ ((S1.trans S2).trans S')⟩
theorem imethod_run {o : Expr} {name : Str} {apos pos : Pos} {es : List Expr} {Q' : Value → Shared → Prop} {E : Value → Shared → Prop} (hb : PlainBase o name) (hs : noStar es = true) (hn : es.length < 30) (hl : (apos.endLine == pos.line) = true)
    (h : wpAny (model prog w) A (eval o env) (fun x s1 => ∃ l own₁ a c da kvs f, Now prog w B d Γ A env FA l own₁ s1 ∧ x = .ref a ∧ Inst own₁ a c da kvs ∧ ClsOk B c ∧ findIn B.K (.ref c) name = some (some (.ref f)) ∧ isFn B.K (.ref f) = true ∧ kvs.lookup name = Option.none ∧
      wpAny (model prog w) A (callWith pos (.ref f) [x] (backTo pos (starEach es env)) []) Q' E s1) E s) :
    wpAny (model prog w) A (eval (.Call (.Attribute o name apos) es [] pos) env) Q' E s := by
  rw [arm_eval_Call, hb env]
  refine wpAny_bind (wpAny_mono h (fun x s1 q1 => wpAny_bind (wpAny_standAt ?_)) fun _ _ z => z)
  obtain ⟨l, own₁, a, c, da, kvs, f, N1, rfl, I, K, hf, hfn, hlk, q⟩ := q1
  obtain ⟨des, n, I', r, e⟩ := I.at N1
  have g := r.get (name := name)
  rw [hlk] at g
  have X := N1.ok.K.keeps N1.st.keep
  have hform : methodCallForm (es.length + ([] : List Keyword).length) (backTo pos (starEach es env)) (backToKw pos (keywordEach [] env)) = true := few hs hn
  have hpos : methodCallPos true o env apos pos = pure pos := by unfold methodCallPos; simp [hl]
  unfold methodCall
  rw [hform]
  refine wpAny_bind (wpAny_holding (method_fn X I' (plainGet_of (K.get name)).1 (plainGet_of (K.get name)).2 hf (beq_iff_eq.mp hfn) (by show (lookIn name (dictOf des n)).map _ = _; rw [lookIn_dict, g]; rfl) ?_))
  exact wpAny_bind (wpAny_of_eq hpos q)
theorem TE.imethod {o : Expr} {name : Str} {apos pos : Pos} {e0 : Expr} {es : List Expr} {Q : V → Own → Prop} (hb : PlainBase o name) (hs : noStar (e0 :: es) = true) (hn : (e0 :: es).length < 30) (hl : (apos.endLine == pos.line) = true)
    (h : TE prog w B d Γ o l own (fun x own₁ => ∃ a c da kvs f, x = .obj a ∧ Inst own₁ a c da kvs ∧ ClsOk B c ∧ findIn B.K (.ref c) name = some (some (.ref f)) ∧ isFn B.K (.ref f) = true ∧ keepIn B.K (.ref f) = true ∧ kvs.lookup name = Option.none ∧
      TA prog w B d Γ (e0 :: es) l own₁ (fun vs own₂ => TC prog w B d (.ref f) (x :: vs) own₂ Q))) :
    TE prog w B d Γ (.Call (.Attribute o name apos) (e0 :: es) [] pos) l own Q := by
  intro A env FA s N Q' E p
  refine imethod_run (B := B) (d := d) (Γ := Γ) (FA := FA) hb hs hn hl (h A env FA s N _ E fun v x o1 s1 q1 r1 N1 S1 => ?_)
  obtain ⟨a, c, da, kvs, f, rfl, I, K, hf, hfn, hk, hlk, q⟩ := q1
  simp only [VR] at r1; subst r1
  refine ⟨l, o1, a, c, da, kvs, f, N1, rfl, I, K, hf, hfn, hlk, ?_⟩
  obtain ⟨h1, h2⟩ := noStar_cons hs
  refine callWith_K N1.ok.K hk (q pos A env FA s1 N1 _ E fun vs xs o2 s2 q2 r2 N2 S2 => ⟨N2.ok.K.keeps N2.st.keep, ?_⟩) (starEach_cons h1) (noStar_any h2)
  exact wpAny_call (q2 ⟨d, Γ, A, env, FA, l⟩ s2 rfl N2 (.ref a :: xs) ⟨_, _, rfl, rfl, r2⟩ _ ((p.step S1).step S2))
theorem TE.imethod0 {o : Expr} {name : Str} {apos pos : Pos} {Q : V → Own → Prop} (hb : PlainBase o name) (hl : (apos.endLine == pos.line) = true)
    (h : TE prog w B d Γ o l own (fun x own₁ => ∃ a c da kvs f, x = .obj a ∧ Inst own₁ a c da kvs ∧ ClsOk B c ∧ findIn B.K (.ref c) name = some (some (.ref f)) ∧ isFn B.K (.ref f) = true ∧ keepIn B.K (.ref f) = true ∧ kvs.lookup name = Option.none ∧
      TC prog w B d (.ref f) [x] own₁ Q)) :
    TE prog w B d Γ (.Call (.Attribute o name apos) [] [] pos) l own Q := by
  intro A env FA s N Q' E p
  refine imethod_run (B := B) (d := d) (Γ := Γ) (FA := FA) hb rfl (by decide) hl (h A env FA s N _ E fun v x o1 s1 q1 r1 N1 S1 => ?_)
  obtain ⟨a, c, da, kvs, f, rfl, I, K, hf, hfn, hk, hlk, q⟩ := q1
  simp only [VR] at r1; subst r1
  refine ⟨l, o1, a, c, da, kvs, f, N1, rfl, I, K, hf, hfn, hlk, callWith_K0 (N1.ok.K.keeps N1.st.keep) hk ?_⟩
  exact wpAny_call (q ⟨d, Γ, A, env, FA, l⟩ s1 rfl N1 [.ref a] ⟨_, _, rfl, rfl, rfl⟩ _ (p.step S1))
noncomputable def TPr (prog : Program) (w : World) (B : Base) (d : Nat) (Γ : Fn) (ks : List (Option Expr)) (vs : List Expr) (l : List (Option V)) (own : Own) (Q : List (V × V) → Own → Prop) : Prop :=
  ∀ pos A env FA s, NowC prog w B ⟨d, Γ, A, env, FA, l⟩ own s → ∀ Q' E,
    (∀ kvs xs own' s', Q kvs own' → VRs s'.heap (kvs.map (·.1)) (xs.map (·.1)) → VRs s'.heap (kvs.map (·.2)) (xs.map (·.2)) → NowC prog w B ⟨d, Γ, A, env, FA, l⟩ own' s' → Stp B FA own own' s s' → Q' xs s') →
    wpAny (model prog w) A (evalPairs (pairTrees ks vs env pos)) Q' E s
theorem TPr.nil {Q : List (V × V) → Own → Prop} (h : Q [] own) : TPr prog w B d Γ [] [] l own Q := by
  intro pos A env FA s N Q' E p
  exact pairTrees_nil_walk (p [] [] own s h rfl rfl N .refl)
theorem TPr.cons {k v : Expr} {ks : List (Option Expr)} {vs : List Expr} {Q : List (V × V) → Own → Prop} (h : TE prog w B d Γ k l own (fun a own₁ => TE prog w B d Γ v l own₁ (fun b own₂ => TPr prog w B d Γ ks vs l own₂ (fun r own₃ => Q ((a, b) :: r) own₃)))) : TPr prog w B d Γ (some k :: ks) (v :: vs) l own Q := by
  intro pos A env FA s N Q' E p
  refine pairTrees_cons_walk (h A env FA s N _ E fun a x o1 s1 q1 r1 N1 S1 => q1 A env FA s1 N1 _ E fun b y o2 s2 q2 r2 N2 S2 => q2 pos A env FA s2 N2 _ E fun kvs xs o3 s3 q3 r3 r4 N3 S3 => ?_)
  have t2 := N1.tups S2
  have t3 := N2.tups S3
  exact p _ _ _ _ q3 ⟨_, _, rfl, (r1.mono t2).mono t3, r3⟩ ⟨_, _, rfl, r2.mono t3, r4⟩ N3 ((S1.trans S2).trans S3)
theorem KVs.merge {K K' : Type} [DecidableEq K] [DecidableEq K'] {f : K → K'} (hf : ∀ a b, f a = f b → a = b) {h : Heap} : ∀ {more : List (K × V)} {ms : List (K' × Value)}, KVs f h more ms → ∀ {kvs : List (K × V)} {es : List (K' × Value)}, KVs f h kvs es → KVs f h (more.foldl (fun acc kv => kput acc kv.1 kv.2) kvs) (PySem.merged es ms)
  | [], _, e, _, _, r => by simp only [KVs] at e; subst e; exact r
  | (k, v) :: more, _, e, kvs, es, r => by
    simp only [KVs] at e
    obtain ⟨x, t, rfl, h1, h2⟩ := e
    exact KVs.merge hf h2 (r.put hf h1)
theorem carries_int {h : Heap} : ∀ {ik : List (Int × V)} {xs : List (Value × Value)}, VRs h ((ik.map fun q => (V.int q.1, q.2)).map (·.1)) (xs.map (·.1)) → VRs h ((ik.map fun q => (V.int q.1, q.2)).map (·.2)) (xs.map (·.2)) → ∃ kvs, Carries (intKind prog w) xs kvs ∧ KVs id h ik kvs
  | [], xs, e, _ => by
    simp only [List.map_nil, VRs] at e
    have : xs = [] := List.map_eq_nil_iff.mp e
    subst this
    exact ⟨[], trivial, rfl⟩
  | (k, v) :: ik, xs, e, e' => by
    simp only [List.map_cons, VRs] at e e'
    obtain ⟨x, t, q, h1, h2⟩ := e
    obtain ⟨y, t', q', h1', h2'⟩ := e'
    cases xs with
    | nil => cases q
    | cons z zs =>
      simp only [List.map_cons, List.cons.injEq] at q q'
      obtain ⟨rfl, rfl⟩ := q
      obtain ⟨rfl, rfl⟩ := q'
      simp only [VR] at h1
      obtain ⟨tk, h1⟩ := h1
      obtain ⟨kvs, c1, c2⟩ := carries_int h2 h2'
      obtain ⟨z1, z2⟩ := z
      dsimp only at h1 h1'
      subst h1
      exact ⟨(k, z2) :: kvs, ⟨int_key, rfl, c1⟩, ⟨_, _, rfl, h1', c2⟩⟩
theorem carries_str {h : Heap} : ∀ {ik : List (List Nat × V)} {xs : List (Value × Value)}, VRs h ((ik.map fun q => (V.str q.1, q.2)).map (·.1)) (xs.map (·.1)) → VRs h ((ik.map fun q => (V.str q.1, q.2)).map (·.2)) (xs.map (·.2)) → ∃ kvs, Carries (PySem.strKind prog w) xs kvs ∧ KVs S h ik kvs
  | [], xs, e, _ => by
    simp only [List.map_nil, VRs] at e
    have : xs = [] := List.map_eq_nil_iff.mp e
    subst this
    exact ⟨[], trivial, rfl⟩
  | (k, v) :: ik, xs, e, e' => by
    simp only [List.map_cons, VRs] at e e'
    obtain ⟨x, t, q, h1, h2⟩ := e
    obtain ⟨y, t', q', h1', h2'⟩ := e'
    cases xs with
    | nil => cases q
    | cons z zs =>
      simp only [List.map_cons, List.cons.injEq] at q q'
      obtain ⟨rfl, rfl⟩ := q
      obtain ⟨rfl, rfl⟩ := q'
      simp only [VR] at h1
      obtain ⟨tk, h1⟩ := h1
      obtain ⟨kvs, c1, c2⟩ := carries_str h2 h2'
      obtain ⟨z1, z2⟩ := z
      dsimp only at h1 h1'
      subst h1
      exact ⟨(S k, z2) :: kvs, ⟨str_key, rfl, c1⟩, ⟨_, _, rfl, h1', c2⟩⟩
theorem TE.dicti {ks : List (Option Expr)} {vs : List Expr} {pos : Pos} {Q : V → Own → Prop} (hall : ks.all (·.isSome) = true) (hl : ks.length = vs.length) (h0 : ks ≠ []) (hlen : ks.length ≤ 15)
    (h : ∀ a ep, own a = Option.none → TPr prog w B d Γ ks vs l (own.put a (.dicti ep [])) (fun kvs own₁ => ∃ ik : List (Int × V), kvs = ik.map (fun q => (V.int q.1, q.2)) ∧ own₁ a = some (.dicti ep []) ∧ ∀ ep', Q (.obj a) (own₁.put a (.dicti ep' (ik.foldl (fun acc kv => kput acc kv.1 kv.2) []))))) :
    TE prog w B d Γ (.Dict ks vs pos) l own Q := by
  intro A env FA s N Q' E p
  have x := Ext.push s.heap { cls := .type "dict", data := .dict #[] }
  obtain ⟨ep, hd⟩ := (Heap.DictOf.new (knd := intKind prog w) s.heap).dictAt
  obtain ⟨N1, S1⟩ := N.gain (tk := s.toks) (o := .dicti ep []) x (top _) ⟨_, hd, rfl⟩
  refine wpAny_Dict_walk (knd := intKind prog w) hall hl h0 hlen (h _ ep (N.fresh (top _)) pos A env FA _ N1 _ E fun kvs xs o2 s2 q2 r1 r2 N2 S2 => ?_)
  obtain ⟨ik, rfl, ho, q⟩ := q2
  obtain ⟨kv, c1, c2⟩ := carries_int (prog := prog) (w := w) r1 r2
  obtain ⟨xs2, hd2, rd⟩ := (N2.st.obj _ _ ho).1
  simp only [KVs] at rd; subst rd
  refine ⟨kv, c1, hd2.dictOf, fun h' hm hs => ?_⟩
  obtain ⟨ep', hm'⟩ := hm.dictAt
  obtain ⟨ob, e1, n1, _⟩ := (N2.st.obj _ _ ho).1.get
  have k' : Tups s2.heap h' := fun b o2 e hc => (hs.2 b (fun q => by subst q; rw [e1] at e; cases e; exact n1 hc)).trans e
  obtain ⟨N3, S3⟩ := N2.upd (o' := .dicti ep' (ik.foldl (fun acc kv => kput acc kv.1 kv.2) [])) (tk := s2.toks + xs.length) ho hs ⟨_, hm', KVs.merge id_inj (c2.mono k') (by rfl)⟩
  exact p _ _ _ _ (q ep') rfl N3 ((S1.trans S2).trans S3)
theorem TE.dicts {ks : List (Option Expr)} {vs : List Expr} {pos : Pos} {Q : V → Own → Prop} (hall : ks.all (·.isSome) = true) (hl : ks.length = vs.length) (h0 : ks ≠ []) (hlen : ks.length ≤ 15)
    (h : ∀ a, own a = Option.none → TPr prog w B d Γ ks vs l (own.put a (.dicts [])) (fun kvs own₁ => ∃ ik : List (List Nat × V), kvs = ik.map (fun q => (V.str q.1, q.2)) ∧ own₁ a = some (.dicts []) ∧ Q (.obj a) (own₁.put a (.dicts (ik.foldl (fun acc kv => kput acc kv.1 kv.2) []))))) :
    TE prog w B d Γ (.Dict ks vs pos) l own Q := by
  intro A env FA s N Q' E p
  have x := Ext.push s.heap { cls := .type "dict", data := .dict #[] }
  obtain ⟨N1, S1⟩ := N.gain (tk := s.toks) (o := .dicts []) x (top _) ⟨_, Heap.DictOf.new (knd := PySem.strKind prog w) s.heap, rfl⟩
  refine wpAny_Dict_walk (knd := PySem.strKind prog w) hall hl h0 hlen (h _ (N.fresh (top _)) pos A env FA _ N1 _ E fun kvs xs o2 s2 q2 r1 r2 N2 S2 => ?_)
  obtain ⟨ik, rfl, ho, q⟩ := q2
  obtain ⟨kv, c1, c2⟩ := carries_str (prog := prog) (w := w) r1 r2
  obtain ⟨xs2, hd2, rd⟩ := (N2.st.obj _ _ ho).1
  simp only [KVs] at rd; subst rd
  refine ⟨kv, c1, hd2, fun h' hm hs => ?_⟩
  obtain ⟨ob, e1, n1, _⟩ := (N2.st.obj _ _ ho).1.get
  have k' : Tups s2.heap h' := fun b o2 e hc => (hs.2 b (fun q => by subst q; rw [e1] at e; cases e; exact n1 hc)).trans e
  obtain ⟨N3, S3⟩ := N2.upd (o' := .dicts (ik.foldl (fun acc kv => kput acc kv.1 kv.2) [])) (tk := s2.toks + xs.length) ho hs ⟨_, hm, KVs.merge S_inj (c2.mono k') (by rfl)⟩
  exact p _ _ _ _ q rfl N3 ((S1.trans S2).trans S3)
noncomputable def TPl (prog : Program) (w : World) (B : Base) (d : Nat) (Γ : Fn) (a : Nat) (ks : List (Option Expr)) (vs : List Expr) (l : List (Option V)) (own : Own) (Q : Own → Prop) : Prop :=
  ∀ pos A env FA s, NowC prog w B ⟨d, Γ, A, env, FA, l⟩ own s → ∀ (Q' : PUnit → Shared → Prop) (E : Value → Shared → Prop),
    (∀ own' s', Q own' → NowC prog w B ⟨d, Γ, A, env, FA, l⟩ own' s' → Stp B FA own own' s s' → Q' PUnit.unit s') →
    wpAny (model prog w) A (forIn (pairTrees ks vs env pos) PUnit.unit fun (x : Sem Value × Sem Value) (_ : PUnit) => (do let kv ← x.1; let vv ← holding [kv] x.2; holding [kv, vv] (dictSet a kv vv); pure (ForInStep.yield PUnit.unit) : Sem (ForInStep PUnit))) Q' E s
theorem TPl.nil {a : Nat} {Q : Own → Prop} (h : Q own) : TPl prog w B d Γ a [] [] l own Q := by
  intro pos A env FA s N Q' E p
  show wpAny _ _ (forIn [] _ _) _ _ _
  rw [List.forIn_nil]
  exact wpAny_pure (p own s h N .refl)
theorem TPl.cons {a ep : Nat} {kvs : List (Int × V)} {k v : Expr} {ks : List (Option Expr)} {vs : List Expr} {Q : Own → Prop} (hz : kvs.length ≤ 1000)
    (h : TE prog w B d Γ k l own (fun x own₁ => TE prog w B d Γ v l own₁ (fun y own₂ => ∃ i, x = .int i ∧ own₂ a = some (.dicti ep kvs) ∧ ∀ ep', TPl prog w B d Γ a ks vs l (own₂.put a (.dicti ep' (kput kvs i y))) Q))) : TPl prog w B d Γ a (some k :: ks) (v :: vs) l own Q := by
  intro pos A env FA s N Q' E p
  show wpAny _ _ (forIn ((eval k env, do let x ← eval v env; standAt pos; pure x) :: pairTrees ks vs env pos) _ _) _ _ _
  rw [List.forIn_cons]
  refine wpAny_bind (wpAny_bind (h A env FA s N _ E fun x xv o1 s1 q1 r1 N1 S1 => wpAny_bind (wpAny_holding (wpAny_bind (q1 A env FA s1 N1 _ E fun y yv o2 s2 q2 r2 N2 S2 => wpAny_bind (wpAny_standAt (wpAny_pure (wpAny_bind (wpAny_holding ?_)))))))))
  obtain ⟨i, rfl, ho, q⟩ := q2
  have r1' := r1.mono (N1.tups S2)
  simp only [VR] at r1'
  obtain ⟨t, rfl⟩ := r1'
  obtain ⟨xs, hd, r⟩ := (N2.st.obj _ _ ho).1
  obtain ⟨ob, e1, n1, _⟩ := (N2.st.obj _ _ ho).1.get
  refine wpAny_dictSet_pairs (knd := intKind prog w) int_key hd.dictOf (fun h' hm hs => ?_) (Nat.le_trans (by rw [r.length]; exact hz) size_1000)
  obtain ⟨ep', hm'⟩ := hm.dictAt
  have k' : Tups s2.heap h' := fun b o2 e hc => (hs.2 b (fun q => by subst q; rw [e1] at e; cases e; exact n1 hc)).trans e
  obtain ⟨N3, S3⟩ := N2.upd (o' := .dicti ep' (kput kvs i y)) (tk := s2.toks + 1) ho hs ⟨_, hm', (r.mono k').put id_inj (r2.mono k')⟩
  refine wpAny_pure ?_
  exact q ep' pos A env FA _ N3 Q' E fun o4 s4 q4 N4 S4 => p _ _ q4 N4 (((S1.trans S2).trans S3).trans S4)
theorem TE.dictl {ks : List (Option Expr)} {vs : List Expr} {pos : Pos} {Q : V → Own → Prop} (hall : ks.all (·.isSome) = true) (hl : ks.length = vs.length) (hlen : ks.length = 16)
    (h : ∀ a ep, own a = Option.none → TPl prog w B d Γ a ks vs l (own.put a (.dicti ep [])) (fun own₁ => Q (.obj a) own₁)) :
    TE prog w B d Γ (.Dict ks vs pos) l own Q := by
  intro A env FA s N Q' E p
  have x := Ext.push s.heap { cls := .type "dict", data := .dict #[] }
  obtain ⟨ep, hd⟩ := (Heap.DictOf.new (knd := intKind prog w) s.heap).dictAt
  obtain ⟨N1, S1⟩ := N.gain (tk := s.toks) (o := .dicti ep []) x (top _) ⟨_, hd, rfl⟩
  have hn := pairTrees_length ks vs env pos hall hl
  have hp0 : pairTrees ks vs env pos ≠ [] := by
    intro he
    rw [he, hlen] at hn
    cases hn
  rw [arm_eval_Dict, zip_pairTrees ks vs env pos hall hl, dictDisplay_pairs _ hp0 (by rw [hn, hlen]; decide)]
  refine wpAny_bind (wpAny_standAt (wpAny_bind ?_))
  unfold subDict
  refine wpAny_bind (wpAny_alloc (wpAny_bind (wpAny_holding ?_)))
  rw [if_neg (by rw [hn, hlen]; decide)]
  refine wpAny_bind (wpAny_rule ?_)
  exact wpAny_bind (h _ ep (N.fresh (top _)) pos A env FA _ N1 _ E fun o2 s2 q2 N2 S2 => wpAny_pure (wpAny_pure (wpAny_pure (p _ _ _ _ q2 rfl N2 (S1.trans S2)))))
end
end Lw.Internal
namespace Lw.Internal
noncomputable def Chg (W : List Nat) (h h' : Heap) : Prop := ∀ b o, b ∉ W → h.get? b = some o → h'.get? b = some o
theorem Chg.of_but {a : Nat} {W : List Nat} {h h' : Heap} (x : Heap.ExtBut a h h') (ha : a ∈ W) : Chg W h h' := fun b o hb e => x b o (fun q => hb (q ▸ ha)) e
section
variable {prog : Program} {w : World} {B : Base} {d : Nat} {Γ : Fn} {A : Around} {env : Env} {FA : List Nat} {l l₀ l' : List (Option V)} {own own₀ own' own'' : Own} {s s₀ s' s'' : Shared} {C : Ct}
structure Apart (B : Base) (Γ : Fn) (env : Env) (FA : List Nat) (W : List Nat) (own : Own) (s₀ : Shared) : Prop where
  new : ∀ b ∈ W, s₀.heap.get? b = none
  own : ∀ b ∈ W, own b = none
  fa : ∀ b ∈ W, b ∉ FA
  p : B.P ∉ W
  h0 : ∀ b ∈ W, B.h₀.get? b = none
  cells : ∀ x c, (x, true) ∈ Γ.loc → env.cells.lookup x = some c → c ∉ W
theorem Apart.of (N : Now prog w B d Γ A env FA l own s) {W : List Nat} (h : ∀ b ∈ W, s.heap.get? b = none) : Apart B Γ env FA W own s where
  new := h
  own := fun b hb => N.fresh (h b hb)
  fa := fun b hb q => by obtain ⟨o, e, _⟩ := N.loc.fa.obj b q; rw [h b hb] at e; cases e
  p := fun q => by obtain ⟨o, e, _⟩ := N.st.tab.get; rw [h _ q] at e; cases e
  h0 := fun b hb => by
    cases q : B.h₀.get? b with
    | none => rfl
    | some o => have := N.st.keep b o q; rw [h b hb] at this; cases this
  cells := fun x c hx hc q => by obtain ⟨_, o, e, _⟩ := N.loc.cells x c hx hc; rw [h c q] at e; cases e
theorem Now.chg (N : Now prog w B d Γ A env FA l own s) (S : Stp B FA own₀ own s₀ s) {W : List Nat} (ap : Apart B Γ env FA W own s₀) {h' : Heap} {tk : Nat} (hc : Chg W s.heap h') (hf : ∀ b ∈ W, ∃ o, s.heap.get? b = some o ∧ ¬ Fixed o) :
    Now prog w B d Γ A env FA l own { s with heap := h', toks := tk } ∧ Stp B FA own₀ own s₀ { s with heap := h', toks := tk } ∧ Tups s.heap h' := by
  have tu : Tups s.heap h' := fun a o e hx => hc a o (fun q => by obtain ⟨o', e', n⟩ := hf a q; rw [e] at e'; cases e'; exact n hx) e
  have hown : ∀ a o, own a = some o → a ∉ W := fun a o e q => by rw [ap.own a q] at e; cases e
  refine ⟨⟨N.ok, N.bud, N.cx, ⟨fun b o e => hc b o (fun q => by rw [ap.h0 b q] at e; cases e) (N.st.keep b o e), N.st.gens, N.st.os, fun a o e => ?_, ?_⟩, ⟨⟨N.loc.fa.own, N.loc.fa.hi, fun a ha => ?_⟩, ?_, fun x c hx hcc => ?_⟩⟩, ⟨fun a o e hf1 hn hp => ?_, fun a h => S.new a h, fun a o e => ?_⟩, tu⟩
  · obtain ⟨y1, y2, y3⟩ := N.st.obj a o e
    obtain ⟨ob, e1, _⟩ := y1.get
    exact ⟨y1.mono tu ((hc a ob (hown a o e) e1).trans e1.symm), y2, y3⟩
  · obtain ⟨o, e, _⟩ := N.st.tab.get
    exact N.st.tab.mono tu ((hc _ _ ap.p e).trans e.symm)
  · obtain ⟨o, e, n⟩ := N.loc.fa.obj a ha
    exact ⟨o, hc a o (fun q => ap.fa a q ha) e, n⟩
  · obtain ⟨m, ⟨o, es, ep, e, r⟩, hl⟩ := N.loc.ns
    refine ⟨m, ⟨o, es, ep, hc _ _ (fun q => ap.fa _ q N.cx.L) e, r⟩, fun i x b hi => (hl i x b hi).mono tu fun hb c hcc => ?_⟩
    subst hb
    obtain ⟨_, o', e', _⟩ := N.loc.cells x c (List.mem_of_getElem? hi) hcc
    exact (hc c o' (ap.cells x c (List.mem_of_getElem? hi) hcc) e').trans e'.symm
  · obtain ⟨h1, o', e', n⟩ := N.loc.cells x c hx hcc
    exact ⟨h1, o', hc c o' (ap.cells x c hx hcc) e', n⟩
  · have hw : a ∉ W := fun q => by rw [ap.new a q] at e; cases e
    exact hc a o hw (S.oth a o e hf1 hn hp)
  · have hw : a ∉ W := fun q => by rw [ap.new a q] at e; cases e
    obtain ⟨o', e'⟩ := S.stay a o e
    exact ⟨o', hc a o' hw e'⟩
structure Iter (prog : Program) (w : World) (B : Base) (target : Expr) (W : List Nat) (it : Nat) (G : Own → Prop) (P : List V → Heap → Prop) : Prop where
  pers : ∀ rest h h', P rest h → (∀ b ∈ W, ∀ o, h.get? b = some o → h'.get? b = some o) → Tups h h' → P rest h'
  live : ∀ rest h, P rest h → ∀ b ∈ W, ∃ o, h.get? b = some o ∧ ¬ Fixed o
  next : ∀ C own s v rest, NowC prog w B C own s → G own → (∀ b ∈ W, own b = none) → P (v :: rest) s.heap → ∀ (Q : Value → Shared → Prop) (E E' : Value → Shared → Prop),
    (∀ x h' tk, Chg W s.heap h' → P rest h' → VR h' v x → Q x { s with heap := h', toks := tk }) →
    wpAny (model prog w) C.A (pyNext (.ref it)) (fun r s1 => match r with | none => False | some x => wpAny (model prog w) C.A (letOwnedTupleGo target (.ref it) x) (fun _ s2 => Q x s2) E' s1) E s
  self : ∀ (C : Ct) (s : Shared) rest, P rest s.heap → ∀ (Q : Value → Shared → Prop) (E : Value → Shared → Prop), Q (.ref it) s → wpAny (model prog w) C.A (pyIter (.ref it)) Q E s
  fin : ∀ C own s, NowC prog w B C own s → G own → (∀ b ∈ W, own b = none) → P [] s.heap → ∀ (Q : Option Value → Shared → Prop) (E : Value → Shared → Prop), (∀ h', Chg W s.heap h' → Q none { s with heap := h' }) → wpAny (model prog w) C.A (pyNext (.ref it)) Q E s
noncomputable def TFL (prog : Program) (w : World) (B : Base) (d : Nat) (Γ : Fn) (G : Own → Prop) (target : Expr) (body : List Stmt) : List V → List (Option V) → Own → (Fl → List (Option V) → Own → Prop) → Prop
  | [], l, own, Q => G own ∧ Q .next l own
  | v :: rest, l, own, Q => G own ∧ TG prog w B d Γ target v l own (fun l₁ own₁ => TS prog w B d Γ body l₁ own₁ (fun f l₂ own₂ => match f with
    | .next | .cont => TFL prog w B d Γ G target body rest l₂ own₂ Q
    | .brk => Q .next l₂ own₂
    | .ret x => Q (.ret x) l₂ own₂))
theorem Apart.step {W : List Nat} (ap : Apart B Γ env FA W own s₀) (S : Stp B FA own own' s s') (hl : ∀ b ∈ W, ∃ o, s.heap.get? b = some o) : Apart B Γ env FA W own' s₀ := by
  refine ⟨ap.new, fun b hb => ?_, ap.fa, ap.p, ap.h0, ap.cells⟩
  cases q : own' b with
  | none => rfl
  | some o =>
    rcases S.new b (by rw [q]; rfl) with z | z
    · rw [ap.own b hb] at z; cases z
    · obtain ⟨o', e⟩ := hl b hb
      rw [z] at e; cases e
theorem Stp.keepW (S : Stp B FA own own' s s') {W : List Nat} (ap : Apart B Γ env FA W own s₀) : ∀ b ∈ W, ∀ o, s.heap.get? b = some o → s'.heap.get? b = some o := fun b hb o e =>
  S.oth b o e (ap.fa b hb) (ap.own b hb) (fun q => ap.p (q ▸ hb))
theorem forLoop_run {target : Expr} {body : List Stmt} {W : List Nat} {it : Nat} {G : Own → Prop} {P : List V → Heap → Prop} {Q : Fl → List (Option V) → Own → Prop} {R : Result → Shared → Prop}
    (I : Iter prog w B target W it G P)
    (hR : ∀ f x l' own' s', Q f l' own' → FR s'.heap f x → Now prog w B d Γ A env FA l' own' s' → Stp B FA own₀ own' s₀ s' → R (.ok x) s')
    {rest : List V} (N : Now prog w B d Γ A env FA l own s) (S : Stp B FA own₀ own s₀ s) (ap : Apart B Γ env FA W own s₀) (p : P rest s.heap) (h : TFL prog w B d Γ G target body rest l own Q) :
    codeAny (model prog w) A (.forLoop target (.ref it) body [] env) R s := by
  refine codeAny_forLoop_any (fun n s => ∃ rest l own, n = rest.length ∧ Now prog w B d Γ A env FA l own s ∧ Stp B FA own₀ own s₀ s ∧ Apart B Γ env FA W own s₀ ∧ P rest s.heap ∧ TFL prog w B d Γ G target body rest l own Q) (fun n s hI => ?_) rest.length ⟨rest, l, own, rfl, N, S, ap, p, h⟩
  obtain ⟨rest, l, own, rfl, N, S, ap, p, h⟩ := hI
  cases rest with
  | nil =>
    obtain ⟨g, q⟩ := h
    refine I.fin ⟨d, Γ, A, env, FA, l⟩ own s N g ap.own p _ _ fun h' hc => ?_
    obtain ⟨N1, S1, _⟩ := N.chg S ap (tk := s.toks) hc (I.live _ _ p)
    exact wpAny_execs_nil (hR .next .next l own _ q rfl N1 S1)
  | cons v rest =>
    obtain ⟨g, q⟩ := h
    refine wpAny_mono (I.next ⟨d, Γ, A, env, FA, l⟩ own s v rest N g ap.own p (fun x s2 => wpAny (model prog w) A (assign target env x) (fun _ s₂ => wpAny (model prog w) A (execs body env) (fun f s₃ => match f with
            | .next | .cont => ∃ m, m < (v :: rest).length ∧ ∃ rest l own, m = rest.length ∧ Now prog w B d Γ A env FA l own s₃ ∧ Stp B FA own₀ own s₀ s₃ ∧ Apart B Γ env FA W own s₀ ∧ P rest s₃.heap ∧ TFL prog w B d Γ G target body rest l own Q
            | .brk => R (.ok .next) s₃
            | .ret v => R (.ok (.ret v)) s₃) (notedBy (model prog w) A env fun e s' => R (.error e) s') s₂) (notedBy (model prog w) A env fun e s' => R (.error e) s') s2) _ (notedBy (model prog w) A env fun e s' => R (.error e) s') ?_) (fun r s1 k => ?_) fun _ _ z => z
    · intro x h' tk hc p' rx
      obtain ⟨N1, S1, tu⟩ := N.chg S ap (tk := tk) hc (I.live _ _ p)
      refine q A env FA _ N1 x rx _ _ fun l2 o2 s2 q2 N2 S2 => ?_
      have lv2 : ∀ b ∈ W, ∃ o, h'.get? b = some o := fun b hb => by obtain ⟨o, e, _⟩ := I.live _ _ p' b hb; exact ⟨o, e⟩
      have ap2 := ap.step S2 lv2
      have p2 : P rest s2.heap := I.pers _ _ _ p' (S2.keepW ap) (N1.tups S2)
      refine q2 A env FA s2 N2 _ _ fun f fx l3 o3 s3 q3 r3 N3 S3 => ?_
      have ap3 := ap2.step S3 (fun b hb => by obtain ⟨o, e, _⟩ := I.live _ _ p2 b hb; exact ⟨o, e⟩)
      have p3 : P rest s3.heap := I.pers _ _ _ p2 (S3.keepW ap2) (N2.tups S3)
      have S03 := (S1.trans S2).trans S3
      cases f with
      | next => cases r3; exact ⟨rest.length, Nat.lt_succ_self _, rest, l3, o3, rfl, N3, S03, ap3, p3, q3⟩
      | cont => cases r3; exact ⟨rest.length, Nat.lt_succ_self _, rest, l3, o3, rfl, N3, S03, ap3, p3, q3⟩
      | brk => cases r3; exact hR .next .next _ _ _ q3 rfl N3 S03
      | ret u => obtain ⟨y, rfl, r⟩ := r3; exact hR (.ret u) _ _ _ _ q3 ⟨y, rfl, r⟩ N3 S03
    · cases r with
      | none => exact k.elim
      | some x => exact k
noncomputable def TI (prog : Program) (w : World) (B : Base) (d : Nat) (Γ : Fn) (target iter : Expr) (l : List (Option V)) (own : Own) (Q : (Own → Prop) → List V → Own → Prop) : Prop :=
  ∀ A env FA s, NowC prog w B ⟨d, Γ, A, env, FA, l⟩ own s → ∀ (Q' E : Value → Shared → Prop),
    (∀ G vs own₁ s₁ s₂ it W P, Q G vs own₁ → NowC prog w B ⟨d, Γ, A, env, FA, l⟩ own₁ s₁ → Stp B FA own own₁ s s₁ → Iter prog w B target W it G P → NowC prog w B ⟨d, Γ, A, env, FA, l⟩ own₁ s₂ → Ext s₁.heap s₂.heap → Apart B Γ env FA W own₁ s₁ → P vs s₂.heap → Q' (.ref it) s₂) →
    wpAny (model prog w) A (eval iter env) (fun x s₁ => wpAny (model prog w) A (pyIter x) Q' E s₁) E s
theorem Ext.stp (x : Ext s.heap s'.heap) : Stp B FA own own s s' := ⟨fun b o e _ _ _ => x.keep b o e, fun _ h => .inl h, fun b o e => ⟨o, x.keep b o e⟩⟩
theorem TX.for_ {target iter : Expr} {body : List Stmt} {pos : Pos} {Q : Fl → List (Option V) → Own → Prop} (hs : ∀ env x, foldedSetIterable iter env x = pure x)
    (h : TI prog w B d Γ target iter l own (fun G vs own₁ => TFL prog w B d Γ G target body vs l own₁ Q)) : TX prog w B d Γ (.For target iter body [] pos) l own Q := by
  intro A env FA s N Q' E p
  refine wpAny_For (h A env FA s N _ E fun G vs own₁ s₁ s₂ it W P q N1 S1 I N2 S2 ap pp => ?_) (hs env)
  exact forLoop_run I (fun f x l' own' s' q' r' N' S' => p f x l' own' s' q' r' N' (S1.trans S')) N2 S2.stp ap pp q
theorem letGo_other {target : Expr} {it : Nat} {o : Obj} {T : String} {x : Value} {Q : Unit → Shared → Prop} {E : Value → Shared → Prop} (ho : s.heap.get? it = some o) (hc : o.cls = .type T)
    (hT : (["enumerate", "zip", "dict_itemiterator", "dict_reverseitemiterator", "odict_iterator", "itertools.zip_longest", "itertools.pairwise"].contains T) = false) (h : Q () s) : wpAny (model prog w) A (letOwnedTupleGo target (.ref it) x) Q E s := by
  unfold letOwnedTupleGo
  split
  · cases x with
    | ref a =>
      refine wpAny_bind (wpAny_load ho ?_)
      obtain ⟨c, dd, dt, sl⟩ := o
      dsimp only at hc
      subst hc
      dsimp only
      cases dt with
      | fields vs =>
        dsimp only
        rw [if_neg (by rw [hT, Bool.false_and]; exact Bool.false_ne_true)]
        exact wpAny_pure h
      | _ => exact wpAny_pure h
    | _ => exact wpAny_pure h
  · cases x with
    | ref a =>
      refine wpAny_bind (wpAny_load ho ?_)
      obtain ⟨c, dd, dt, sl⟩ := o
      dsimp only at hc
      subst hc
      dsimp only
      cases dt with
      | fields vs =>
        dsimp only
        rw [if_neg (by rw [hT, Bool.false_and]; exact Bool.false_ne_true)]
        exact wpAny_pure h
      | _ => exact wpAny_pure h
    | _ => exact wpAny_pure h
  · exact wpAny_pure h
theorem notFixed_fields {o : Obj} {T : String} {vs : Array Value} (hc : o.cls = .type T) (hT : T ≠ "tuple") (hT2 : T ≠ "code") : ¬ Fixed o := fun q => by
  rcases q.cls with q | q <;> rw [hc] at q <;> simp at q
  · exact hT q
  · exact hT2 q
noncomputable def LIt (it a : Nat) (vs rest : List V) (h : Heap) : Prop := ∃ i : Nat, h.IsListIter it a i ∧ rest = vs.drop i
theorem iter_list {target : Expr} {it a : Nat} {vs : List V} : Iter prog w B target [it] it (fun o => o a = some (.list vs)) (LIt it a vs) := by
  refine ⟨fun rest h h' p k tu => ?_, fun rest h p b hb => ?_, fun C own s v rest N g ap p Q E E' hQ => ?_, fun C s rest p Q E h => by obtain ⟨i, p, _⟩ := p; exact wpAny_pyIter_listiter p h, fun C own s N g ap p Q E hQ => ?_⟩
  · obtain ⟨i, p, e⟩ := p
    exact ⟨i, p.at (k it (List.mem_singleton_self _)), e⟩
  · obtain ⟨i, ⟨o, ho, hc, hd⟩, e⟩ := p
    rw [List.mem_singleton] at hb; subst hb
    exact ⟨o, ho, notFixed_fields (vs := #[]) hc (by decide) (by decide)⟩
  · obtain ⟨i, p, e⟩ := p
    obtain ⟨its, n, ea, il, r⟩ := (N.st.obj a _ g).1.isList
    have hv : vs[i]? = some v := by
      have := congrArg List.head? e
      rw [List.head?_drop] at this
      simpa using this.symm
    obtain ⟨x, ex, rx⟩ := r.atA hv
    refine wpAny_pyNext_list_item p il ex fun h' p' hs => ?_
    have hc : Chg [it] s.heap h' := Chg.of_but hs.extBut (List.mem_singleton_self _)
    have tu : Tups s.heap h' := fun b o eb hx => hc b o (fun q => by
      rw [List.mem_singleton] at q; subst q
      obtain ⟨o', ho, hc', _⟩ := p
      rw [ho] at eb; cases eb
      exact notFixed_fields (vs := #[]) hc' (by decide) (by decide) hx) eb
    obtain ⟨o', ho', hc', _⟩ := id p'
    refine letGo_other (s := { s with heap := h' }) ho' hc' (by decide) (hQ x h' s.toks hc ⟨i + 1, p', ?_⟩ (rx.mono tu))
    rw [← List.drop_drop, ← e]; rfl
  · obtain ⟨i, p, e⟩ := p
    obtain ⟨its, n, ea, il, r⟩ := (N.st.obj a _ g).1.isList
    have hi : its.size ≤ i := by
      rw [VRs.size r]
      exact List.drop_eq_nil_iff.mp e.symm
    exact wpAny_pyNext_list_end N.bud.hd p il (Array.getElem?_eq_none hi) fun h' he => hQ h' (Chg.of_but he (List.mem_singleton_self _))
noncomputable def TIt (it : Nat) (vs rest : List V) (h : Heap) : Prop := ∃ (i a : Nat) (its : Array Value), h.get? a = some { cls := .type "tuple", data := .seq its } ∧ VRs h vs its.toList ∧ h.IsTupleIter it a i ∧ rest = vs.drop i
theorem iter_tup {target : Expr} {it : Nat} {vs : List V} : Iter prog w B target [it] it (fun _ => True) (TIt it vs) := by
  refine ⟨fun rest h h' p k tu => ?_, fun rest h p b hb => ?_, fun C own s v rest N g ap p Q E E' hQ => ?_, fun C s rest p Q E h => by obtain ⟨i, a, its, _, _, p, _⟩ := p; exact wpAny_pyIter_tupleiter p h, fun C own s N g ap p Q E hQ => ?_⟩
  · obtain ⟨i, a, its, e1, r, ⟨o, ho, hh⟩, e⟩ := p
    exact ⟨i, a, its, tu _ _ e1 (.inl ⟨rfl, _, _, rfl⟩), r.mono tu, ⟨o, k it (List.mem_singleton_self _) o ho, hh⟩, e⟩
  · obtain ⟨i, a, its, e1, r, ⟨o, ho, hc, hd⟩, e⟩ := p
    rw [List.mem_singleton] at hb; subst hb
    exact ⟨o, ho, notFixed_fields (vs := #[]) hc (by decide) (by decide)⟩
  · obtain ⟨i, a, its, e1, r, p, e⟩ := p
    have hv : vs[i]? = some v := by
      have := congrArg List.head? e
      rw [List.head?_drop] at this
      simpa using this.symm
    obtain ⟨x, ex, rx⟩ := r.atA hv
    refine wpAny_pyNext_tuple_item p ⟨_, e1, rfl, _, rfl⟩ ex fun h' p' hs => ?_
    have hc : Chg [it] s.heap h' := Chg.of_but hs.extBut (List.mem_singleton_self _)
    have tu : Tups s.heap h' := fun b o eb hx => hc b o (fun q => by
      rw [List.mem_singleton] at q; subst q
      obtain ⟨o', ho, hc', _⟩ := p
      rw [ho] at eb; cases eb
      exact notFixed_fields (vs := #[]) hc' (by decide) (by decide) hx) eb
    obtain ⟨o', ho', hc', _⟩ := id p'
    refine letGo_other (s := { s with heap := h' }) ho' hc' (by decide) (hQ x h' s.toks hc ⟨i + 1, a, its, tu _ _ e1 (.inl ⟨rfl, _, _, rfl⟩), r.mono tu, p', ?_⟩ (rx.mono tu))
    rw [← List.drop_drop, ← e]; rfl
  · obtain ⟨i, a, its, e1, r, p, e⟩ := p
    have hi : its.size ≤ i := by
      rw [VRs.size r]
      exact List.drop_eq_nil_iff.mp e.symm
    exact wpAny_pyNext_tuple_end N.bud.hd p ⟨_, e1, rfl, _, rfl⟩ (Array.getElem?_eq_none hi) fun h' he => hQ h' (Chg.of_but he (List.mem_singleton_self _))
theorem KVs.get {K K' : Type} {f : K → K'} {h : Heap} : ∀ {kvs : List (K × V)} {es : List (K' × Value)}, KVs f h kvs es → ∀ (i : Nat) k v, kvs[i]? = some (k, v) → ∃ x, es[i]? = some (f k, x)
  | [], _, _, i, k, v, h => by simp at h
  | (k', v') :: kvs, _, e, i, k, v, h => by
    simp only [KVs] at e
    obtain ⟨x, t, rfl, _, h2⟩ := e
    cases i with
    | zero => simp at h; obtain ⟨rfl, rfl⟩ := h; exact ⟨x, by simp⟩
    | succ i => simp at h; simpa using KVs.get h2 i k v h
noncomputable def DIt (it a ep : Nat) (kvs : List (Int × V)) (rest : List V) (h : Heap) : Prop := ∃ i : Nat, h.IsKeyIter it a i kvs.length ep ∧ rest = (kvs.map fun q => V.int q.1).drop i
theorem iter_dicti {target : Expr} {it a ep : Nat} {kvs : List (Int × V)} : Iter prog w B target [it] it (fun o => o a = some (.dicti ep kvs)) (DIt it a ep kvs) := by
  refine ⟨fun rest h h' p k tu => ?_, fun rest h p b hb => ?_, fun C own s v rest N g ap p Q E E' hQ => ?_, fun C s rest p Q E h => by obtain ⟨i, p, _⟩ := p; exact wpAny_pyIter_keyiter p h, fun C own s N g ap p Q E hQ => ?_⟩
  · obtain ⟨i, p, e⟩ := p
    exact ⟨i, p.at (k it (List.mem_singleton_self _)), e⟩
  · obtain ⟨i, ⟨o, ho, hc, hd⟩, e⟩ := p
    rw [List.mem_singleton] at hb; subst hb
    exact ⟨o, ho, notFixed_fields (vs := #[]) hc (by decide) (by decide)⟩
  · obtain ⟨i, p, e⟩ := p
    obtain ⟨xs, hd, r⟩ := (N.st.obj a _ g).1
    have hv : (kvs.map fun q => V.int q.1)[i]? = some v := by
      have := congrArg List.head? e
      rw [List.head?_drop] at this
      simpa using this.symm
    rw [List.getElem?_map] at hv
    obtain ⟨⟨k, u⟩, hk, rfl⟩ := Option.map_eq_some_iff.mp hv
    obtain ⟨x, ex⟩ := r.get i k u hk
    refine wpAny_pyNext_dict_item (by rw [r.length]; exact p) hd ex fun key h' hkey p' hs => ?_
    obtain ⟨t, rfl⟩ := Value.isInt_shape hkey
    have hc : Chg [it] s.heap h' := Chg.of_but hs.extBut (List.mem_singleton_self _)
    obtain ⟨o', ho', hc', _⟩ := id p'
    refine letGo_other (s := { s with heap := h' }) ho' hc' (by decide) (hQ _ h' s.toks hc ⟨i + 1, by rw [r.length] at p'; exact p', ?_⟩ ⟨t, rfl⟩)
    rw [← List.drop_drop, ← e]; rfl
  · obtain ⟨i, p, e⟩ := p
    obtain ⟨xs, hd, r⟩ := (N.st.obj a _ g).1
    have hi : xs.length ≤ i := by
      rw [r.length]
      have := List.drop_eq_nil_iff.mp e.symm
      rwa [List.length_map] at this
    exact wpAny_pyNext_dict_end N.bud.hd (by rw [r.length]; exact p) hd (List.getElem?_eq_none hi) fun h' he => hQ h' (Chg.of_but he (List.mem_singleton_self _))
theorem one_none {h : Heap} {it : Nat} (e : h.get? it = none) : ∀ b ∈ [it], h.get? b = none := fun b hb => by rw [List.mem_singleton] at hb; subst hb; exact e
theorem TI.list {target iter : Expr} {Q : (Own → Prop) → List V → Own → Prop} (h : TE prog w B d Γ iter l own (fun x own₁ => ∃ a vs, x = .obj a ∧ own₁ a = some (.list vs) ∧ Q (fun o => o a = some (.list vs)) vs own₁)) : TI prog w B d Γ target iter l own Q := by
  intro A env FA s N Q' E p
  refine h A env FA s N _ E fun v x o1 s1 q1 r1 N1 S1 => ?_
  obtain ⟨a, vs, rfl, ho, q⟩ := q1
  simp only [VR] at r1; subst r1
  obtain ⟨its, n, ea, il, r⟩ := (N1.st.obj a _ ho).1.isList
  refine wpAny_pyIter_list il ?_
  have X := (Ext.push s1.heap { cls := .type "list_iterator", data := .fields #[.ref a, .int 0 0] })
  exact p _ vs o1 s1 _ _ [_] _ q N1 S1 iter_list (N1.ext (tk := s1.toks) X).1 X (Apart.of N1 (one_none (top _))) ⟨0, ⟨_, Heap.get?_push_size _ rfl, rfl, rfl⟩, rfl⟩
theorem TI.tup {target iter : Expr} {Q : (Own → Prop) → List V → Own → Prop} (h : TE prog w B d Γ iter l own (fun x own₁ => ∃ vs, x = .tup vs ∧ Q (fun _ => True) vs own₁)) : TI prog w B d Γ target iter l own Q := by
  intro A env FA s N Q' E p
  refine h A env FA s N _ E fun v x o1 s1 q1 r1 N1 S1 => ?_
  obtain ⟨vs, rfl, q⟩ := q1
  obtain ⟨a, its, rfl, it, r, e⟩ := r1.tupIs
  refine wpAny_pyIter_tuple it ?_
  have X := Ext.push s1.heap { cls := .type "tuple_iterator", data := .fields #[.ref a, .int 0 0] }
  obtain ⟨N2, S2⟩ := N1.ext (tk := s1.toks) X
  exact p _ vs o1 s1 _ _ [_] _ q N1 S1 iter_tup N2 X (Apart.of N1 (one_none (top _))) ⟨0, a, its, X.keep _ _ e, r.mono X.tups, ⟨_, Heap.get?_push_size _ rfl, rfl, rfl⟩, rfl⟩
theorem TI.dicti {target iter : Expr} {Q : (Own → Prop) → List V → Own → Prop} (h : TE prog w B d Γ iter l own (fun x own₁ => ∃ a ep kvs, x = .obj a ∧ own₁ a = some (.dicti ep kvs) ∧ Q (fun o => o a = some (.dicti ep kvs)) (kvs.map fun q => V.int q.1) own₁)) : TI prog w B d Γ target iter l own Q := by
  intro A env FA s N Q' E p
  refine h A env FA s N _ E fun v x o1 s1 q1 r1 N1 S1 => ?_
  obtain ⟨a, ep, kvs, rfl, ho, q⟩ := q1
  simp only [VR] at r1; subst r1
  obtain ⟨xs, hd, r⟩ := (N1.st.obj a _ ho).1
  refine wpAny_pyIter_dict (N1.hi_ne ho) hd ?_
  rw [r.length]
  have X := (Ext.push s1.heap { cls := .type "dict_keyiterator", data := .fields #[.ref a, .int 0 0, .int kvs.length 0, .int ep 0] })
  exact p _ _ o1 s1 _ _ [_] _ q N1 S1 iter_dicti (N1.ext (tk := s1.toks) X).1 X (Apart.of N1 (one_none (top _))) ⟨0, ⟨_, Heap.get?_push_size _ rfl, rfl, rfl⟩, rfl⟩
end
end Lw.Internal
namespace Lw.Internal
section
variable {prog : Program} {w : World} {B : Base} {d : Nat} {Γ : Fn} {A : Around} {env : Env} {FA : List Nat} {l l₀ l' : List (Option V)} {own own₀ own' own'' : Own} {s s₀ s' s'' : Shared} {C : Ct} {E : Value → Shared → Prop}
noncomputable def RawD (h : Heap) (a : Nat) (es : Array DictEntry) (ep : Nat) : Prop := ∃ o, h.get? a = some o ∧ o.ExactDict ∧ o.data = .dict es ep
theorem raw_iter {a ep : Nat} {es : Array DictEntry} {Q : Value → Shared → Prop} (hd : (a == sysModules) = false) (hm : RawD s.heap a es ep)
    (hQ : Q (.ref s.heap.objs.size) { s with heap := s.heap.push { cls := .type "dict_keyiterator", data := .fields #[.ref a, .int 0 0, .int es.size 0, .int ep 0] } }) :
    wpAny (model prog w) A (pyIter (.ref a)) Q E s := by
  obtain ⟨o, ho, hc, hdat⟩ := hm
  have hT : s.TypeIs (.ref a) "dict" := ⟨o, ho, hc.1⟩
  refine wpAny_pyIter_slot hT PySem.F.slot_dict_iter (wpAny_call_entry PySem.F.slot_dict_iter hT PySem.F.entry_dict_iter ?_ (PySem.F.args_dict_iter_1 _))
  unfold Builtin.«dict.__iter__» Builtin.Dict.dictSlotNone
  refine wpAny_bind (wpAny_bind (wpAny_notOrdered_dict hT ?_))
  refine wpAny_pure (a := Value.ref a) ?_
  show wpAny _ _ (Builtin.Dict.showsAll a >>= _) _ _ s
  unfold Builtin.Dict.showsAll
  rw [if_neg (by rw [hd]; exact Bool.false_ne_true)]
  refine wpAny_bind (wpAny_pure (wpAny_bind (wpAny_dictEntries ho hdat (wpAny_bind (wpAny_dictEpoch ho hdat ?_)))))
  exact wpAny_bind (wpAny_newObj_type (wpAny_pure ⟨_, rfl, "dict_keyiterator", _, ⟨_, Heap.get?_push_size _ rfl, rfl⟩, PySem.F.slot_dict_keyiterator_next.lookup, hQ⟩))
theorem raw_next {it a i ep : Nat} {es : Array DictEntry} {e : DictEntry} {Q : Option Value → Shared → Prop} (hit : s.heap.IsKeyIter it a i es.size ep) (hm : RawD s.heap a es ep) (hx : es[i]? = some e)
    (hQ : ∀ h', h'.IsKeyIter it a (i + 1) es.size ep → Heap.SameBut it s.heap h' → Q (some e.key) { s with heap := h' }) :
    wpAny (model prog w) A (pyNext (.ref it)) Q E s := by
  obtain ⟨o, ho, hc, hd⟩ := id hit
  obtain ⟨od, hod, hcd, hdd⟩ := hm
  unfold pyNext
  refine wpAny_bind (wpAny_attempt (wpAny_callSpecial?_slot (name := Str.ofString "__next__") hit.typeIs PySem.F.slot_dict_keyiterator_next
    (wpAny_call_entry PySem.F.slot_dict_keyiterator_next hit.typeIs PySem.F.entry_dict_keyiterator_next ?_ (PySem.F.args_dict_keyiterator_next_1 _))))
  refine wpAny_bind (wpAny_pure (wpAny_bind (wpAny_bind ?_)))
  first | refine wpAny_bind (wpAny_typeNameOfWhole_keyiter hit.typeIs (wpAny_pure ?_)) | refine wpAny_bind (wpAny_typeNameOf_keyiter hit.typeIs (wpAny_pure ?_))
  refine wpAny_bind (wpAny_fieldsOf ho hd ?_)
  have hown : Builtin.Dict_items.ownsTuple "dict_keyiterator" = false := by decide
  simp only [hown, Bool.false_eq_true, if_false]
  show wpAny _ _ (if (Value.ref a == Value.none) = true then _ else _) _ _ s
  rw [if_neg (show ¬ ((Value.ref a == Value.none) = true) from Bool.false_ne_true)]
  refine wpAny_bind (wpAny_pure (wpAny_bind (wpAny_dictEntries hod hdd ?_)))
  rw [if_neg (by simp)]
  refine wpAny_bind (wpAny_pure (wpAny_bind (wpAny_dictEpoch hod hdd ?_)))
  rw [if_neg (by simp)]
  refine wpAny_pure ?_
  have hlt' : i < es.size := (Array.getElem?_eq_some_iff.mp hx).1
  have hel : es[i] = e := (Array.getElem?_eq_some_iff.mp hx).2
  simp only [show ¬ ((i : Int) < 0) from by omega, if_false, Int.toNat_natCast, hx]
  refine wpAny_bind ?_
  first | refine wpAny_bind (wpAny_typeNameOfWhole_keyiter hit.typeIs (wpAny_pure ?_)) | refine wpAny_bind (wpAny_typeNameOf_keyiter hit.typeIs (wpAny_pure ?_))
  refine wpAny_bind (wpAny_isOneOf_keyiter hit.typeIs ?_)
  show wpAny _ _ (setField (.ref it) 1 (rawInt ((i : Int) + 1)) >>= _) _ _ s
  refine wpAny_bind (wpAny_setField ho hd (by simp) ?_)
  have hit' : (s.heap.update it (Obj.mapFields (·.setIfInBounds 1 (rawInt ((i : Int) + 1))))).IsKeyIter it a (i + 1) es.size ep :=
    ⟨_, Heap.get?_update_self _ ho (Obj.isFreed_of_fields (Obj.data_mapFields hd _)), (Obj.cls_mapFields ..).trans hc, by rw [Obj.data_mapFields hd]; simp [rawInt]⟩
  refine wpAny_bind (wpAny_holding ?_)
  refine wpAny_bind (wpAny_isOneOf_keyiter (s := { s with heap := s.heap.update it (Obj.mapFields (·.setIfInBounds 1 (rawInt ((i : Int) + 1)))) }) hit'.typeIs ?_)
  show wpAny _ _ (pure e.key) _ _ _
  exact wpAny_pure (wpAny_pure ⟨_, rfl, wpAny_pure (hQ _ hit' (Heap.SameBut.update ..))⟩)
theorem raw_end {it a i ep : Nat} {es : Array DictEntry} {Q : Option Value → Shared → Prop} (hh : A.handled = none) (hit : s.heap.IsKeyIter it a i es.size ep) (hm : RawD s.heap a es ep) (hge : es.size ≤ i)
    (hQ : ∀ h', Heap.ExtBut it s.heap h' → Q none { s with heap := h' }) : wpAny (model prog w) A (pyNext (.ref it)) Q E s := by
  obtain ⟨o, ho, hc, hd⟩ := id hit
  obtain ⟨od, hod, hcd, hdd⟩ := hm
  unfold pyNext
  refine wpAny_bind (wpAny_attempt (wpAny_callSpecial?_slot (name := Str.ofString "__next__") hit.typeIs PySem.F.slot_dict_keyiterator_next
    (wpAny_call_entry PySem.F.slot_dict_keyiterator_next hit.typeIs PySem.F.entry_dict_keyiterator_next ?_ (PySem.F.args_dict_keyiterator_next_1 _))))
  refine wpAny_bind (wpAny_pure (wpAny_bind (wpAny_bind ?_)))
  first | refine wpAny_bind (wpAny_typeNameOfWhole_keyiter hit.typeIs (wpAny_pure ?_)) | refine wpAny_bind (wpAny_typeNameOf_keyiter hit.typeIs (wpAny_pure ?_))
  refine wpAny_bind (wpAny_fieldsOf ho hd ?_)
  have hown : Builtin.Dict_items.ownsTuple "dict_keyiterator" = false := by decide
  simp only [hown, Bool.false_eq_true, if_false]
  show wpAny _ _ (if (Value.ref a == Value.none) = true then _ else _) _ _ s
  rw [if_neg (show ¬ ((Value.ref a == Value.none) = true) from Bool.false_ne_true)]
  refine wpAny_bind (wpAny_pure (wpAny_bind (wpAny_dictEntries hod hdd ?_)))
  rw [if_neg (by simp)]
  refine wpAny_bind (wpAny_pure (wpAny_bind (wpAny_dictEpoch hod hdd ?_)))
  rw [if_neg (by simp)]
  refine wpAny_pure ?_
  simp only [show ¬ ((i : Int) < 0) from by omega, if_false, Int.toNat_natCast, Array.getElem?_eq_none hge]
  refine wpAny_bind ?_
  first | refine wpAny_bind (wpAny_typeNameOfWhole_keyiter hit.typeIs (wpAny_pure ?_)) | refine wpAny_bind (wpAny_typeNameOf_keyiter hit.typeIs (wpAny_pure ?_))
  show wpAny _ _ (setField (.ref it) 0 .none >>= _) _ _ s
  refine wpAny_bind (wpAny_setField ho hd (by simp) ?_)
  show wpAny _ _ (newExc (.type "StopIteration") [] >>= _) _ _ _
  refine wpAny_bind ?_
  simp -iota only [newExc, newTuple]
  refine wpAny_bind (wpAny_newObj_type ?_ (by size_fits))
  refine wpAny_bind (m := firstArgMember _ _) (wpAny_of_eq (a := Value.none) (by first | rfl | (simp only [firstArgMember]; rfl)) ?_)
  refine wpAny_newObj_type ?_ (by size_fits)
  simp -iota only [raiseNew]
  refine wpAny_bind (wpAny_handled ?_)
  rw [show A.in1.handled = none from hh]
  refine wpAny_bind (wpAny_pure (wpAny_throw ?_))
  refine wpAny_bind (wpAny_isInstance (T := "StopIteration") (b := true) ⟨_, Heap.get?_push_size _ rfl, rfl⟩ isSubtype_stop ?_)
  exact wpAny_pure (hQ _ (((Heap.SameBut.update ..).extBut.push _).push _))
theorem KVt.length {h : Heap} : ∀ {kvs : List (List Int × V)} {es : List (List Int × Addr × Value)}, KVt h kvs es → es.length = kvs.length
  | [], _, e => by simp only [KVt] at e; subst e; rfl
  | (_, _) :: _, _, e => by
    simp only [KVt] at e
    obtain ⟨_, _, t, rfl, _, h2⟩ := e
    rw [List.length_cons, List.length_cons, KVt.length h2]
theorem KVt.get {h : Heap} : ∀ {kvs : List (List Int × V)} {es : List (List Int × Addr × Value)}, KVt h kvs es → ∀ (i : Nat) k v, kvs[i]? = some (k, v) → ∃ a x, es[i]? = some (k, a, x)
  | [], _, _, i, k, v, h => by simp at h
  | (k', v') :: kvs, _, e, i, k, v, h => by
    simp only [KVt] at e
    obtain ⟨a, x, t, rfl, _, h2⟩ := e
    cases i with
    | zero => simp at h; obtain ⟨rfl, rfl⟩ := h; exact ⟨a, x, by simp⟩
    | succ i => simp at h; simpa using KVt.get h2 i k v h
noncomputable def DtIt (it a ep : Nat) (kvs : List (List Int × V)) (rest : List V) (h : Heap) : Prop := ∃ i : Nat, h.IsKeyIter it a i kvs.length ep ∧ rest = (kvs.map fun q => V.tup (q.1.map V.int)).drop i
theorem DictT.raw {h : Heap} {a ep : Nat} {xs : List (List Int × Addr × Value)} (x : DictT prog w h a ep xs) : ∃ es, RawD h a es ep ∧ es.toList = xs.map (entryOfKey (tupleKind (intKind prog w))) ∧ ∀ x ∈ xs, VR h (.tup (x.1.map V.int)) (.ref x.2.1) := by
  obtain ⟨o, es, e1, e2, e3, e4, e5, e6⟩ := x
  exact ⟨es, ⟨o, e1, e2, e3⟩, e4, e5⟩
theorem iter_dictt {target : Expr} {it a ep : Nat} {kvs : List (List Int × V)} : Iter prog w B target [it] it (fun o => o a = some (.dictt ep kvs)) (DtIt it a ep kvs) := by
  refine ⟨fun rest h h' p k tu => ?_, fun rest h p b hb => ?_, fun C own s v rest N g ap p Q E E' hQ => ?_, fun C s rest p Q E h => by obtain ⟨i, p, _⟩ := p; exact wpAny_pyIter_keyiter p h, fun C own s N g ap p Q E hQ => ?_⟩
  · obtain ⟨i, p, e⟩ := p
    exact ⟨i, p.at (k it (List.mem_singleton_self _)), e⟩
  · obtain ⟨i, ⟨o, ho, hc, hd⟩, e⟩ := p
    rw [List.mem_singleton] at hb; subst hb
    exact ⟨o, ho, notFixed_fields (vs := #[]) hc (by decide) (by decide)⟩
  · obtain ⟨i, p, e⟩ := p
    obtain ⟨xs, hd, r⟩ := (N.st.obj a _ g).1
    obtain ⟨es, hr, he, hk⟩ := hd.raw
    have hsz : es.size = kvs.length := by rw [← Array.length_toList, he, List.length_map, r.length]
    have hv : (kvs.map fun q => V.tup (q.1.map V.int))[i]? = some v := by
      have := congrArg List.head? e
      rw [List.head?_drop] at this
      simpa using this.symm
    rw [List.getElem?_map] at hv
    obtain ⟨⟨k, u⟩, hkv, rfl⟩ := Option.map_eq_some_iff.mp hv
    obtain ⟨ka, x, ex⟩ := r.get i k u hkv
    have hes : es[i]? = some (entryOfKey (tupleKind (intKind prog w)) (k, ka, x)) := by
      rw [← Array.getElem?_toList, he, List.getElem?_map, ex]; rfl
    have rk := hk _ (List.mem_of_getElem? ex)
    refine raw_next (by rw [hsz]; exact p) hr hes fun h' p' hs => ?_
    have hc : Chg [it] s.heap h' := Chg.of_but hs.extBut (List.mem_singleton_self _)
    have tu : Tups s.heap h' := fun b o eb hx => hc b o (fun q => by
      rw [List.mem_singleton] at q; subst q
      obtain ⟨o', ho, hc', _⟩ := p
      rw [ho] at eb; cases eb
      exact notFixed_fields (vs := #[]) hc' (by decide) (by decide) hx) eb
    obtain ⟨o', ho', hc', _⟩ := id p'
    refine letGo_other (s := { s with heap := h' }) ho' hc' (by decide) (hQ _ h' s.toks hc ⟨i + 1, by rw [hsz] at p'; exact p', ?_⟩ (rk.mono tu))
    rw [← List.drop_drop, ← e]; rfl
  · obtain ⟨i, p, e⟩ := p
    obtain ⟨xs, hd, r⟩ := (N.st.obj a _ g).1
    obtain ⟨es, hr, he, hk⟩ := hd.raw
    have hsz : es.size = kvs.length := by rw [← Array.length_toList, he, List.length_map, r.length]
    have hi : es.size ≤ i := by
      rw [hsz]
      have := List.drop_eq_nil_iff.mp e.symm
      rwa [List.length_map] at this
    exact raw_end N.bud.hd (by rw [hsz]; exact p) hr hi fun h' he => hQ h' (Chg.of_but he (List.mem_singleton_self _))
theorem TI.dictt {target iter : Expr} {Q : (Own → Prop) → List V → Own → Prop} (h : TE prog w B d Γ iter l own (fun x own₁ => ∃ a ep kvs, x = .obj a ∧ own₁ a = some (.dictt ep kvs) ∧ Q (fun o => o a = some (.dictt ep kvs)) (kvs.map fun q => V.tup (q.1.map V.int)) own₁)) : TI prog w B d Γ target iter l own Q := by
  intro A env FA s N Q' E p
  refine h A env FA s N _ E fun v x o1 s1 q1 r1 N1 S1 => ?_
  obtain ⟨a, ep, kvs, rfl, ho, q⟩ := q1
  simp only [VR] at r1; subst r1
  obtain ⟨xs, hd, r⟩ := (N1.st.obj a _ ho).1
  obtain ⟨es, hr, he, hk⟩ := hd.raw
  have hsz : es.size = kvs.length := by rw [← Array.length_toList, he, List.length_map, r.length]
  refine raw_iter (N1.hi_ne ho) hr ?_
  rw [hsz]
  have X := (Ext.push s1.heap { cls := .type "dict_keyiterator", data := .fields #[.ref a, .int 0 0, .int kvs.length 0, .int ep 0] })
  exact p _ _ o1 s1 _ _ [_] _ q N1 S1 iter_dictt (N1.ext (tk := s1.toks) X).1 X (Apart.of N1 (one_none (top _))) ⟨0, ⟨_, Heap.get?_push_size _ rfl, rfl, rfl⟩, rfl⟩
noncomputable def RIt (it : Nat) (rest : List V) (h : Heap) : Prop := ∃ (x : Int), IsRangeIter h it x rest.length 1 ∧ rest = (List.range rest.length).map fun (i : Nat) => V.int (x + i)
theorem iter_range {target : Expr} {it : Nat} : Iter prog w B target [it] it (fun _ => True) (RIt it) := by
  refine ⟨fun rest h h' p k tu => ?_, fun rest h p b hb => ?_, fun C own s v rest N g ap p Q E E' hQ => ?_, fun C s rest p Q E h => by obtain ⟨i, p, _⟩ := p; exact wpAny_pyIter_rangeiter p h, fun C own s N g ap p Q E hQ => ?_⟩
  · obtain ⟨x, p, e⟩ := p
    exact ⟨x, k it (List.mem_singleton_self _) _ p, e⟩
  · obtain ⟨x, p, e⟩ := p
    rw [List.mem_singleton] at hb; subst hb
    exact ⟨_, p, notFixed_fields (vs := #[]) rfl (by decide) (by decide)⟩
  · obtain ⟨x, p, e⟩ := p
    rw [List.length_cons, List.range_succ_eq_map] at e
    simp only [List.map_cons, List.cons.injEq, List.map_map] at e
    obtain ⟨rfl, e⟩ := e
    refine wpAny_pyNext_range_item p (by rw [List.length_cons]; omega) fun h' p' hs => ?_
    have hc : Chg [it] s.heap h' := Chg.of_but hs.extBut (List.mem_singleton_self _)
    refine letGo_other (s := { s with heap := h', toks := s.toks + 1 }) p' rfl (by decide) (hQ _ h' (s.toks + 1) hc ⟨x + 1, ?_, ?_⟩ ⟨s.toks, by simp⟩)
    · simp only [List.length_cons] at p'
      rw [show ((rest.length + 1 : Nat) : Int) - 1 = rest.length by omega] at p'
      exact p'
    · refine e.trans (List.map_congr_left fun i _ => ?_)
      show V.int (x + ((i + 1 : Nat) : Int)) = V.int (x + 1 + i)
      congr 1
      omega
  · obtain ⟨x, p, e⟩ := p
    exact wpAny_pyNext_range_end N.bud.hd p (by simp) fun h' he => hQ h' (Chg.of_but he (List.mem_singleton_self _))
theorem TI.range_of {iter target : Expr} {Q : (Own → Prop) → List V → Own → Prop} (h : ∀ A env FA s, NowC prog w B ⟨d, Γ, A, env, FA, l⟩ own s → ∀ (Q' E : Value → Shared → Prop),
    (∀ x own₁ s₁, NowC prog w B ⟨d, Γ, A, env, FA, l⟩ own₁ s₁ → Stp B FA own own₁ s s₁ → (∃ r a b t u v, x = .ref r ∧ IsRange s₁.heap r a b 1 t u v ∧ -(2 ^ 62) ≤ a ∧ a ≤ b ∧ b < 2 ^ 62 ∧ Q (fun _ => True) ((List.range (b - a).toNat).map fun (i : Nat) => V.int (a + i)) own₁) → Q' x s₁) → wpAny (model prog w) A (eval iter env) Q' E s) : TI prog w B d Γ target iter l own Q := by
  intro A env FA s N Q' E p
  refine h A env FA s N _ E fun x own₁ s1 N1 S1 q => ?_
  obtain ⟨r, a, b, t, u, v, rfl, hr, h1, h2, h3, q⟩ := q
  refine wpAny_pyIter_range hr (small_one h1 (by omega) (by omega) h3) ?_
  have X := Ext.push s1.heap { cls := .type "range_iterator", data := .fields #[rawInt a, rawInt (Builtin.Range.rangeSize a b 1), rawInt 1] }
  obtain ⟨N2, S2⟩ := N1.ext (tk := s1.toks) X
  refine p _ _ own₁ s1 _ _ [_] _ q N1 S1 iter_range N2 X (Apart.of N1 (one_none (top _))) ⟨a, ?_, ?_⟩
  · have e := Heap.get?_push_size s1.heap (o := { cls := .type "range_iterator", data := .fields #[rawInt a, rawInt (Builtin.Range.rangeSize a b 1), rawInt 1] }) rfl
    have e2 : Builtin.Range.rangeSize a b 1 = (((List.range (b - a).toNat).map fun (i : Nat) => V.int (a + i)).length : Int) := by
      rw [rangeSize_one, List.length_map, List.length_range]
      split <;> omega
    show IsRangeIter _ _ _ _ _
    rw [← e2]
    exact e
  · rw [List.length_map, List.length_range]
theorem TI.range1 {target : Expr} {x : Str} {np pos : Pos} {e : Expr} {Q : (Own → Prop) → List V → Own → Prop} (hx : x ∈ Γ.glb) (hd : (x == ("__debug__" : Str)) = false) (en : nsIn B.K mainGlobals x = some Option.none) (hv : bootBuiltins x = some (.type "range")) (hn : x ≠ "__name__") (hs : noStar [e] = true)
    (h : TE prog w B d Γ e l own (fun v own₁ => ∃ n : Nat, v = .int n ∧ n ≤ 1000000 ∧ Q (fun _ => True) ((List.range n).map fun (i : Nat) => V.int i) own₁)) : TI prog w B d Γ target (.Call (.Name x np) [e] [] pos) l own Q := by
  refine TI.range_of fun A env FA s N Q' E p => ?_
  obtain ⟨h1, h2⟩ := noStar_cons hs
  have T : TA prog w B d Γ [e] l own (fun vs o => ∃ n : Nat, vs = [.int n] ∧ n ≤ 1000000 ∧ Q (fun _ => True) ((List.range n).map fun (i : Nat) => V.int i) o) :=
    TA.cons h1 fun A env FA s N => (h A env FA s N).mono fun v o ⟨n, e, hn, q⟩ => TA.nil ⟨n, by rw [e], hn, q⟩
  refine wpAny_Call_NameR (bname N hx hd en hv hn (PyProof.Rows.callWith_type1 (T pos A env FA s N _ E fun vs xs o1 s1 q1 rr N1 S1 => ?_) (starEach_cons h1) (noStar_any h2)))
  obtain ⟨n, rfl, hn, q⟩ := q1
  obtain ⟨xv, rfl, r1⟩ := rr.one
  obtain ⟨t, rfl⟩ := r1
  refine call_range_1 ?_
  have X := Ext.push s1.heap { cls := .type "range", data := .fields #[.int 0 s1.toks, .int n t, .int 1 (s1.toks + 1)] }
  obtain ⟨N2, S2⟩ := N1.ext (tk := s1.toks + 1 + 1) X
  refine p _ _ _ N2 (S1.trans S2) ⟨_, 0, n, _, _, _, rfl, Heap.get?_push_size _ rfl, by omega, by omega, by omega, ?_⟩
  have e1 : ((n : Int) - 0).toNat = n := by omega
  rw [e1]
  have e2 : ((List.range n).map fun (i : Nat) => V.int (0 + (i : Int))) = (List.range n).map fun (i : Nat) => V.int i := List.map_congr_left fun i _ => by rw [Int.zero_add]
  rw [e2]; exact q
theorem TI.range2 {target : Expr} {x : Str} {np pos : Pos} {e f : Expr} {Q : (Own → Prop) → List V → Own → Prop} (hx : x ∈ Γ.glb) (hd : (x == ("__debug__" : Str)) = false) (en : nsIn B.K mainGlobals x = some Option.none) (hv : bootBuiltins x = some (.type "range")) (hn : x ≠ "__name__") (hs : noStar [e, f] = true)
    (h : TE prog w B d Γ e l own (fun v own₁ => TE prog w B d Γ f l own₁ (fun u own₂ => ∃ a b : Int, v = .int a ∧ u = .int b ∧ -(2 ^ 62) ≤ a ∧ a ≤ b ∧ b < 2 ^ 62 ∧ Q (fun _ => True) ((List.range (b - a).toNat).map fun (i : Nat) => V.int (a + i)) own₂))) : TI prog w B d Γ target (.Call (.Name x np) [e, f] [] pos) l own Q := by
  refine TI.range_of fun A env FA s N Q' E p => ?_
  obtain ⟨h1, h2⟩ := noStar_cons hs
  obtain ⟨h3, _⟩ := noStar_cons h2
  have T : TA prog w B d Γ [e, f] l own (fun vs o => ∃ a b : Int, vs = [.int a, .int b] ∧ -(2 ^ 62) ≤ a ∧ a ≤ b ∧ b < 2 ^ 62 ∧ Q (fun _ => True) ((List.range (b - a).toNat).map fun (i : Nat) => V.int (a + i)) o) :=
    TA.cons h1 fun A env FA s N => (h A env FA s N).mono fun v o q => TA.cons h3 fun A env FA s N => (q A env FA s N).mono fun u o' ⟨a, b, e1, e2, h1, h2, h3, q⟩ => TA.nil ⟨a, b, by rw [e1, e2], h1, h2, h3, q⟩
  refine wpAny_Call_NameR (bname N hx hd en hv hn (PyProof.Rows.callWith_type1 (T pos A env FA s N _ E fun vs xs o1 s1 q1 rr N1 S1 => ?_) (starEach_cons h1) (noStar_any h2)))
  obtain ⟨a, b, rfl, g1, g2, g3, q⟩ := q1
  obtain ⟨xv, yv, rfl, r1, r2⟩ := rr.two
  obtain ⟨t, rfl⟩ := r1
  obtain ⟨u, rfl⟩ := r2
  refine call_range_2 ?_
  have X := Ext.push s1.heap { cls := .type "range", data := .fields #[.int a t, .int b u, .int 1 s1.toks] }
  obtain ⟨N2, S2⟩ := N1.ext (tk := s1.toks + 1) X
  exact p _ _ _ N2 (S1.trans S2) ⟨_, a, b, _, _, _, rfl, Heap.get?_push_size _ rfl, g1, g2, g3, q⟩
noncomputable def EIt (e it a : Nat) (vs rest : List V) (h : Heap) : Prop := ∃ (i : Nat) (old : Value), IsEnum h e it i old ∧ h.IsListIter it a i ∧ e ≠ it ∧ rest = ((List.range vs.length).zip vs |>.map fun q => V.tup [.int q.1, q.2]).drop i
theorem iter_enum {es : List Expr} {k : Nat} {tp : Pos} {e it a : Nat} {vs : List V} : Iter prog w B (.Tuple es k tp) [e, it] e (fun o => o a = some (.list vs)) (EIt e it a vs) := by
  have m1 : e ∈ [e, it] := List.mem_cons_self
  have m2 : it ∈ [e, it] := List.mem_cons_of_mem _ (List.mem_singleton_self _)
  refine ⟨fun rest h h' p k tu => ?_, fun rest h p b hb => ?_, fun C own s v rest N g ap p Q E E' hQ => ?_, fun C s rest p Q E h => by obtain ⟨i, old, p, _⟩ := p; exact wpAny_pyIter_enum p h, fun C own s N g ap p Q E hQ => ?_⟩
  · obtain ⟨i, old, p, p2, ne, q⟩ := p
    exact ⟨i, old, k e m1 _ p, p2.at (k it m2), ne, q⟩
  · obtain ⟨i, old, p, ⟨o, ho, hc, hd⟩, ne, q⟩ := p
    rcases List.mem_cons.mp hb with rfl | hb
    · exact ⟨_, p, notFixed_fields (vs := #[]) rfl (by decide) (by decide)⟩
    · rw [List.mem_singleton] at hb; subst hb
      exact ⟨o, ho, notFixed_fields (vs := #[]) hc (by decide) (by decide)⟩
  · obtain ⟨i, old, p, p2, ne, q⟩ := p
    obtain ⟨its, n, ea, il, r⟩ := (N.st.obj a _ g).1.isList
    have hv : ((List.range vs.length).zip vs |>.map fun q => V.tup [.int q.1, q.2])[i]? = some v := by
      have := congrArg List.head? q
      rw [List.head?_drop] at this
      simpa using this.symm
    rw [List.getElem?_map] at hv
    obtain ⟨⟨j, u⟩, hj, rfl⟩ := Option.map_eq_some_iff.mp hv
    rw [List.getElem?_zip_eq_some] at hj
    obtain ⟨hj, hu⟩ := hj
    rw [List.getElem?_range (by exact (List.getElem?_eq_some_iff.mp hu).1)] at hj
    obtain rfl : i = j := Option.some.inj hj
    obtain ⟨x, ex, rx⟩ := r.atA hu
    refine wpAny_pyNext_enum_item p p2 il ex ne fun h1 heo hit1 ht1 hz1 hk1 => ?_
    have live : ∀ b ∈ [e, it], ∃ o, s.heap.get? b = some o ∧ ¬ Fixed o := fun b hb => by
      obtain ⟨o, ho, hc, _⟩ := id p2
      rcases List.mem_cons.mp hb with rfl | hb
      · exact ⟨_, p, notFixed_fields (vs := #[]) rfl (by decide) (by decide)⟩
      · rw [List.mem_singleton] at hb; subst hb
        exact ⟨o, ho, notFixed_fields (vs := #[]) hc (by decide) (by decide)⟩
    refine wpAny_letOwnedTupleGo_enum heo fun h2 he2 hs2 => ?_
    replace hs2 : Heap.SameBut e h1 h2 := hs2
    have hc : Chg [e, it] s.heap h2 := fun b o hb eb => (hs2.2 b (fun q => hb (q ▸ m1))).trans (hk1 b o (fun q => hb (q ▸ m1)) (fun q => hb (q ▸ m2)) eb)
    have tu : Tups s.heap h2 := fun b o eb hx => hc b o (fun q => by obtain ⟨o', e', n⟩ := live b q; rw [eb] at e'; cases e'; exact n hx) eb
    have hne : s.heap.objs.size ≠ e := (Nat.ne_of_lt (Heap.lt_size p)).symm
    have ht2 : h2.get? s.heap.objs.size = some { cls := .type "tuple", data := .seq #[.int i s.toks, x] } := (hs2.2 _ hne).trans ht1
    obtain ⟨oi, hoi, rest1⟩ := hit1
    refine hQ _ h2 (s.toks + 1) hc ⟨i + 1, x, by simpa using he2, ⟨oi, (hs2.2 _ (Ne.symm ne)).trans hoi, rest1⟩, ne, ?_⟩ ⟨_, _, rfl, ht2, ⟨_, _, rfl, ⟨_, rfl⟩, _, _, rfl, rx.mono tu, rfl⟩⟩
    rw [← List.drop_drop, ← q]; rfl
  · obtain ⟨i, old, p, p2, ne, q⟩ := p
    obtain ⟨its, n, ea, il, r⟩ := (N.st.obj a _ g).1.isList
    have hi : its.size ≤ i := by
      rw [VRs.size r]
      have := List.drop_eq_nil_iff.mp q.symm
      simpa using this
    exact wpAny_pyNext_enum_end N.bud.hd p p2 il (Array.getElem?_eq_none hi) fun h' he => hQ h' (Chg.of_but he m2)
theorem TI.enum {ts : List Expr} {k : Nat} {tp : Pos} {x : Str} {np pos : Pos} {e : Expr} {Q : (Own → Prop) → List V → Own → Prop} (hx : x ∈ Γ.glb) (hd : (x == ("__debug__" : Str)) = false) (en : nsIn B.K mainGlobals x = some Option.none) (hv : bootBuiltins x = some (.type "enumerate")) (hn : x ≠ "__name__") (hs : noStar [e] = true)
    (h : TE prog w B d Γ e l own (fun v own₁ => ∃ a vs, v = .obj a ∧ own₁ a = some (.list vs) ∧ Q (fun o => o a = some (.list vs)) ((List.range vs.length).zip vs |>.map fun q => V.tup [.int q.1, q.2]) own₁)) : TI prog w B d Γ (.Tuple ts k tp) (.Call (.Name x np) [e] [] pos) l own Q := by
  intro A env FA s N Q' E p
  obtain ⟨h1, h2⟩ := noStar_cons hs
  have T : TA prog w B d Γ [e] l own (fun us o => ∃ a vs, us = [.obj a] ∧ o a = some (.list vs) ∧ Q (fun o => o a = some (.list vs)) ((List.range vs.length).zip vs |>.map fun q => V.tup [.int q.1, q.2]) o) :=
    TA.cons h1 fun A env FA s N => (h A env FA s N).mono fun v o ⟨a, vs, e, ho, q⟩ => TA.nil ⟨a, vs, by rw [e], ho, q⟩
  refine wpAny_Call_NameR (bname N hx hd en hv hn (PyProof.Rows.callWith_type1 (T pos A env FA s N _ E fun us xs o1 s1 q1 rr N1 S1 => ?_) (starEach_cons h1) (noStar_any h2)))
  obtain ⟨a, vs, rfl, ho, q⟩ := q1
  obtain ⟨xv, rfl, r1⟩ := rr.one
  simp only [VR] at r1; subst r1
  obtain ⟨its, n, ea, r⟩ := (N1.st.obj a _ ho).1
  refine call_enumerate_1 ea fun h' he hit hz hk => ?_
  obtain ⟨N2, S2⟩ := N1.ext (tk := s1.toks) (⟨hk⟩ : Ext s1.heap h')
  have t2 : s1.heap.get? (s1.heap.objs.size + 1) = none := by
    cases q : s1.heap.get? (s1.heap.objs.size + 1) with
    | none => rfl
    | some o => exact absurd (Heap.lt_size q) (Nat.not_lt.mpr (Nat.le_succ _))
  refine wpAny_pyIter_enum (s := { s1 with heap := h' }) he ?_
  refine p _ _ o1 s1 { s1 with heap := h' } _ [s1.heap.objs.size + 1, s1.heap.objs.size] _ q N1 S1 iter_enum N2 ⟨hk⟩ (Apart.of N1 fun b hb => ?_) ⟨0, _, he, hit, Nat.succ_ne_self _, rfl⟩
  rcases List.mem_cons.mp hb with rfl | hb
  · exact t2
  · rw [List.mem_singleton] at hb; subst hb; exact top _
theorem TX.while_ {t : Expr} {body : List Stmt} {pos : Pos} {Q : Fl → List (Option V) → Own → Prop} (I : Nat → List (Option V) → Own → Prop)
    (step : ∀ n l own, I n l own → TT prog w B d Γ t l own (fun b own₁ => match b with
      | false => Q .next l own₁
      | true => TS prog w B d Γ body l own₁ (fun f l₂ own₂ => match f with
        | .next | .cont => ∃ m, m < n ∧ I m l₂ own₂
        | .brk => Q .next l₂ own₂
        | .ret v => Q (.ret v) l₂ own₂))) (n : Nat) (h : I n l own) : TX prog w B d Γ (.While t body [] pos) l own Q := by
  intro A env FA s N Q' E p
  refine wpAny_While (codeAny_whileLoop (fun n s2 => ∃ l own₂, Now prog w B d Γ A env FA l own₂ s2 ∧ Stp B FA own own₂ s s2 ∧ I n l own₂) (fun n s2 hI => ?_) n ⟨l, own, N, .refl, h⟩)
  obtain ⟨l2, own₂, N2, S2, hI⟩ := hI
  refine step n l2 own₂ hI A env FA s2 N2 _ _ fun b o3 s3 q3 N3 S3 => ?_
  cases b with
  | false => exact wpAny_execs_nil (p .next .next l2 o3 s3 q3 rfl N3 (S2.trans S3))
  | true =>
    refine q3 A env FA s3 N3 _ _ fun f x l4 o4 s4 q4 r4 N4 S4 => ?_
    have S04 := (S2.trans S3).trans S4
    cases f with
    | next => cases r4; obtain ⟨m, hm, hI⟩ := q4; exact ⟨m, hm, l4, o4, N4, S04, hI⟩
    | cont => cases r4; obtain ⟨m, hm, hI⟩ := q4; exact ⟨m, hm, l4, o4, N4, S04, hI⟩
    | brk => cases r4; exact p .next .next _ _ _ q4 rfl N4 S04
    | ret v => obtain ⟨y, rfl, r⟩ := r4; exact p (.ret v) _ _ _ _ q4 ⟨y, rfl, r⟩ N4 S04
end
end Lw.Internal
namespace Lw.Internal
section
variable {prog : Program} {w : World} {B : Base} {d : Nat} {Γ Γc : Fn} {A : Around} {env : Env} {FA : List Nat} {l l₀ l' : List (Option V)} {own own₀ own' own'' : Own} {s s₀ s' s'' : Shared} {C : Ct} {E : Value → Shared → Prop}
structure CompOk (Γ Γc : Fn) (sc : Scope) (cm : List (Option Nat)) : Prop where
  kind : sc.kind = .function
  loc : ∀ x ∈ Γc.loc, (x.2 = false ∧ sc.names.lookup x.1 = some .local) ∨ (x.2 = true ∧ sc.names.lookup x.1 = some .free)
  glb : ∀ x ∈ Γc.glb, sc.names.lookup x = some .globalImplicit
  nodup : (Γc.loc.map (·.1)).Nodup
  nocell : ∀ x ∈ sc.names, x.2 ≠ .cell
  free : ∀ x ∈ sc.names, x.2 = .free → (x.1, true) ∈ Γ.loc
  names : ∀ x ∈ sc.names, x.2 = .local → sc.names.lookup x.1 = some .local
  ro : Γc.ro = true
  code : Γc.code = none
  cm : ∀ (i : Nat) x b, Γc.loc[i]? = some (x, b) → match b with
    | true => ∃ j, cm[i]? = some (some j) ∧ Γ.loc[j]? = some (x, true)
    | false => cm[i]? = some none
noncomputable def compL (cm : List (Option Nat)) (l : List (Option V)) : List (Option V) := cm.map fun o => match o with
  | none => none
  | some j => (l[j]?).getD none
theorem lookup_map (f : Str → NameKind → NameKind) : ∀ (names : List (Str × NameKind)) (x : Str), (names.map fun (n, k) => (n, f n k)).lookup x = (names.lookup x).map (f x)
  | [], _ => rfl
  | (n, k) :: r, x => by
    rw [List.map_cons, List.lookup_cons, List.lookup_cons]
    by_cases q : x = n
    · subst q; simp
    · have : (x == n) = false := by simpa using q
      rw [this]; exact lookup_map f r x
theorem relabel_lookup (sc : Scope) (x : Str) : (relabel sc env).names.lookup x = (sc.names.lookup x).map fun k => if (k == .free && env.scope.kind == .function && env.kindOf x == some .cell) = true then .cell else k := by
  have := lookup_map (fun n k => if (k == .free && env.scope.kind == .function && env.kindOf n == some .cell) = true then .cell else k) sc.names x
  rw [← this]
  unfold relabel
  congr 1
  refine List.map_congr_left fun q _ => ?_
  obtain ⟨n, k⟩ := q
  dsimp only
  split <;> rfl
theorem closure_run : ∀ (names : List (Str × NameKind)) (acc : List (Str × Addr)), (∀ x ∈ names, x.2 = .free → ∃ c, env.cells.lookup x.1 = some c) → (∀ q ∈ acc, env.cells.lookup q.1 = some q.2) →
    ∃ cl : List (Str × Addr), (forIn names acc (fun (x : Str × NameKind) (cs : List (Str × Addr)) => (match x with | (name, kind) => if (kind == .free) = true then do let c ← cellOf env name; pure (ForInStep.yield ((name, c) :: cs)) else pure (ForInStep.yield cs) : Sem (ForInStep (List (Str × Addr))))) : Sem (List (Str × Addr))) = pure cl ∧
      (∀ q ∈ cl, env.cells.lookup q.1 = some q.2) ∧ (∀ q ∈ acc, q ∈ cl) ∧ ∀ x ∈ names, x.2 = .free → ∃ c, (x.1, c) ∈ cl
  | [], acc, _, ha => ⟨acc, by rw [List.forIn_nil], ha, fun _ h => h, fun _ h => by cases h⟩
  | (n, k) :: r, acc, hf, ha => by
    rw [List.forIn_cons]
    by_cases q : k = .free
    · subst q
      obtain ⟨c, hc⟩ := hf (n, .free) List.mem_cons_self rfl
      have e1 : cellOf env n = pure c := by unfold cellOf; rw [show env.cells.lookup n = some c from hc]
      obtain ⟨cl, h1, h2, h3, h4⟩ := closure_run r ((n, c) :: acc) (fun x hx => hf x (List.mem_cons_of_mem _ hx)) (fun q hq => by
        rcases List.mem_cons.mp hq with rfl | hq
        · exact hc
        · exact ha q hq)
      refine ⟨cl, ?_, h2, fun q hq => h3 q (List.mem_cons_of_mem _ hq), fun x hx hk => ?_⟩
      · simp only [beq_self_eq_true, if_true, e1, pure_bind]
        exact h1
      · rcases List.mem_cons.mp hx with rfl | hx
        · exact ⟨c, h3 _ List.mem_cons_self⟩
        · exact h4 x hx hk
    · have qb : (k == NameKind.free) = false := by simpa using q
      obtain ⟨cl, h1, h2, h3, h4⟩ := closure_run r acc (fun x hx => hf x (List.mem_cons_of_mem _ hx)) ha
      refine ⟨cl, ?_, h2, h3, fun x hx hk => ?_⟩
      · simp only [qb, Bool.false_eq_true, if_false, pure_bind]
        exact h1
      · rcases List.mem_cons.mp hx with rfl | hx
        · exact absurd hk q
        · exact h4 x hx hk
theorem lookup_of_mem {cl : List (Str × Addr)} {x : Str} {c : Addr} (hm : (x, c) ∈ cl) : ∃ c', cl.lookup x = some c' ∧ (x, c') ∈ cl := by
  induction cl with
  | nil => cases hm
  | cons q r ih =>
    obtain ⟨y, c2⟩ := q
    rw [List.lookup_cons]
    by_cases e : x = y
    · subst e; exact ⟨c2, by simp, List.mem_cons_self⟩
    · have : (x == y) = false := by simpa using e
      rw [this]
      rcases List.mem_cons.mp hm with z | z
      · cases z; exact absurd rfl e
      · obtain ⟨c', h1, h2⟩ := ih z; exact ⟨c', h1, List.mem_cons_of_mem _ h2⟩
theorem closure_of (c : Cx Γ env FA) {sc : Scope} {cm : List (Option Nat)} (K : CompOk Γ Γc sc cm) : ∃ cl, closureFor sc env = pure cl ∧ ∀ x, (x, true) ∈ Γc.loc → ∃ a, cl.lookup x = some a ∧ env.cells.lookup x = some a := by
  obtain ⟨cl, h1, h2, _, h4⟩ := closure_run (env := env) sc.names [] (fun x hx hk => by
    obtain ⟨a, e, _⟩ := c.cell x.1 (K.free x hx hk)
    exact ⟨a, e⟩) (fun _ h => by cases h)
  refine ⟨cl, ?_, fun x hx => ?_⟩
  · unfold closureFor
    exact (congrArg (fun (m : Sem (List (Str × Addr))) => m >>= fun cs => pure cs) h1).trans (by rfl)
  · rcases K.loc (x, true) hx with ⟨q, _⟩ | ⟨_, q⟩
    · cases q
    · have hm : (x, NameKind.free) ∈ sc.names := by
        have key : ∀ (names : List (Str × NameKind)) (k : NameKind), names.lookup x = some k → (x, k) ∈ names := by
          intro names
          induction names with
          | nil => intro k h; cases h
          | cons q r ih =>
            obtain ⟨y, k2⟩ := q
            intro k h
            rw [List.lookup_cons] at h
            by_cases e : x = y
            · subst e
              simp at h
              subst h
              exact List.mem_cons_self
            · have : (x == y) = false := by simpa using e
              rw [this] at h
              exact List.mem_cons_of_mem _ (ih k h)
        exact key _ _ q
      obtain ⟨a, ha⟩ := h4 _ hm rfl
      obtain ⟨a', e1, e2⟩ := lookup_of_mem ha
      exact ⟨a', e1, h2 _ e2⟩
noncomputable def TIfs (prog : Program) (w : World) (B : Base) (d : Nat) (Γ : Fn) (ifs : List Expr) (l : List (Option V)) (own : Own) (Q : Bool → Own → Prop) : Prop := match ifs with
  | [] => Q true own
  | [c] => TT prog w B d Γ c l own Q
  | _ => False
theorem TIfs.run {ifs : List Expr} {Q : Bool → Own → Prop} (h : TIfs prog w B d Γ ifs l own Q) (N : NowC prog w B ⟨d, Γ, A, env, FA, l⟩ own s) :
    DoesB prog w B (forIn ifs true fun c r => if r = true then do let ok ← isTrue c env (eval c env); pure (ForInStep.yield ok) else pure (ForInStep.yield r)) ⟨d, Γ, A, env, FA, l⟩ own s Q := by
  intro Q' E p
  match ifs, h with
  | [], h => exact wpAny_tests_nil (p true own s h N .refl)
  | [c], h => exact wpAny_tests_one (h A env FA s N Q' E p)
noncomputable def TCL (prog : Program) (w : World) (B : Base) (d : Nat) (Γ : Fn) (G : Own → Prop) (a : Nat) (target : Expr) (ifs : List Expr) (elt : Expr) : List V → List (Option V) → Own → (Own → Prop) → Prop
  | [], l, own, Q => G own ∧ Q own
  | v :: rest, l, own, Q => G own ∧ TG prog w B d Γ target v l own (fun l₁ own₁ => TIfs prog w B d Γ ifs l₁ own₁ (fun ok own₂ => match ok with
    | false => TCL prog w B d Γ G a target ifs elt rest l₁ own₂ Q
    | true => TE prog w B d Γ elt l₁ own₂ (fun y own₃ => ∃ acc, own₃ a = some (.list acc) ∧ acc.length ≤ 1000 ∧ TCL prog w B d Γ G a target ifs elt rest l₁ (own₃.put a (.list (acc ++ [y]))) Q)))
theorem compLoop_any {elt target iter : Expr} {ifs : List Expr} {scope : Scope} {pos : Pos} {it acc : Value} {env : Env} {R : Result → Shared → Prop} (I : Nat → Shared → Prop)
    (turn : ∀ n s, I n s → wpAny (model prog w) A (pyNext it) (fun r s₁ => match r with
      | none => R (.ok .next) s₁
      | some v => wpAny (model prog w) A (letOwnedTupleGo target it v) (fun _ s₁' => wpAny (model prog w) A (assign target env v) (fun _ s₂ =>
          wpAny (model prog w) A (forIn ifs true fun c r => if r = true then do let ok ← isTrue c env (eval c env); pure (ForInStep.yield ok) else pure (ForInStep.yield r)) (fun ok s₃ =>
            if ok = true then wpAny (model prog w) A (eval elt env) (fun x s₄ =>
              wpAny (model prog w) A (PySem.call (.builtin "list.append") [acc, x]) (fun _ s₅ => ∃ m, m < n ∧ I m s₅) (notedBy (model prog w) A env fun e s' => R (.error e) s') s₄) (notedBy (model prog w) A env fun e s' => R (.error e) s') s₃
            else ∃ m, m < n ∧ I m s₃) (notedBy (model prog w) A env fun e s' => R (.error e) s') s₂) (notedBy (model prog w) A env fun e s' => R (.error e) s') s₁') (notedBy (model prog w) A env fun e s' => R (.error e) s') s₁) (notedBy (model prog w) A env fun e s' => R (.error e) s') s)
    (n : Nat) (h : I n s) : codeAny (model prog w) A (.compLoop (.ListComp elt [⟨target, iter, ifs, 0⟩] scope pos) 0 it acc env) R s := by
  refine codeAny_loop rfl I (fun n s hI => ?_) n h
  show wpAny _ A ((compTurn (.ListComp elt [⟨target, iter, ifs, 0⟩] scope pos) 0 it acc env).onRaise (fun x => do noteFrame x env; theTreesLotGoes x)) _ _ s
  refine wpAny_noted ?_
  rw [compTurn_list]
  refine wpAny_bind (wpAny_standAt (wpAny_bind (wpAny_mono (turn n s hI) (fun r s₁ h₁ => ?_) fun _ _ h' => h')))
  cases r with
  | none => exact wpAny_pure h₁
  | some v =>
    refine wpAny_bind (wpAny_mono h₁ (fun _ s₁' h₁' => ?_) fun _ _ h' => h')
    refine wpAny_bind (wpAny_mono h₁' (fun _ s₂ h₂ => wpAny_bind (wpAny_mono h₂ (fun ok s₃ h₃ => ?_) fun _ _ h' => h')) fun _ _ h' => h')
    cases ok with
    | false => exact wpAny_pure ⟨rfl, h₃⟩
    | true =>
      exact wpAny_bind (wpAny_bind (wpAny_mono h₃ (fun x s₄ h₄ => wpAny_bind (wpAny_mono h₄ (fun _ s₅ h₅ => wpAny_pure (wpAny_pure ⟨rfl, h₅⟩)) fun _ _ h' => h')) fun _ _ h' => h'))
theorem compLoop_run {target elt iter : Expr} {ifs : List Expr} {scope : Scope} {pos : Pos} {W : List Nat} {it a : Nat} {G : Own → Prop} {P : List V → Heap → Prop} {Q : Own → Prop} {R : Result → Shared → Prop}
    (I : Iter prog w B target W it G P)
    (hR : ∀ l' own' s', Q own' → Now prog w B d Γ A env FA l' own' s' → Stp B FA own₀ own' s₀ s' → R (.ok .next) s')
    {rest : List V} (N : Now prog w B d Γ A env FA l own s) (S : Stp B FA own₀ own s₀ s) (ap : Apart B Γ env FA W own s₀) (p : P rest s.heap) (h : TCL prog w B d Γ G a target ifs elt rest l own Q) :
    codeAny (model prog w) A (.compLoop (.ListComp elt [⟨target, iter, ifs, 0⟩] scope pos) 0 (.ref it) (.ref a) env) R s := by
  refine compLoop_any (fun n s => ∃ rest l own, n = rest.length ∧ Now prog w B d Γ A env FA l own s ∧ Stp B FA own₀ own s₀ s ∧ Apart B Γ env FA W own s₀ ∧ P rest s.heap ∧ TCL prog w B d Γ G a target ifs elt rest l own Q) (fun n s hI => ?_) rest.length ⟨rest, l, own, rfl, N, S, ap, p, h⟩
  obtain ⟨rest, l, own, rfl, N, S, ap, p, h⟩ := hI
  cases rest with
  | nil =>
    obtain ⟨g, q⟩ := h
    refine I.fin ⟨d, Γ, A, env, FA, l⟩ own s N g ap.own p _ _ fun h' hc => ?_
    obtain ⟨N1, S1, _⟩ := N.chg S ap (tk := s.toks) hc (I.live _ _ p)
    exact hR l own _ q N1 S1
  | cons v rest =>
    obtain ⟨g, q⟩ := h
    refine wpAny_mono (I.next ⟨d, Γ, A, env, FA, l⟩ own s v rest N g ap.own p (fun x s2 => wpAny (model prog w) A (assign target env x) (fun _ s₂ =>
          wpAny (model prog w) A (forIn ifs true fun c r => if r = true then do let ok ← isTrue c env (eval c env); pure (ForInStep.yield ok) else pure (ForInStep.yield r)) (fun ok s₃ =>
            if ok = true then wpAny (model prog w) A (eval elt env) (fun x s₄ =>
              wpAny (model prog w) A (PySem.call (.builtin "list.append") [.ref a, x]) (fun _ s₅ => ∃ m, m < (v :: rest).length ∧ ∃ rest l own, m = rest.length ∧ Now prog w B d Γ A env FA l own s₅ ∧ Stp B FA own₀ own s₀ s₅ ∧ Apart B Γ env FA W own s₀ ∧ P rest s₅.heap ∧ TCL prog w B d Γ G a target ifs elt rest l own Q) (notedBy (model prog w) A env fun e s' => R (.error e) s') s₄) (notedBy (model prog w) A env fun e s' => R (.error e) s') s₃
            else ∃ m, m < (v :: rest).length ∧ ∃ rest l own, m = rest.length ∧ Now prog w B d Γ A env FA l own s₃ ∧ Stp B FA own₀ own s₀ s₃ ∧ Apart B Γ env FA W own s₀ ∧ P rest s₃.heap ∧ TCL prog w B d Γ G a target ifs elt rest l own Q) (notedBy (model prog w) A env fun e s' => R (.error e) s') s₂) (notedBy (model prog w) A env fun e s' => R (.error e) s') s2) _ (notedBy (model prog w) A env fun e s' => R (.error e) s') ?_) (fun r s1 k => ?_) fun _ _ z => z
    · intro x h' tk hc p' rx
      obtain ⟨N1, S1, tu⟩ := N.chg S ap (tk := tk) hc (I.live _ _ p)
      refine q A env FA _ N1 x rx _ _ fun l2 o2 s2 q2 N2 S2 => ?_
      have lv2 : ∀ b ∈ W, ∃ o, h'.get? b = some o := fun b hb => by obtain ⟨o, e, _⟩ := I.live _ _ p' b hb; exact ⟨o, e⟩
      have ap2 := ap.step S2 lv2
      have p2 : P rest s2.heap := I.pers _ _ _ p' (S2.keepW ap) (N1.tups S2)
      refine TIfs.run q2 N2 _ _ fun ok o3 s3 q3 N3 S3 => ?_
      have ap3 := ap2.step S3 (fun b hb => by obtain ⟨o, e, _⟩ := I.live _ _ p2 b hb; exact ⟨o, e⟩)
      have p3 : P rest s3.heap := I.pers _ _ _ p2 (S3.keepW ap2) (N2.tups S3)
      have S03 := (S1.trans S2).trans S3
      cases ok with
      | false =>
        rw [if_neg Bool.false_ne_true]
        exact ⟨rest.length, Nat.lt_succ_self _, rest, l2, o3, rfl, N3, S03, ap3, p3, q3⟩
      | true =>
        rw [if_pos rfl]
        refine q3 A env FA s3 N3 _ _ fun y yv o4 s4 q4 r4 N4 S4 => ?_
        obtain ⟨acc, ho, hz, q5⟩ := q4
        have ap4 := ap3.step S4 (fun b hb => by obtain ⟨o, e, _⟩ := I.live _ _ p3 b hb; exact ⟨o, e⟩)
        have p4 : P rest s4.heap := I.pers _ _ _ p3 (S4.keepW ap3) (N3.tups S4)
        have T : TN prog w B (fun xs => PySem.call (.builtin "list.append") xs) [.obj a, y] o4 (fun _ o => o = o4.put a (.list (acc ++ [y]))) := TN.append ho (Nat.le_trans hz size_1000) rfl
        refine T ⟨d, Γ, A, env, FA, l2⟩ s4 N4 [.ref a, yv] ⟨_, _, rfl, rfl, _, _, rfl, r4, rfl⟩ _ _ fun _ _ o5 s5 e5 _ N5 S5 => ?_
        subst e5
        have ap5 := ap4.step S5 (fun b hb => by obtain ⟨o, e, _⟩ := I.live _ _ p4 b hb; exact ⟨o, e⟩)
        have p5 : P rest s5.heap := I.pers _ _ _ p4 (S5.keepW ap4) (N4.tups S5)
        exact ⟨rest.length, Nat.lt_succ_self _, rest, l2, _, rfl, N5, (S03.trans S4).trans S5, ap5, p5, q5⟩
    · cases r with
      | none => exact k.elim
      | some x => exact k
theorem names_mem {names : List (Str × NameKind)} {x : Str} {k : NameKind} (h : names.lookup x = some k) : (x, k) ∈ names := by
  induction names with
  | nil => cases h
  | cons q r ih =>
    obtain ⟨y, k2⟩ := q
    rw [List.lookup_cons] at h
    by_cases e : x = y
    · subst e
      simp at h
      subst h
      exact List.mem_cons_self
    · have : (x == y) = false := by simpa using e
      rw [this] at h
      exact List.mem_cons_of_mem _ (ih h)
theorem comp_now (N : Now prog w B d Γ A env FA l own s) {sc : Scope} {cm : List (Option Nat)} (K : CompOk Γ Γc sc cm) {cl : List (Str × Addr)} (hcl : ∀ x, (x, true) ∈ Γc.loc → ∃ a, cl.lookup x = some a ∧ env.cells.lookup x = some a)
    {h₁ : Heap} {tk : Nat} {c : Nat} (hc : s.heap.get? c = none) (hns : h₁.Ns c (fun x => ([] : List (Str × Value)).reverse.lookup x)) (k : ∀ b o, s.heap.get? b = some o → h₁.get? b = some o) :
    Now prog w B d Γc A (compEnvC sc cl c env) [c] (compL cm l) own { s with heap := h₁, toks := tk } := by
  have X : Ext s.heap h₁ := ⟨k⟩
  obtain ⟨N1, S1⟩ := N.ext (tk := tk) X
  have inΓ : ∀ x, (x, true) ∈ Γc.loc → (x, true) ∈ Γ.loc := fun x hx => by
    rcases K.loc (x, true) hx with ⟨q, _⟩ | ⟨_, q⟩
    · cases q
    · exact K.free _ (names_mem q) rfl
  have cellk : ∀ x, (x, true) ∈ Γc.loc → env.kindOf x = some .cell := fun x hx => N.cx.loc x true (inΓ x hx)
  refine ⟨N.ok, N.bud, ⟨?_, N.cx.glob, N.cx.blt, fun x b hx => ?_, fun x hx => ?_, fun x y a hx hy h1 h2 => ?_, K.nodup, fun x hx => ?_, List.mem_singleton_self _, fun q h => by rw [K.code] at h; cases h⟩, N1.st, ⟨⟨fun a ha => ?_, fun a ha => ?_, fun a ha => ?_⟩, ⟨_, hns, fun i x b hi => ?_⟩, fun x a hx ha => ?_⟩⟩
  · exact K.kind
  · show (relabel sc env).names.lookup x = _
    rw [relabel_lookup]
    rcases K.loc (x, b) hx with ⟨q, e⟩ | ⟨q, e⟩
    · dsimp only at q e; subst q; rw [e]; rfl
    · dsimp only at q e; subst q
      rw [e, Option.map_some, cellk x hx, N.cx.kind]; rfl
  · obtain ⟨a, e1, e2⟩ := hcl x hx
    refine ⟨a, e1, fun h => ?_, fun e => ?_⟩
    · rw [K.ro] at h; cases h
    · obtain ⟨_, o, e3, _⟩ := N.loc.cells x a (inΓ x hx) e2
      rw [show a = c from e, hc] at e3; cases e3
  · obtain ⟨a1, e1, e2⟩ := hcl x hx
    obtain ⟨a2, e3, e4⟩ := hcl y hy
    have h1' : cl.lookup x = some a := h1
    have h2' : cl.lookup y = some a := h2
    rw [e1] at h1'; rw [e3] at h2'
    cases h1'; cases h2'
    exact N.cx.apart x y _ (inΓ x hx) (inΓ y hy) e2 e4
  · show (relabel sc env).names.lookup x = _
    rw [relabel_lookup, K.glb x hx]; rfl
  · rw [List.mem_singleton] at ha; subst ha; exact N.fresh hc
  · rw [List.mem_singleton] at ha; subst ha
    cases q : B.h₀.get? a with
    | none => rfl
    | some o => have := N.st.keep a o q; rw [hc] at this; cases this
  · rw [List.mem_singleton] at ha; subst ha
    obtain ⟨o, es, ep, e, hd, _⟩ := hns
    exact ⟨o, e, .inl ⟨es, ep, hd⟩⟩
  · have e := K.cm i x b hi
    have eL : (compL cm l)[i]? = (cm[i]?).map (fun o => match o with | none => none | some j => (l[j]?).getD none) := by unfold compL; rw [List.getElem?_map]
    cases b with
    | false =>
      have e : cm[i]? = some none := e
      rw [eL, e]; trivial
    | true =>
      obtain ⟨j, e, hj⟩ := e
      rw [eL, e]
      obtain ⟨m, hm, hl⟩ := N1.loc.ns
      have z := hl j x true hj
      obtain ⟨a, e1, e2⟩ := hcl x (List.mem_of_getElem? hi)
      obtain ⟨a', val, z1, z2, z3⟩ := z
      rw [e2] at z1; cases z1
      exact ⟨a, val, e1, z2, z3⟩
  · obtain ⟨a', e1, e2⟩ := hcl x hx
    have ha' : cl.lookup x = some a := ha
    rw [e1] at ha'; cases ha'
    exact N1.loc.cells x _ (inΓ x hx) e2
theorem comp_block {target elt iter : Expr} {ifs : List Expr} {sc : Scope} {pos : Pos} {cm : List (Option Nat)} {W : List Nat} {it : Nat} {G : Own → Prop} {P : List V → Heap → Prop} {vs : List V} {Q : V → Own → Prop} {RR : Value → Addr → Result → Shared → Prop} {s₁ s₂ : Shared}
    (K : CompOk Γ Γc sc cm) {cl : List (Str × Addr)} (hcl : ∀ x, (x, true) ∈ Γc.loc → ∃ a, cl.lookup x = some a ∧ env.cells.lookup x = some a)
    (N1 : Now prog w B d Γ A env FA l own s₁) (I : Iter prog w B target W it G P) (N2 : Now prog w B d Γ A env FA l own s₂) (X2 : Ext s₁.heap s₂.heap) (ap : Apart B Γ env FA W own s₁) (pp : P vs s₂.heap)
    (h : ∀ a, own a = none → TCL prog w B d Γc G a target ifs elt vs (compL cm l) (own.put a (.list [])) (fun own' => Q (.obj a) own'))
    (hRR : ∀ a c own' s', Q (.obj a) own' → Now prog w B d Γ A env FA l own' s' → Stp B FA own own' s₁ s' → (∃ m, s'.heap.Ns c m) → (∀ own'' s'' l'' h'', Now prog w B d Γ A env FA l'' own'' s'' → Stp B FA own own'' s₁ s'' → own'' c = none → (∃ o, s''.heap.get? c = some o ∧ FrD o) → Heap.SameBut c s''.heap h'' → Now prog w B d Γ A env FA l'' own'' { s'' with heap := h'' } ∧ Stp B FA own own'' s₁ { s'' with heap := h'' }) → own' c = none → c ∉ FA → c ≠ B.P → RR (.ref a) c (.ok .next) s') :
    wpAny (model prog w) A (newList []) (fun acc s₃ => wpAny (model prog w) A (newFunctionEnv sc env.globals cl [] env.qual none .none (some env)) (fun cenv s₄ =>
      codeAny (model prog w) A (.compStart (.ListComp elt [⟨target, iter, ifs, 0⟩] sc pos) 0 (.ref it) acc { cenv with scope := relabel sc env }) (RR acc cenv.locals) s₄) E s₃) E s₂ := by
  refine wpAny_newObj_type (wpAny_newFunctionEnv K.nocell (by intro y hy; simp at hy) (fun h₁ hns₁ hsb₁ => ?_) K.kind)
  dsimp only at hns₁ hsb₁ ⊢
  have x1 := Ext.push s₂.heap { cls := .type "list", dict := none, data := .seq ([] : List Value).toArray }
  generalize hH2 : s₂.heap.push { cls := .type "list", dict := none, data := .seq ([] : List Value).toArray } = H2 at hns₁ hsb₁ x1 ⊢
  have hC : H2.objs.size = s₂.heap.objs.size + 1 := by rw [← hH2, Heap.size_push]
  have la : H2.get? s₂.heap.objs.size = some { cls := .type "list", data := .seq #[] } := by rw [← hH2]; exact Heap.get?_push_size _ rfl
  obtain ⟨N3, S3⟩ := N2.gain (tk := s₂.toks) (o := .list []) x1 (top _) ⟨_, _, la, by simp [VRs]⟩
  have x2 : Ext H2 h₁ := ⟨fun b o e => hsb₁.extBut b o (Nat.ne_of_lt (Heap.lt_size e)) (Heap.get?_push_of_some _ e)⟩
  have Nc := comp_now N3 (tk := s₂.toks + ([] : List (Str × Value)).length) K hcl (top H2) hns₁ x2.keep
  have cN : s₂.heap.get? H2.objs.size = none := by
    cases q : s₂.heap.get? H2.objs.size with
    | none => rfl
    | some o => have := x1.keep _ _ q; rw [top] at this; cases this
  have cN1 : s₁.heap.get? H2.objs.size = none := by
    cases q : s₁.heap.get? H2.objs.size with
    | none => rfl
    | some o => rw [X2.keep _ _ q] at cN; cases cN
  have aN1 : s₁.heap.get? s₂.heap.objs.size = none := by
    cases q : s₁.heap.get? s₂.heap.objs.size with
    | none => rfl
    | some o => have := X2.keep _ _ q; rw [top] at this; cases this
  have Xall : Ext s₁.heap h₁ := ⟨fun b o e => x2.keep b o (x1.keep b o (X2.keep b o e))⟩
  have newOwn : ∀ b, ((own.put s₂.heap.objs.size (.list [])) b).isSome → (own b).isSome ∨ s₁.heap.get? b = none := fun b hb => by
    by_cases q : b = s₂.heap.objs.size
    · subst q; exact .inr aN1
    · rw [Own.put_ne _ _ q] at hb; exact .inl hb
  have Sin : Stp B [H2.objs.size] own (own.put s₂.heap.objs.size (.list [])) s₁ { s₂ with heap := h₁, toks := s₂.toks + ([] : List (Str × Value)).length } :=
    ⟨fun b o e _ _ _ => Xall.keep b o e, newOwn, fun b o e => ⟨o, Xall.keep b o e⟩⟩
  have cFA : H2.objs.size ∉ FA := fun q => by obtain ⟨o, e, _⟩ := N1.loc.fa.obj _ q; rw [cN1] at e; cases e
  have cP : H2.objs.size ≠ B.P := fun q => by obtain ⟨o, e, _⟩ := N1.st.tab.get; rw [← q, cN1] at e; cases e
  have inΓ : ∀ x, (x, true) ∈ Γc.loc → (x, true) ∈ Γ.loc := fun x hx => by
    rcases K.loc (x, true) hx with ⟨q, _⟩ | ⟨_, q⟩
    · cases q
    · exact K.free _ (names_mem q) rfl
  have lv : ∀ b ∈ W, ∃ o, s₂.heap.get? b = some o := fun b hb => by obtain ⟨o, e, _⟩ := I.live _ _ pp b hb; exact ⟨o, e⟩
  have apc : Apart B Γc (compEnvC sc cl H2.objs.size env) [H2.objs.size] W (own.put s₂.heap.objs.size (.list [])) s₁ := by
    refine ⟨ap.new, fun b hb => ?_, fun b hb q => ?_, ap.p, ap.h0, fun x c hx hc => ?_⟩
    · have ne : b ≠ s₂.heap.objs.size := fun q => by obtain ⟨o, e⟩ := lv b hb; rw [q, top] at e; cases e
      rw [Own.put_ne _ _ ne]; exact ap.own b hb
    · rw [List.mem_singleton] at q; obtain ⟨o, e⟩ := lv b hb; rw [q, cN] at e; cases e
    · obtain ⟨a, e1, e2⟩ := hcl x hx
      have hc' : cl.lookup x = some c := hc
      rw [e1] at hc'; cases hc'
      exact ap.cells x _ (inΓ x hx) e2
  have pc : P vs h₁ := I.pers _ _ _ pp (fun b hb o e => x2.keep b o (x1.keep b o e)) (fun a o e _ => x2.keep a o (x1.keep a o e))
  have fin : ∀ l' own' s', Q (.obj s₂.heap.objs.size) own' → Now prog w B d Γc A (compEnvC sc cl H2.objs.size env) [H2.objs.size] l' own' s' → Stp B [H2.objs.size] own own' s₁ s' → RR (.ref s₂.heap.objs.size) H2.objs.size (.ok .next) s' := by
    intro l' own' s' q N' S'
    have hnew : ∀ a ∈ [H2.objs.size], s₁.heap.get? a = none := fun a ha => by rw [List.mem_singleton] at ha; subst ha; exact cN1
    have tu : Tups s₁.heap s'.heap := fun a o e hx => by
      refine S'.oth a o e (fun q => by rw [hnew a q] at e; cases e) ?_ (fun q => ?_)
      · cases q : own a with
        | none => rfl
        | some o2 =>
          obtain ⟨ob, e', n1, _⟩ := (N1.st.obj a o2 q).1.get
          rw [e] at e'; cases e'; exact absurd hx n1
      · obtain ⟨o', e', n⟩ := N1.st.tab.get
        rw [← q, e] at e'; cases e'
        rcases hx.cls with h | h <;> rw [n] at h <;> cases h
    have No := N1.other S' N'.st hnew tu
    have So : Stp B FA own own' s₁ s' := ⟨fun b o e _ hn hp => S'.oth b o e (fun q => by rw [hnew b q] at e; cases e) hn hp, S'.new, S'.stay⟩
    have cown : own' H2.objs.size = none := N'.loc.fa.own _ (List.mem_singleton_self _)
    obtain ⟨m, hm, _⟩ := N'.loc.ns
    refine hRR _ _ own' s' q No So ⟨m, hm⟩ (fun own'' s'' l'' h'' N'' S'' ho hob hs => ?_) cown cFA cP
    have apC : Apart B Γ env FA [H2.objs.size] own'' s₁ := { Apart.of N1 hnew with own := fun b hb => by rw [List.mem_singleton] at hb; subst hb; exact ho }
    obtain ⟨r1, r2, _⟩ := N''.chg S'' apC (tk := s''.toks) (Chg.of_but hs.extBut (List.mem_singleton_self _)) (fun b hb => by rw [List.mem_singleton] at hb; subst hb; obtain ⟨o, e, n⟩ := hob; exact ⟨o, e, n.not⟩)
    exact ⟨r1, r2⟩
  have go := compLoop_run (iter := iter) (scope := sc) (pos := pos) (R := RR (.ref s₂.heap.objs.size) H2.objs.size) I fin Nc Sin apc pc (h _ (N2.fresh (top _)))
  exact codeAny_compStart_list go (I.self ⟨d, Γc, A, compEnvC sc cl H2.objs.size env, [H2.objs.size], compL cm l⟩ _ _ pc _ _ go)
theorem TE.comp {target elt iter : Expr} {ifs : List Expr} {sc : Scope} {pos : Pos} {cm : List (Option Nat)} {Q : V → Own → Prop} (hs : ∀ env x, foldedSetIterable iter env x = pure x) (K : CompOk Γ Γc sc cm)
    (h : TI prog w B d Γ target iter l own (fun G vs own₁ => ∀ a, own₁ a = Option.none → TCL prog w B d Γc G a target ifs elt vs (compL cm l) (own₁.put a (.list [])) (fun own' => Q (.obj a) own'))) :
    TE prog w B d Γ (.ListComp elt [⟨target, iter, ifs, 0⟩] sc pos) l own Q := by
  intro A env FA s N Q' E p
  rw [eval_ListComp]
  obtain ⟨cl, hclos, hcl⟩ := closure_of N.cx K
  refine wpAny_comprehension_free (use := Option.none) rfl (hs env) hclos K.kind K.names (h A env FA s N _ E fun G vs own₁ s₁ s₂ it W P q N1 S1 I N2 X2 ap pp => ?_)
  refine comp_block (RR := fun acc c => compPost (model prog w) A E Option.none Q' acc c) K hcl N1 I N2 X2 ap pp q ?_
  intro a c own' s' q' No So hns hchg cown cFA cP
  obtain ⟨m, hm⟩ := hns
  refine ⟨m, hm, fun h' hs' => ?_⟩
  obtain ⟨N3, S3⟩ := hchg own' s' l h' No So cown (by obtain ⟨o, es, ep, e, hd, _⟩ := hm; exact ⟨o, e, .inl ⟨es, ep, hd⟩⟩) hs'
  exact p _ _ _ _ q' rfl N3 (S1.trans S3)
theorem TX.assignc {target elt iter : Expr} {ifs : List Expr} {sc : Scope} {pos spos : Pos} {cm : List (Option Nat)} {i : Nat} {y : Str} {py : Pos} {Q : Fl → List (Option V) → Own → Prop} (hs : ∀ env x, foldedSetIterable iter env x = pure x) (K : CompOk Γ Γc sc cm)
    (hi : Γ.loc[i]? = some (y, false)) (hl : i < l.length)
    (hsw : ∀ env FA, Cx Γ env FA → swapsWith (.ListComp elt [⟨target, iter, ifs, 0⟩] sc pos) (some (.Name y py)) spos.line env = pure true)
    (h : TI prog w B d Γ target iter l own (fun G vs own₁ => ∀ a, own₁ a = none → TCL prog w B d Γc G a target ifs elt vs (compL cm l) (own₁.put a (.list [])) (fun own' => Q .next (l.set i (some (.obj a))) own'))) :
    TX prog w B d Γ (.Assign [.Name y py] (.ListComp elt [⟨target, iter, ifs, 0⟩] sc pos) spos) l own Q := by
  intro A env FA s N Q' E p
  rw [exec_Assign_Name_used _ _ _ _ (hsw env FA N.cx)]
  refine wpAny_bind (wpAny_standAt (wpAny_bind ?_))
  show wpAny _ A (do let _ ← comprehension (.ListComp elt [⟨target, iter, ifs, 0⟩] sc pos) sc env _ (newList []) false (eval iter env) (some (PySem.assign (.Name y py) env))) _ _ s
  obtain ⟨cl, hclos, hcl⟩ := closure_of N.cx K
  refine wpAny_bind (wpAny_mono (wpAny_comprehension_free (use := some (PySem.assign (.Name y py) env)) (Q := fun _ s' => Q' .next s') rfl (hs env) hclos K.kind K.names
    (h A env FA s N _ E fun G vs own₁ s₁ s₂ it W P q N1 S1 I N2 X2 ap pp => ?_)) (fun _ s' hq => wpAny_pure (wpAny_pure hq)) fun _ _ e => e)
  refine comp_block (Q := fun v own' => match v with | .obj a => Q .next (l.set i (some (.obj a))) own' | _ => False) (RR := fun acc c => compPost (model prog w) A E (some (PySem.assign (.Name y py) env)) (fun _ s' => Q' .next s') acc c) K hcl N1 I N2 X2 ap pp (fun a ha => q a ha) ?_
  intro a c own' s' q' No So hns hchg cown cFA cP
  obtain ⟨m, hm⟩ := hns
  show wpAny _ A (PySem.assign (.Name y py) env (.ref a)) _ _ _
  have hcs : ∃ o, s'.heap.get? c = some o ∧ FrD o := by obtain ⟨o, es, ep, e, hd, _⟩ := hm; exact ⟨o, e, .inl ⟨es, ep, hd⟩⟩
  refine wpAny_assign_Name (store_name No (v := .obj a) rfl hi hl (by intro h; cases h) fun s3 N3 S3 => ?_)
  obtain ⟨o, e, n⟩ := hcs
  have e3 : s3.heap.get? c = some o := S3.oth c o e cFA cown cP
  have hm3 : s3.heap.Ns c m := by
    obtain ⟨o', es, ep, e', r⟩ := hm
    rw [e] at e'; cases e'
    exact ⟨o, es, ep, e3, r⟩
  refine ⟨m, hm3, fun h' hs' => ?_⟩
  obtain ⟨N4, S4⟩ := hchg own' s3 _ h' N3 (So.trans S3) cown ⟨o, e3, n⟩ hs'
  exact p .next .next _ _ _ q' rfl N4 (S1.trans S4)
end
end Lw.Internal
namespace Lw.Internal
section
variable {prog : Program} {w : World} {B : Base} {d : Nat} {Γ Γc : Fn} {A : Around} {env : Env} {FA : List Nat} {l l₀ l' : List (Option V)} {own own₀ own' own'' : Own} {s s₀ s' s'' : Shared} {C : Ct} {E : Value → Shared → Prop}
theorem bindL_other {k : Str → Option NameKind} {x : Str} : ∀ {bs : List (Str × Value)} {m : Str → Option Value}, x ∉ bs.map (·.1) → bindL k bs m x = m x
  | [], _, _ => rfl
  | (n, v) :: r, m, h => by
    rw [List.map_cons, List.mem_cons, not_or] at h
    unfold bindL
    rw [bindL_other h.2]
    split
    · simp [h.1]
    · rfl
theorem bindC_other {k : Str → Option NameKind} {x : Str} : ∀ {bs : List (Str × Value)} {m : Str → Option Value}, x ∉ bs.map (·.1) → bindC k bs m x = m x
  | [], _, _ => rfl
  | (n, v) :: r, m, h => by
    rw [List.map_cons, List.mem_cons, not_or] at h
    unfold bindC
    rw [bindC_other h.2]
    split
    · rfl
    · simp [h.1]
theorem bindL_at {k : Str → Option NameKind} {x : Str} (hk : k x = some .local) : ∀ {ps : List Str} {xs : List Value} {m : Str → Option Value}, ps.Nodup → ps.length = xs.length → ∀ {i : Nat}, ps[i]? = some x → bindL k (ps.zip xs) m x = xs[i]?
  | [], _, _, _, _, i, h => by simp at h
  | p :: ps, [], _, _, hl, _, _ => by simp at hl
  | p :: ps, v :: xs, m, hn, hl, i, h => by
    rw [List.nodup_cons] at hn
    rw [List.zip_cons_cons]
    unfold bindL
    cases i with
    | zero =>
      simp only [List.getElem?_cons_zero, Option.some.injEq] at h
      subst h
      have nm : p ∉ (ps.zip xs).map (·.1) := by rw [List.map_fst_zip (by simpa using Nat.le_of_eq hl)]; exact hn.1
      rw [bindL_other nm, if_pos hk]; simp
    | succ i =>
      simp only [List.getElem?_cons_succ] at h
      simpa using bindL_at hk hn.2 (by simpa using hl) h
theorem bindC_at {k : Str → Option NameKind} {x : Str} (hk : k x = some .cell) : ∀ {ps : List Str} {xs : List Value} {m : Str → Option Value}, ps.Nodup → ps.length = xs.length → ∀ {i : Nat}, ps[i]? = some x → bindC k (ps.zip xs) m x = xs[i]?
  | [], _, _, _, _, i, h => by simp at h
  | p :: ps, [], _, _, hl, _, _ => by simp at hl
  | p :: ps, v :: xs, m, hn, hl, i, h => by
    rw [List.nodup_cons] at hn
    rw [List.zip_cons_cons]
    unfold bindC
    cases i with
    | zero =>
      simp only [List.getElem?_cons_zero, Option.some.injEq] at h
      subst h
      have nm : p ∉ (ps.zip xs).map (·.1) := by rw [List.map_fst_zip (by simpa using Nat.le_of_eq hl)]; exact hn.1
      rw [bindC_other nm, if_neg (by rw [hk]; decide)]; simp
    | succ i =>
      simp only [List.getElem?_cons_succ] at h
      simpa using bindC_at hk hn.2 (by simpa using hl) h
theorem cellsFrom_acc : ∀ (names : List (Str × NameKind)) (n : Nat) (acc : List (Str × Addr)) (x : Str), (acc.lookup x).isSome = true → ((cellsFrom n names acc).lookup x).isSome = true
  | [], _, _, _, h => h
  | (y, k) :: r, n, acc, x, h => by
    unfold cellsFrom
    split
    · refine cellsFrom_acc r _ _ x ?_
      rw [List.lookup_cons]
      split
      · rfl
      · exact h
    · exact cellsFrom_acc r _ _ x h
theorem cellsFrom_some : ∀ (names : List (Str × NameKind)) (n : Nat) (acc : List (Str × Addr)) (x : Str), names.lookup x = some .cell → ((cellsFrom n names acc).lookup x).isSome = true
  | [], _, _, _, h => by cases h
  | (y, k) :: r, n, acc, x, h => by
    rw [List.lookup_cons] at h
    unfold cellsFrom
    by_cases q : x = y
    · subst q
      simp at h
      subst h
      rw [if_pos (by rfl)]
      exact cellsFrom_acc r _ _ x (by rw [List.lookup_cons]; simp)
    · have : (x == y) = false := by simpa using q
      rw [this] at h
      split
      · exact cellsFrom_some r _ _ x h
      · exact cellsFrom_some r _ _ x h
structure DefOkC (B : Base) (a : Nat) (fd : FuncData) (body : List Stmt) (n : Nat) (ps : List Str) : Prop where
  look : ∃ oc od osl, B.K.lookup a = some ⟨oc, od, .func fd, osl⟩
  body : fd.body = .stmts body
  code : codeIn B.K fd.code fd.qualname = true
  glob : fd.globals = mainGlobals
  blt : fd.builtins = builtinsNs
  clo : fd.closure = []
  co : fd.scope.isCoroutine = false
  gen : fd.scope.isGenerator = false
  kind : fd.scope.kind = .function
  bind : ∀ xs : List Value, xs.length = n → bindArgs fd ⟨xs, []⟩ = pure (ps.zip xs)
structure FnOkC (Γ : Fn) (sc : Scope) (ps : List Str) : Prop where
  loc : ∀ x ∈ Γ.loc, sc.names.lookup x.1 = some (if x.2 then .cell else .local)
  nodup : (Γ.loc.map (·.1)).Nodup
  glb : ∀ x ∈ Γ.glb, sc.names.lookup x = some .globalImplicit
  first : (Γ.loc.map (·.1)).take ps.length = ps
theorem St.ext (T : St prog w B own s) {h' : Heap} {tk : Nat} (k : Ext s.heap h') : St prog w B own { s with heap := h', toks := tk } :=
  ⟨fun b o2 e => k.keep _ _ (T.keep b o2 e), T.gens, T.os, fun b o2 e => ⟨(T.obj b o2 e).1.ext k, (T.obj b o2 e).2⟩, by
    obtain ⟨o, e, _⟩ := T.tab.get
    exact T.tab.mono k.tups ((k.keep _ _ e).trans e.symm)⟩
theorem St.fresh (T : St prog w B own s) {a : Nat} (h : s.heap.get? a = none) : own a = none := by
  cases q : own a with
  | none => rfl
  | some o =>
    obtain ⟨ob, e', _⟩ := (T.obj a o q).1.get
    rw [h] at e'; cases e'
theorem defc_core {a : Nat} {fd : FuncData} {body : List Stmt} {n : Nat} {ps : List Str} {args : List V} {xs : List Value} {Q : V → Own → Prop} {R : Result → Shared → Prop} (D : DefOkC B a fd body n ps) (G : FnOkC Γ fd.scope ps) (hn : args.length = n) (hp : ps.length = n) (hcd : Γ.code = none)
    (ok : B.Ok) (bud : Bud (d + 1) A) (T : St prog w B own s) (hxs : VRs s.heap args xs)
    (h : TS prog w B d Γ body (args.map some ++ List.replicate (Γ.loc.length - ps.length) none) own (fun f _ own' => match f with | .ret v => Q v own' | _ => Q .none own'))
    (hR : ∀ v x o2 s2 FA', Q v o2 → VR s2.heap v x → St prog w B o2 s2 → Stp B FA' own o2 s s2 → (∀ b ∈ FA', s.heap.get? b = none) → Tups s.heap s2.heap → R (.ok (.ret x)) s2) : codeAny (model prog w) A (.call (.ref a) ⟨xs, []⟩) R s := by
  obtain ⟨oc, od, osl, lk⟩ := D.look
  have hK := ok.K.keeps T.keep
  have hxl : xs.length = n := hxs.length.trans hn
  have hpl : ps.length = xs.length := by rw [hp, hxl]
  have hpn : ps.Nodup := by rw [← G.first]; exact (List.take_sublist _ _).nodup G.nodup
  have parIn : ∀ x ∈ ps, ∃ b, (x, b) ∈ Γ.loc := fun x hx => by
    rw [← G.first] at hx
    obtain ⟨q, hq, e⟩ := List.mem_map.mp (List.mem_of_mem_take hx)
    exact ⟨q.2, by rw [← e]; exact hq⟩
  refine codeAny_call_cells (fd := fd) (binds := ps.zip xs) bud.room (hK _ _ lk) rfl (ok.T.nolimit.keeps T.keep) (codeRec_of hK D.code) D.body (D.bind xs hxl) D.clo (fun x hx => ?_) (fun s1 X => ?_) D.co D.gen D.kind
  · obtain ⟨b, hb⟩ := parIn x.1 (List.of_mem_zip hx).1
    have e := G.loc _ hb
    cases b with
    | false => exact .inl e
    | true => exact .inr ⟨e, cellsFrom_some _ _ _ _ e⟩
  obtain ⟨⟨⟨h₀, tk, rfl⟩, hns, hk, hfr⟩, hcell, hap, habove⟩ := X
  generalize hcells : (callEnvC fd s.heap.objs.size a).cells = cells at *
  have hcells' : cellsFrom (s.heap.objs.size + 1) fd.scope.names [] = cells := hcells
  have X : Ext s.heap h₀ := ⟨hk⟩
  have T1 := T.ext (tk := tk) X
  have hsz : s.heap.objs.size < h₀.objs.size := hns.lt
  have newc : ∀ x c, cells.lookup x = some c → s.heap.get? c = none := fun x c e => by
    have := habove x c (mem_of_lookup e)
    cases q : s.heap.get? c with
    | none => rfl
    | some o => exact absurd (Heap.lt_size q) (Nat.not_lt.mpr (Nat.le_of_lt this))
  have cellOf : ∀ x, (x, true) ∈ Γ.loc → ∃ c, cells.lookup x = some c := fun x hx => by
    have := cellsFrom_some fd.scope.names (s.heap.objs.size + 1) [] x (G.loc _ hx)
    rw [hcells'] at this
    exact Option.isSome_iff_exists.mp this
  generalize hFA : (s.heap.objs.size :: Γ.loc.filterMap fun q => if q.2 then cells.lookup q.1 else none) = FA'
  have memFA : ∀ c, c ∈ FA' → c = s.heap.objs.size ∨ ∃ x, (x, true) ∈ Γ.loc ∧ cells.lookup x = some c := fun c hc => by
    rw [← hFA] at hc
    rcases List.mem_cons.mp hc with e | hc
    · exact .inl e
    · obtain ⟨⟨x, b⟩, hx, e⟩ := List.mem_filterMap.mp hc
      cases b with
      | false => cases e
      | true => exact .inr ⟨x, hx, e⟩
  have newFA : ∀ c ∈ FA', s.heap.get? c = none := fun c hc => by
    rcases memFA c hc with rfl | ⟨x, _, e⟩
    · exact top _
    · exact newc x c e
  have kindOf : ∀ x b, (x, b) ∈ Γ.loc → (callEnvC fd s.heap.objs.size a).kindOf x = some (if b then .cell else .local) := fun x b hx => G.loc _ hx
  have NC : NowC prog w B ⟨d, Γ, A.deeper (callEnvC fd s.heap.objs.size a), callEnvC fd s.heap.objs.size a, FA', args.map some ++ List.replicate (Γ.loc.length - ps.length) none⟩ own { s with heap := h₀, toks := tk } := by
    refine ⟨ok, bud.deeper _, ⟨D.kind, D.glob, D.blt, kindOf, fun x hx => ?_, fun x y c hx hy h1 h2 => ?_, G.nodup, fun x hx => G.glb x hx, ?_, fun q h => by rw [hcd] at h; cases h⟩, T1, ⟨⟨fun b hb => T.fresh (newFA b hb), fun b hb => ?_, fun b hb => ?_⟩, ⟨_, hns, fun i x b hi => ?_⟩, fun x c hx hc => ?_⟩⟩
    · obtain ⟨c, e⟩ := cellOf x hx
      refine ⟨c, by rw [show (callEnvC fd s.heap.objs.size a).cells = cells from hcells]; exact e, fun _ => ?_, fun q => ?_⟩
      · rw [← hFA]
        exact List.mem_cons_of_mem _ (List.mem_filterMap.mpr ⟨(x, true), hx, by simpa using e⟩)
      · have := habove x c (mem_of_lookup e)
        have q' : c = s.heap.objs.size := q
        rw [q'] at this
        exact absurd this (Nat.lt_irrefl _)
    · have h1' : cells.lookup x = some c := hcells ▸ h1
      have h2' : cells.lookup y = some c := hcells ▸ h2
      exact name_of_addr hap (mem_of_lookup h1') (mem_of_lookup h2')
    · rw [← hFA]; exact List.mem_cons_self
    · cases q : B.h₀.get? b with
      | none => rfl
      | some o => have := T.keep b o q; rw [newFA b hb] at this; cases this
    · rcases memFA b hb with rfl | ⟨x, hx, e⟩
      · obtain ⟨o, es, ep, e, hd, _⟩ := hns
        exact ⟨o, e, .inl ⟨es, ep, hd⟩⟩
      · obtain ⟨o, e1, e2⟩ := hcell x b e
        exact ⟨o, e1, .inr ⟨_, e2⟩⟩
    · have hk' := kindOf x b (List.mem_of_getElem? hi)
      have vals : ∀ v, (((args.map some ++ List.replicate (Γ.loc.length - ps.length) none)[i]?).getD none) = some v → ps[i]? = some x ∧ ∃ xv, xs[i]? = some xv ∧ VR h₀ v xv := fun v hv => by
        by_cases q : i < ps.length
        · have e1 : ps[i]? = some x := by rw [← G.first, List.getElem?_take, if_pos q, List.getElem?_map, hi]; rfl
          have hil : i < args.length := by rw [hn, ← hp]; exact q
          rw [List.getElem?_append_left (by rw [List.length_map]; exact hil), List.getElem?_map, List.getElem?_eq_getElem hil] at hv
          simp at hv
          subst hv
          obtain ⟨xv, e4, e5⟩ := (hxs.mono X.tups).at i _ (List.getElem?_eq_getElem hil)
          exact ⟨e1, xv, e4, e5⟩
        · have hil : ¬ i < (args.map some).length := by rw [List.length_map, hn, ← hp]; exact q
          rw [List.getElem?_append_right (Nat.le_of_not_lt hil), List.getElem?_replicate] at hv
          split at hv <;> simp at hv
      cases b with
      | false =>
        cases hv : ((args.map some ++ List.replicate (Γ.loc.length - ps.length) none)[i]?).getD none with
        | none => trivial
        | some v =>
          obtain ⟨e1, xv, e4, e5⟩ := vals v hv
          exact ⟨xv, (bindL_at hk' hpn hpl e1).trans e4, e5⟩
      | true =>
        obtain ⟨c, e⟩ := cellOf x (List.mem_of_getElem? hi)
        refine ⟨c, _, hcells ▸ e, hcell x c e, ?_⟩
        cases hv : ((args.map some ++ List.replicate (Γ.loc.length - ps.length) none)[i]?).getD none with
        | none => trivial
        | some v =>
          obtain ⟨e1, xv, e4, e5⟩ := vals v hv
          exact ⟨xv, (bindC_at hk' hpn hpl e1).trans e4, e5⟩
    · have e : cells.lookup x = some c := hcells ▸ hc
      obtain ⟨o, e1, e2⟩ := hcell x c e
      exact ⟨T.fresh (newc x c e), o, e1, .inr ⟨_, e2⟩⟩
  have fin : ∀ (v : V) (x : Value) (o2 : Own) (s2 : Shared), Q v o2 → VR s2.heap v x → St prog w B o2 s2 → Stp B FA' own o2 { s with heap := h₀, toks := tk } s2 → Tups h₀ s2.heap → R (.ok (.ret x)) s2 := by
    intro v x o2 s2 q r T' S tu
    have S0 : Stp B FA' own o2 s s2 := by
      refine ⟨fun b o e hf hn hp => S.oth b o (hk b o e) hf hn hp, fun b hb => ?_, fun b o e => S.stay b o (hk b o e)⟩
      rcases S.new b hb with z | z
      · exact .inl z
      · refine .inr ?_
        cases q : s.heap.get? b with
        | none => rfl
        | some o => have e := hk b o q; rw [show h₀.get? b = none from z] at e; cases e
    exact hR v x o2 s2 FA' q r T' S0 newFA (fun b o e hx => tu b o (hk b o e) hx)
  refine h _ _ _ _ NC _ _ fun f x l2 o2 s2 q r N2 S2 => ?_
  have tu := NC.tups S2
  cases f with
  | next => cases r; exact fin _ _ _ _ q rfl N2.st S2 tu
  | brk => cases r; exact fin _ _ _ _ q rfl N2.st S2 tu
  | cont => cases r; exact fin _ _ _ _ q rfl N2.st S2 tu
  | ret v => obtain ⟨x, rfl, r⟩ := r; exact fin _ _ _ _ q r N2.st S2 tu
theorem TC.defc {a : Nat} {fd : FuncData} {body : List Stmt} {n : Nat} {ps : List Str} {args : List V} {Q : V → Own → Prop} (D : DefOkC B a fd body n ps) (G : FnOkC Γ fd.scope ps) (hn : args.length = n) (hp : ps.length = n) (hcd : Γ.code = none)
    (h : TS prog w B d Γ body (args.map some ++ List.replicate (Γ.loc.length - ps.length) none) own (fun f _ own' => match f with | .ret v => Q v own' | _ => Q .none own')) : TC prog w B (d + 1) (.ref a) args own Q := by
  intro C s hC N xs hxs R hR
  obtain ⟨Cd, CΓ, CA, Cenv, CFA, Cl⟩ := C
  dsimp only at hC; subst hC
  refine defc_core D G hn hp hcd N.ok N.bud N.st hxs h fun v x o2 s2 FA' q r T S newFA tu => ?_
  exact hR v x o2 s2 q r (N.other S T newFA tu) ⟨fun b o e _ hn hp => S.oth b o e (fun q => by rw [newFA b q] at e; cases e) hn hp, S.new, S.stay⟩
end
end Lw.Internal
namespace Lw.Internal
section
variable {prog : Program} {w : World} {B : Base} {d : Nat} {Γ Γc : Fn} {A : Around} {env : Env} {FA : List Nat} {l l₀ l' : List (Option V)} {own own₀ own' own'' : Own} {s s₀ s' s'' : Shared} {C : Ct} {E : Value → Shared → Prop}
theorem T2.fdiv {a b : Int} {Q : V → Own → Prop} (hb : b ≠ 0) (hs : b.natAbs < 1073741824) (h : Q (.int (a.fdiv b)) own) : T2 prog w B (binaryOp .FloorDiv) (.int a) (.int b) own Q := by
  rintro C s N _ _ ⟨t, rfl⟩ ⟨u, rfl⟩ Q' E p
  exact PyProof.Rows.floordiv_int hb (p _ _ _ _ h ⟨_, rfl⟩ (N.tok _).1 (N.tok _).2) (.inl (PyProof.noPylong_small hs))
theorem T2.mul {a b : Int} {Q : V → Own → Prop} (hm : IntMulOk a b) (h : Q (.int (a * b)) own) : T2 prog w B (binaryOp .Mult) (.int a) (.int b) own Q := by
  rintro C s N _ _ ⟨t, rfl⟩ ⟨u, rfl⟩ Q' E p
  exact PyProof.Rows.mul_int (p _ _ _ _ h ⟨_, rfl⟩ (N.tok _).1 (N.tok _).2) hm
theorem TN.max2 {a b : Int} {Q : V → Own → Prop} (h : Q (.int (if b > a then b else a)) own) : TN prog w B (fun xs => PySem.call (.builtin "max") xs) [.int a, .int b] own Q := by
  intro C s N xs r Q' E p
  obtain ⟨x, y, rfl, r1, r2⟩ := r.two
  obtain ⟨t, rfl⟩ := r1
  obtain ⟨u, rfl⟩ := r2
  refine max_two_ints N.bud.hd fun h' tk hk => ?_
  obtain ⟨N', S'⟩ := N.ext (tk := tk) (⟨hk⟩ : Ext s.heap h')
  refine p _ _ _ _ h ?_ N' S'
  split
  · exact ⟨u, rfl⟩
  · exact ⟨t, rfl⟩
theorem TN.int1 {a : Int} {Q : V → Own → Prop} (h : Q (.int a) own) : TN prog w B (fun xs => PySem.call (.type "int") xs) [.int a] own Q := by
  intro C s N xs r Q' E p
  obtain ⟨x, rfl, r1⟩ := r.one
  obtain ⟨t, rfl⟩ := r1
  exact call_int_int (p _ _ _ _ h ⟨t, rfl⟩ N .refl)
theorem bools_at {h : Heap} : ∀ {bs : List Bool} {xs : List Value}, VRs h (bs.map V.bool) xs → xs = bs.map Value.bool
  | [], _, r => by simpa [VRs] using r
  | b :: bs, _, r => by
    simp only [List.map_cons, VRs] at r
    obtain ⟨x, t, rfl, h1, h2⟩ := r
    simp only [VR] at h1; subst h1
    rw [bools_at h2, List.map_cons]
theorem TN.any {a : Nat} {bs : List Bool} {Q : V → Own → Prop} (ho : own a = some (.list (bs.map V.bool))) (h : Q (.bool (bs.any id)) own) : TN prog w B (fun xs => PySem.call (.builtin "any") xs) [.obj a] own Q := by
  intro C s N xs r Q' E p
  obtain ⟨x, rfl, r1⟩ := r.one
  simp only [VR] at r1; subst r1
  obtain ⟨its, n, ea, il, r⟩ := (N.st.obj a _ ho).1.isList
  have ei := bools_at r
  have hsz : its.size = bs.length := by rw [VRs.size r, List.length_map]
  have hlt : a < s.heap.objs.size := Heap.lt_size ea
  refine call_any_walk (wpAny_pyIter_list il ?_)
  refine ⟨_, _, _, _, _, _, fun i => bs[i]?.getD false, rfl, Walks.list (A := C.A.in1) N.bud.hd _ a (Nat.ne_of_lt hlt) its, ⟨⟨_, Heap.get?_push_size _ rfl, rfl, rfl⟩, il.push _⟩, fun i v s Q E hv hq => ?_, fun h' tk hk => ?_⟩
  · have hv : its[i]? = some v := hv
    have : its.toList[i]? = some v := by simpa using hv
    rw [ei, List.getElem?_map] at this
    obtain ⟨b, hb, rfl⟩ := Option.map_eq_some_iff.mp this
    refine wpAny_truthy_bool ?_
    simp only [hb, Option.getD_some] at hq
    exact hq
  · have hk2 : ∀ b o, s.heap.get? b = some o → h'.get? b = some o := fun b o e => hk b o (fun hm => by
      rw [List.mem_singleton] at hm; subst hm; exact absurd (Heap.lt_size e) (Nat.lt_irrefl _)) (Heap.get?_push_of_some _ e)
    obtain ⟨N', S'⟩ := N.ext (tk := tk) (⟨hk2⟩ : Ext s.heap h')
    refine p _ _ _ _ h ?_ N' S'
    have e : ((List.range its.size).any fun i => bs[i]?.getD false) = bs.any id := by
      rw [hsz]
      have : (List.range bs.length).map (fun i => bs[i]?.getD false) = bs := by
        apply List.ext_getElem
        · simp
        · intro i h1 h2
          simp [h2]
      calc ((List.range bs.length).any fun i => bs[i]?.getD false) = ((List.range bs.length).map (fun i => bs[i]?.getD false)).any id := by rw [List.any_map]; rfl
        _ = bs.any id := by rw [this]
    rw [e]; rfl
noncomputable def V.isBool : V → Bool | .bool _ => true | _ => false
noncomputable def V.asked (own : Own) : V → Prop
  | .obj _ | .str _ => False
  | _ => True
theorem TE.isbool {x y : Str} {np np2 pos : Pos} {e : Expr} {Q : V → Own → Prop} (hx : x ∈ Γ.glb) (hd : (x == ("__debug__" : Str)) = false) (en : nsIn B.K mainGlobals x = some Option.none) (hv : bootBuiltins x = some (.builtin "isinstance")) (hn : x ≠ "__name__")
    (hy : y ∈ Γ.glb) (hdy : (y == ("__debug__" : Str)) = false) (eny : nsIn B.K mainGlobals y = some Option.none) (hvy : bootBuiltins y = some (.type "bool")) (hny : y ≠ "__name__") (hs : noStar [e] = true)
    (h : TE prog w B d Γ e l own (fun v own₁ => v.asked own₁ ∧ Q (.bool v.isBool) own₁)) : TE prog w B d Γ (.Call (.Name x np) [e, .Name y np2] [] pos) l own Q := by
  intro A env FA s N Q' E p
  obtain ⟨h1, _⟩ := noStar_cons hs
  refine wpAny_Call_NameR (bname N hx hd en hv hn (PyProof.Rows.callWith_builtin1 ?_ (starEach_cons h1) rfl))
  rw [starEach_cons h1]
  show wpAny _ _ (spliced ((false, eval e env) :: backTo pos (starEach [.Name y np2] env))) _ _ _
  refine Calls.spliced_cons (h A env FA s N _ E fun v xv o1 s1 q1 r1 N1 S1 => ?_)
  show wpAny _ _ (spliced ((false, eval (.Name y np2) env) :: [])) _ _ _
  refine Calls.spliced_cons (bname N1 hy hdy eny hvy hny (Calls.spliced_nil ?_))
  obtain ⟨ask, q⟩ := q1
  cases v with
  | none => simp only [VR] at r1; subst r1; exact PySem.IsiPair.NoneType_bool (p _ _ _ _ q rfl (N1.tok _).1 (S1.trans (N1.tok _).2))
  | bool b => simp only [VR] at r1; subst r1; exact PySem.IsiPair.bool_bool (p _ _ _ _ q rfl N1 S1)
  | int i => simp only [VR] at r1; obtain ⟨t, rfl⟩ := r1; exact PySem.IsiPair.int_bool (p _ _ _ _ q rfl (N1.tok _).1 (S1.trans (N1.tok _).2))
  | str _ => exact ask.elim
  | obj _ => exact ask.elim
  | tup vs =>
    obtain ⟨a, its, rfl, it, r, e⟩ := r1.tupIs
    exact PySem.IsiPair.tuple_bool e rfl (p _ _ _ _ q rfl (N1.tok _).1 (S1.trans (N1.tok _).2))
theorem rev_pair {t sl : Addr} {x y : Value} {u : Tok} {Q : Value → Shared → Prop} (ht : IsTup s.heap t #[x, y]) (hs : s.heap.IsSliceOf sl .none .none (.int (-1) u))
    (h : Q (.ref s.heap.objs.size) { s with heap := s.heap.push { cls := .type "tuple", data := .seq #[y, x] } }) : wpAny (model prog w) A (getItem (.ref t) (.ref sl)) Q E s := by
  obtain ⟨os, hos, hcs, hds⟩ := id hs
  have hTs : s.TypeIs (.ref sl) "slice" := ⟨os, hos, hcs⟩
  have ap : ∀ {Q : Int × Int × Nat → Shared → Prop}, Q ((1 : Int), -1, 2) s → wpAny (model prog w) A.in1 (Builtin.Slice.sliceApplied (.ref sl) (pure ((2 : Nat) : Int))) Q E s := by
    intro Q h
    unfold Builtin.Slice.sliceApplied Builtin.Slice.sliceFields
    refine wpAny_bind (wpAny_bind (wpAny_field hos hds (x := .none) rfl (wpAny_bind (wpAny_field hos hds (x := .none) rfl (wpAny_bind (wpAny_field hos hds (x := .int (-1) u) rfl (wpAny_pure ?_)))))))
    refine wpAny_bind (slicePart_int ?_)
    show wpAny _ _ (if ((-1 : Int) == 0) = true then _ else _) _ _ s
    rw [if_neg (by decide)]
    refine wpAny_bind (slicePart_none (wpAny_bind (slicePart_none (wpAny_bind (wpAny_pure ?_)))))
    exact wpAny_pure h
  unfold getItem
  try with_reducible refine wpAny_holding ?_
  first | refine wpAny_bind (wpAny_pure ?_) | skip
  refine wpAny_bind (wpAny_sequenceKey ht.typeIs (by decide) ?_)
  refine wpAny_bind (wpAny_callSpecial?_slot (name := Str.ofString "__getitem__") ht.typeIs slot_tuple_getitem
    (wpAny_call_entry slot_tuple_getitem ht.typeIs entry_tuple_getitem ?_ (args_tuple_getitem _ _)))
  show wpAny _ _ (Builtin.Tuple.tupleItemsOf (.ref t) >>= _) _ _ s
  refine wpAny_bind (tupleItemsOf_ ht ?_)
  refine wpAny_bind (wpAny_typeOf hTs ?_)
  rw [if_pos (by decide)]
  refine wpAny_bind (ap ?_)
  show wpAny _ _ (if ((1 : Int) == 0 && (-1 : Int) == 1 && (2 : Nat) == (#[x, y] : Array Value).size) = true then _ else _) _ _ s
  rw [if_neg (by exact Bool.false_ne_true)]
  have hno : sizeOk (.seq #[y, x]) := by show 2 ≤ sizeLine; rw [sizeLine_eq]; decide
  have hpk : ((List.range 2).filterMap fun (k : Nat) => (#[x, y] : Array Value)[((1 : Int) + (k : Int) * -1).toNat]?).toArray = #[y, x] := rfl
  first
    | exact wpAny_bind (m := Builtin.Tuple.tupleExact _) (wpAny_newObj_type (wpAny_pure ⟨_, rfl, wpAny_pure h⟩) hno)
    | exact wpAny_bind (m := Builtin.Tuple.tupleExact _) (wpAny_newObj_type (wpAny_bind (wpAny_pure (wpAny_pure ⟨_, rfl, wpAny_pure h⟩))) hno)
    | exact wpAny_bind (wpAny_bind (m := Builtin.Tuple.tupleExact _) (wpAny_newObj_type (wpAny_pure (wpAny_pure ⟨_, rfl, wpAny_pure h⟩)) hno))
    | exact wpAny_bind (wpAny_bind (m := Builtin.Tuple.tupleExact _) (wpAny_newObj_type (wpAny_pure ⟨_, rfl, wpAny_pure h⟩) hno))
theorem TE.rev2 {e st : Expr} {p1 pos : Pos} {Q : V → Own → Prop} (hs : ∀ o i, subscripted (.Slice Option.none Option.none (some st) p1) false o i = operate [o, i] (getItem o i))
    (h : TE prog w B d Γ e l own (fun x own₁ => TE prog w B d Γ st l own₁ (fun b own₂ => ∃ u v, x = .tup [u, v] ∧ b = .int (-1) ∧ Q (.tup [v, u]) own₂))) :
    TE prog w B d Γ (.Subscript e (.Slice Option.none Option.none (some st) p1) pos) l own Q := by
  intro A env FA s N Q' E p
  refine Subscript_ (h A env FA s N _ E fun v x o1 s1 q1 r1 N1 S1 => wpAny_Slice (wpAny_pure (wpAny_pure (q1 A env FA s1 N1 _ E fun v2 x2 o2 s2 q2 r2 N2 S2 => ?_))))
  obtain ⟨u, v', rfl, rfl, q⟩ := q2
  have r1' := r1.mono (N1.tups S2)
  obtain ⟨t, rfl⟩ := r2
  have X := Ext.push s2.heap { cls := .type "slice", data := .fields #[.none, .none, .int (-1) t] }
  obtain ⟨N3, S3⟩ := N2.ext (tk := s2.toks) X
  obtain ⟨a, its, rfl, it, r, e⟩ := (r1'.mono X.tups).tupIs
  obtain ⟨xv, yv, e2, ra, rb⟩ := r.two
  have ei : its = #[xv, yv] := by rw [← Array.toArray_toList (xs := its), e2]
  subst ei
  refine tail_any it.typeIs slot_tuple_getitem.lookup (rev_pair it (Heap.IsSliceOf.new ..) ?_) (hs _ _)
  have X2 := Ext.push (s2.heap.push { cls := .type "slice", data := .fields #[.none, .none, .int (-1) t] }) { cls := .type "tuple", data := .seq #[yv, xv] }
  obtain ⟨N4, S4⟩ := N3.ext (tk := s2.toks) X2
  exact p _ _ _ _ q ⟨_, _, rfl, Heap.get?_push_size _ rfl, _, _, rfl, rb.mono X2.tups, _, _, rfl, ra.mono X2.tups, rfl⟩ N4 (((S1.trans S2).trans S3).trans S4)
theorem draw_list {it a : Nat} {its : Array Value} (hne : a ≠ it) : ∀ (n i : Nat) (s : Shared) (Q : List Value → Shared → Prop), s.heap.IsListIter it a i → s.heap.IsList a its → i + n ≤ its.size →
    (∀ h', h'.IsListIter it a (i + n) → Heap.SameBut it s.heap h' → Q ((its.toList.drop i).take n) { s with heap := h' }) → wpAny (model prog w) A (draw (.ref it) n) Q E s
  | 0, i, s, Q, hit, _, _, hQ => by
    show wpAny _ _ (pure []) Q E s
    exact wpAny_pure (by simpa using hQ s.heap hit (Heap.SameBut.refl ..))
  | n + 1, i, s, Q, hit, ht, hle, hQ => by
    have hlt : i < its.size := by omega
    show wpAny _ _ (pyNext (.ref it) >>= _) Q E s
    refine wpAny_bind (wpAny_pyNext_list_item hit ht (x := its[i]) (by simp [hlt]) fun h₁ hit₁ hs₁ => ?_)
    dsimp only
    refine wpAny_bind (wpAny_holding (draw_list hne n (i + 1) _ _ hit₁ (ht.extBut hs₁.extBut hne) (by omega) fun h₂ hit₂ hs₂ => wpAny_pure ?_))
    have hd : its.toList.drop i = its[i] :: its.toList.drop (i + 1) := by simp [List.drop_eq_getElem_cons, hlt]
    have := hQ h₂ (by rw [show i + (n + 1) = i + 1 + n by omega]; exact hit₂) (hs₁.trans hs₂)
    rw [hd, List.take_succ_cons] at this
    exact this
theorem TG.unlist {es : List Expr} {k : Nat} {pos : Pos} {a : Nat} {vs : List V} {Q : List (Option V) → Own → Prop} (ho : own a = some (.list vs)) (hs : noStar es = true) (hn : es.length = vs.length) (h : TGo prog w B d Γ es vs l own Q) : TG prog w B d Γ (.Tuple es k pos) (.obj a) l own Q := by
  intro A env FA s N x r Q' E p
  simp only [VR] at r; subst r
  obtain ⟨its, n, ea, il, r⟩ := (N.st.obj a _ ho).1.isList
  have hsz := VRs.size r
  have hlt : a ≠ s.heap.objs.size := Nat.ne_of_lt (Heap.lt_size ea)
  rw [arm_assign_Tuple]
  refine wpAny_bind (wpAny_standAt ?_)
  unfold unpack
  rw [assignEach_star es hs]
  refine wpAny_bind (wpAny_holding ?_)
  have hl : (assignEach es env).length = its.size := by rw [assignEach_length, hn, hsz]
  rw [hl]
  unfold unpackItems
  refine wpAny_bind ?_
  unfold notIterableAtAll
  refine wpAny_bind (wpAny_specialOf il.typeIs slot_list_iter.lookup ?_)
  refine wpAny_pure ?_
  simp only [Bool.false_eq_true, if_false]
  refine wpAny_bind (wpAny_holding (wpAny_pyIter_list il ?_))
  refine wpAny_bind (wpAny_holding (draw_list hlt its.size 0 _ _ ⟨_, Heap.get?_push_size _ rfl, rfl, rfl⟩ (il.push _) (by omega) fun h₁ hit₁ hs₁ => ?_))
  have hall : List.take its.size (List.drop 0 its.toList) = its.toList := by
    rw [List.drop_zero]; exact List.take_of_length_le (by simp)
  rw [hall]
  rw [if_neg (by simp)]
  have ht₁ : h₁.IsList a its := (il.push _).extBut hs₁.extBut hlt
  refine wpAny_bind (wpAny_holding (wpAny_pyNext_list_end N.bud.hd hit₁ ht₁ (by simp) fun h₂ he₂ => ?_))
  simp only [Option.isSome_none, Bool.false_eq_true, if_false]
  refine wpAny_pure ?_
  have X : Ext s.heap h₂ := ⟨fun b o e => he₂ b o (Nat.ne_of_lt (Heap.lt_size e)) (hs₁.extBut b o (Nat.ne_of_lt (Heap.lt_size e)) (Heap.get?_push_of_some _ e))⟩
  obtain ⟨N2, S2⟩ := N.ext (tk := s.toks) X
  exact h A env FA _ N2 _ (r.mono X.tups) Q' E (fun l2 o2 s2 q2 N3 S3 => p _ _ _ q2 N3 (S2.trans S3))
end
end Lw.Internal
namespace Lw.Internal
section
variable {prog : Program} {w : World} {B : Base} {d : Nat} {Γ Γc : Fn} {A : Around} {env : Env} {FA : List Nat} {l l₀ l' : List (Option V)} {own own₀ own' own'' : Own} {s s₀ s' s'' : Shared} {C : Ct} {E : Value → Shared → Prop}
structure LamOk (B : Base) (c : Nat) : Prop where
  hd : CodeHd B.h₀ c B.P
  bm : B.h₀.BuiltinsAt B.mg B.P
theorem Now.tab (N : Now prog w B d Γ A env FA l own s) {h' : Heap} {tk : Nat} (hx : Heap.ExtBut B.P s.heap h') (ht : TabSt B h') :
    Now prog w B d Γ A env FA l own { s with heap := h', toks := tk } ∧ Stp B FA own own s { s with heap := h', toks := tk } := by
  have nP : ∀ b o, s.heap.get? b = some o → o.cls ≠ .none → b ≠ B.P := fun b o e n q => by
    obtain ⟨o', e', n'⟩ := N.st.tab.get
    rw [← q, e] at e'; cases e'; exact n n'
  have nF : ∀ b o, s.heap.get? b = some o → FrD o → b ≠ B.P := fun b o e n q => by
    rcases N.st.tab with z | ⟨_, _, _, _, z, _⟩
    · rw [← q, e] at z; cases z; rcases n with ⟨_, _, n⟩ | ⟨_, n⟩ <;> cases n
    · rw [← q, e] at z; cases z; rcases n with ⟨_, _, n⟩ | ⟨_, n⟩ <;> cases n
  have tu : Tups s.heap h' := fun a o e hc => hx a o (nP a o e (by rcases hc.cls with h | h <;> rw [h] <;> simp)) e
  have S : Stp B FA own own s { s with heap := h', toks := tk } := by
    refine ⟨fun a o e _ _ hp => hx a o hp e, fun _ h => .inl h, fun a o e => ?_⟩
    by_cases q : a = B.P
    · subst q; obtain ⟨o', e', _⟩ := ht.get; exact ⟨o', e'⟩
    · exact ⟨o, hx a o q e⟩
  refine ⟨⟨N.ok, N.bud, N.cx, ⟨fun b o e => hx b o (fun q => by subst q; rw [N.ok.P] at e; cases e) (N.st.keep b o e), N.st.gens, N.st.os, fun a o e => ?_, ht⟩, ⟨⟨N.loc.fa.own, N.loc.fa.hi, fun a ha => ?_⟩, ?_, N.loc.cells_keep (fun _ h => .inl h) fun c o _ h2 h3 => ⟨o, hx c o (nF c o h3 h2) h3, h2⟩⟩⟩, S⟩
  · obtain ⟨y1, y2, y3⟩ := N.st.obj a o e
    obtain ⟨ob, e1, _⟩ := y1.get
    exact ⟨y1.mono tu ((hx a ob y3 e1).trans e1.symm), y2, y3⟩
  · obtain ⟨o, e, n⟩ := N.loc.fa.obj a ha
    exact ⟨o, hx a o (nF a o e n) e, n⟩
  · obtain ⟨m, ⟨o, es, ep, e, hd, r⟩, hl⟩ := N.loc.ns
    refine ⟨m, ⟨o, es, ep, hx _ _ (nF _ _ e (.inl ⟨es, ep, hd⟩)) e, hd, r⟩, fun i x b hi => (hl i x b hi).mono tu fun hb c hc => ?_⟩
    subst hb
    obtain ⟨_, o', e', n⟩ := N.loc.cells x c (List.mem_of_getElem? hi) hc
    exact (hx c o' (nF c o' e' n) e').trans e'.symm
noncomputable def LamAt (prog : Program) (h : Heap) (f : Nat) (params : Arguments) (body : Expr) (sc : Scope) (q : Str) : Prop :=
  ∃ pm c' ct, h.get? f = some { cls := .type "function", data := .func (kla_fn "<lambda>" q params body sc [] pm (.ref c') ct) } ∧ h.CodeRec (.ref c') q
theorem lam_make {params : Arguments} {body : Expr} {sc : Scope} {pos : Pos} {c : Nat} {q : Str} {Q' : Value → Shared → Prop} (N : NowC prog w B ⟨d, Γ, A, env, FA, l⟩ own s) (L : LamOk B c) (hG : Γ.code = some (.ref c, q)) (hq : q ++ ("<lambda>" : Str) = B.cname) (hl : (pos.line : Int) = B.line) (hcol : (pos.col : Int) = B.col)
    (hdef : ∀ env : Env, defaultsOf params env = ([], [])) (hfree : ∀ x ∈ sc.names, x.2 ≠ .free)
    (h : ∀ f s', LamAt prog s'.heap f params body sc B.cname → own f = none → NowC prog w B ⟨d, Γ, A, env, FA, l⟩ own s' → Stp B FA own own s s' → Q' (.ref f) s') :
    wpAny (model prog w) A (eval (.Lambda params body sc pos) env) Q' E s := by
  obtain ⟨hc1, hc2⟩ := N.cx.code _ hG
  have hc1 : env.code = .ref c := hc1
  have hc2 : env.qual = q := hc2
  refine kla_eval (hdef env) ?_
  rw [hc2, hq]
  rw [makeFunction_eq]
  simp only [List.zip_nil_right, List.filterMap_nil, List.isEmpty_nil, if_true, pure_bind]
  have hg : s.heap.Ns mainGlobals B.mg := N.ok.T.g.keeps N.st.keep
  have hgP : mainGlobals ≠ B.P := fun z => by
    obtain ⟨o, es, ep, e, _⟩ := N.ok.T.g
    rw [z, N.ok.P] at e; cases e
  obtain ⟨bm, ob, hbm, hne0, _, hneP, hbo, hcls, hdict, hdata⟩ := L.bm
  have hd := L.hd.keeps N.st.keep
  unfold makeTail
  rw [closureFor_none hfree, N.cx.glob]
  refine wpAny_bind (wpAny_pure ?_)
  simp only [List.isEmpty_nil, if_true]
  refine wpAny_bind (wpAny_pure ?_)
  have eL : rawInt pos.line = .int B.line 0 := by rw [← hl]; rfl
  have eC : rawInt pos.col = .int B.col 0 := by rw [← hcol]; rfl
  rcases N.st.tab with hP | ⟨c', oc, vs, t, hP, hc', hcc, hcd, hv⟩
  · refine wpAny_bind (wpAny_functionCodeX hc1 (hd.code hP trivial) (hd.tab hP) rfl fun c' h' tk hx hge hlt hcode hrec htab hmore => ?_)
    have hg' := hg.extBut hx hgP
    refine wpAny_bind (wpAny_builtinsFor hg' hbm hne0 (hx _ _ hneP (N.st.keep _ _ hbo)) hcls hdict hdata (wpAny_bind (wpAny_nsGet hg' ?_)))
    obtain ⟨P', hP', _, ⟨⟨oc, vc, g1, g2, g3, g4⟩, _⟩⟩ := hmore
    obtain ⟨c2, oc2, vs2, t2, e2, g5, g6, g7⟩ := id hrec
    cases e2
    rw [g1] at g5; cases g5
    rw [g3] at g6; cases g6
    have ht : TabSt B h' := by
      refine .inr ⟨c', oc, vc, t2, ?_, g1, g2, g3, g7⟩
      have := htab.2
      rw [eL, eC] at this
      exact this
    obtain ⟨N1, S1⟩ := N.tab (tk := tk) hx ht
    refine wpAny_bind (wpAny_pure (wpAny_newObj_type ?_ (by size_fits)))
    have X := Ext.push h' (kla_obj "<lambda>" B.cname params body sc [] ((B.mg "__name__").getD .none) c' .none)
    obtain ⟨N2, S2⟩ := N1.ext (tk := tk) X
    exact h _ _ ⟨_, c', _, Heap.get?_push_size _ rfl, hrec.push _⟩ (N1.fresh (top _)) N2 (S1.trans S2)
  · refine wpAny_bind (wpAny_functionCode_hit hc1 (hd.code hP trivial) (c' := .ref c') ?_ ?_)
    · show (if (B.line == pos.line && B.col == pos.col) = true then _ else _) = _
      rw [← hl, ← hcol]; simp
    refine wpAny_bind (wpAny_builtinsFor hg hbm hne0 (N.st.keep _ _ hbo) hcls hdict hdata (wpAny_bind (wpAny_nsGet hg ?_)))
    refine wpAny_bind (wpAny_pure (wpAny_newObj_type ?_ (by size_fits)))
    have X := Ext.push s.heap (kla_obj "<lambda>" B.cname params body sc [] ((B.mg "__name__").getD .none) c' .none)
    obtain ⟨N2, S2⟩ := N.ext (tk := s.toks) X
    exact h _ _ ⟨_, c', _, Heap.get?_push_size _ rfl, ⟨c', oc, vs, t, rfl, X.keep _ _ hc', hcd, hv⟩⟩ (N.fresh (top _)) N2 S2
end
end Lw.Internal
namespace Lw.Internal
noncomputable abbrev PW : Program := PySem.Challenge.pw_on0373_01
theorem S0 : Str.ofString "_law_deck" = ⟨⟨[95, 108, 97, 119, 95, 100, 101, 99, 107]⟩⟩ := rfl
theorem S1 : Str.ofString "script" = ⟨⟨[115, 99, 114, 105, 112, 116]⟩⟩ := rfl
theorem S2 : Str.ofString "cells" = ⟨⟨[99, 101, 108, 108, 115]⟩⟩ := rfl
theorem S3 : Str.ofString "at" = ⟨⟨[97, 116]⟩⟩ := rfl
theorem S4 : Str.ofString "int" = ⟨⟨[105, 110, 116]⟩⟩ := rfl
theorem S5 : Str.ofString "cell" = ⟨⟨[99, 101, 108, 108]⟩⟩ := rfl
theorem S6 : Str.ofString ".0" = ⟨⟨[46, 48]⟩⟩ := rfl
theorem S7 : Str.ofString "fast" = ⟨⟨[102, 97, 115, 116]⟩⟩ := rfl
theorem S8 : Str.ofString "_law_draw" = ⟨⟨[95, 108, 97, 119, 95, 100, 114, 97, 119]⟩⟩ := rfl
theorem S9 : Str.ofString "deck" = ⟨⟨[100, 101, 99, 107]⟩⟩ := rfl
theorem S10 : Str.ofString "below" = ⟨⟨[98, 101, 108, 111, 119]⟩⟩ := rfl
theorem S11 : Str.ofString "len" = ⟨⟨[108, 101, 110]⟩⟩ := rfl
theorem S12 : Str.ofString "_law_data" = ⟨⟨[95, 108, 97, 119, 95, 100, 97, 116, 97]⟩⟩ := rfl
theorem S13 : Str.ofString "parts" = ⟨⟨[112, 97, 114, 116, 115]⟩⟩ := rfl
theorem S14 : Str.ofString "made" = ⟨⟨[109, 97, 100, 101]⟩⟩ := rfl
theorem S15 : Str.ofString "Data" = ⟨⟨[68, 97, 116, 97]⟩⟩ := rfl
theorem S16 : Str.ofString "code" = ⟨⟨[99, 111, 100, 101]⟩⟩ := rfl
theorem S17 : Str.ofString "_law_statuses" = ⟨⟨[95, 108, 97, 119, 95, 115, 116, 97, 116, 117, 115, 101, 115]⟩⟩ := rfl
theorem S18 : Str.ofString "put" = ⟨⟨[112, 117, 116]⟩⟩ := rfl
theorem S19 : Str.ofString "idna" = ⟨⟨[105, 100, 110, 97]⟩⟩ := rfl
theorem S20 : Str.ofString "_law_classes" = ⟨⟨[95, 108, 97, 119, 95, 99, 108, 97, 115, 115, 101, 115]⟩⟩ := rfl
theorem S21 : Str.ofString "ccc" = ⟨⟨[99, 99, 99]⟩⟩ := rfl
theorem S22 : Str.ofString "dm" = ⟨⟨[100, 109]⟩⟩ := rfl
theorem S23 : Str.ofString "" = ⟨⟨[]⟩⟩ := rfl
theorem S24 : Str.ofString "_law_one" = ⟨⟨[95, 108, 97, 119, 95, 111, 110, 101]⟩⟩ := rfl
theorem S25 : Str.ofString "is_late" = ⟨⟨[105, 115, 95, 108, 97, 116, 101]⟩⟩ := rfl
theorem S26 : Str.ofString "is_strict" = ⟨⟨[105, 115, 95, 115, 116, 114, 105, 99, 116]⟩⟩ := rfl
theorem S27 : Str.ofString "status" = ⟨⟨[115, 116, 97, 116, 117, 115]⟩⟩ := rfl
theorem S28 : Str.ofString "others" = ⟨⟨[111, 116, 104, 101, 114, 115]⟩⟩ := rfl
theorem S29 : Str.ofString "get" = ⟨⟨[103, 101, 116]⟩⟩ := rfl
theorem S30 : Str.ofString "disallowed" = ⟨⟨[100, 105, 115, 97, 108, 108, 111, 119, 101, 100]⟩⟩ := rfl
theorem S31 : Str.ofString "disallowed_" = ⟨⟨[100, 105, 115, 97, 108, 108, 111, 119, 101, 100, 95]⟩⟩ := rfl
theorem S32 : Str.ofString "deviation" = ⟨⟨[100, 101, 118, 105, 97, 116, 105, 111, 110]⟩⟩ := rfl
theorem S33 : Str.ofString "list" = ⟨⟨[108, 105, 115, 116]⟩⟩ := rfl
theorem S34 : Str.ofString "valid" = ⟨⟨[118, 97, 108, 105, 100]⟩⟩ := rfl
theorem S35 : Str.ofString "disallowed_STD3_valid" = ⟨⟨[100, 105, 115, 97, 108, 108, 111, 119, 101, 100, 95, 83, 84, 68, 51, 95, 118, 97, 108, 105, 100]⟩⟩ := rfl
theorem S36 : Str.ofString "found" = ⟨⟨[102, 111, 117, 110, 100]⟩⟩ := rfl
theorem S37 : Str.ofString "other" = ⟨⟨[111, 116, 104, 101, 114]⟩⟩ := rfl
theorem S38 : Str.ofString "is_further" = ⟨⟨[105, 115, 95, 102, 117, 114, 116, 104, 101, 114]⟩⟩ := rfl
theorem S39 : Str.ofString "extend" = ⟨⟨[101, 120, 116, 101, 110, 100]⟩⟩ := rfl
theorem S40 : Str.ofString "_law_ordered" = ⟨⟨[95, 108, 97, 119, 95, 111, 114, 100, 101, 114, 101, 100]⟩⟩ := rfl
theorem S41 : Str.ofString "signs" = ⟨⟨[115, 105, 103, 110, 115]⟩⟩ := rfl
theorem S42 : Str.ofString "own" = ⟨⟨[111, 119, 110]⟩⟩ := rfl
theorem S43 : Str.ofString "insert" = ⟨⟨[105, 110, 115, 101, 114, 116]⟩⟩ := rfl
theorem S44 : Str.ofString "_law_composed" = ⟨⟨[95, 108, 97, 119, 95, 99, 111, 109, 112, 111, 115, 101, 100]⟩⟩ := rfl
theorem S45 : Str.ofString "apart" = ⟨⟨[97, 112, 97, 114, 116]⟩⟩ := rfl
theorem S46 : Str.ofString "groups" = ⟨⟨[103, 114, 111, 117, 112, 115]⟩⟩ := rfl
theorem S47 : Str.ofString "append" = ⟨⟨[97, 112, 112, 101, 110, 100]⟩⟩ := rfl
theorem S48 : Str.ofString "last" = ⟨⟨[108, 97, 115, 116]⟩⟩ := rfl
theorem S49 : Str.ofString "is_free" = ⟨⟨[105, 115, 95, 102, 114, 101, 101]⟩⟩ := rfl
theorem S50 : Str.ofString "any" = ⟨⟨[97, 110, 121]⟩⟩ := rfl
theorem S51 : Str.ofString "one" = ⟨⟨[111, 110, 101]⟩⟩ := rfl
theorem S52 : Str.ofString "whole" = ⟨⟨[119, 104, 111, 108, 101]⟩⟩ := rfl
theorem S53 : Str.ofString "letter" = ⟨⟨[108, 101, 116, 116, 101, 114]⟩⟩ := rfl
theorem S54 : Str.ofString "marks" = ⟨⟨[109, 97, 114, 107, 115]⟩⟩ := rfl
theorem S55 : Str.ofString "law" = ⟨⟨[108, 97, 119]⟩⟩ := rfl
theorem S56 : Str.ofString "_law_order" = ⟨⟨[95, 108, 97, 119, 95, 111, 114, 100, 101, 114]⟩⟩ := rfl
theorem S57 : Str.ofString "turn" = ⟨⟨[116, 117, 114, 110]⟩⟩ := rfl
theorem S58 : Str.ofString "range" = ⟨⟨[114, 97, 110, 103, 101]⟩⟩ := rfl
theorem S59 : Str.ofString "was" = ⟨⟨[119, 97, 115]⟩⟩ := rfl
theorem S60 : Str.ofString "mapped" = ⟨⟨[109, 97, 112, 112, 101, 100]⟩⟩ := rfl
theorem S61 : Str.ofString "is_bad" = ⟨⟨[105, 115, 95, 98, 97, 100]⟩⟩ := rfl
theorem S62 : Str.ofString "told" = ⟨⟨[116, 111, 108, 100]⟩⟩ := rfl
theorem S63 : Str.ofString "due" = ⟨⟨[100, 117, 101]⟩⟩ := rfl
theorem S64 : Str.ofString "idna_mapped" = ⟨⟨[105, 100, 110, 97, 95, 109, 97, 112, 112, 101, 100]⟩⟩ := rfl
theorem S65 : Str.ofString "text" = ⟨⟨[116, 101, 120, 116]⟩⟩ := rfl
theorem S66 : Str.ofString "faults_told" = ⟨⟨[102, 97, 117, 108, 116, 115, 95, 116, 111, 108, 100]⟩⟩ := rfl
theorem S67 : Str.ofString "map_label" = ⟨⟨[109, 97, 112, 95, 108, 97, 98, 101, 108]⟩⟩ := rfl
theorem S68 : Str.ofString "again" = ⟨⟨[97, 103, 97, 105, 110]⟩⟩ := rfl
theorem S69 : Str.ofString "further" = ⟨⟨[102, 117, 114, 116, 104, 101, 114]⟩⟩ := rfl
theorem S70 : Str.ofString "__name__" = ⟨⟨[95, 95, 110, 97, 109, 101, 95, 95]⟩⟩ := rfl
theorem S71 : Str.ofString "unicore.data" = ⟨⟨[117, 110, 105, 99, 111, 114, 101, 46, 100, 97, 116, 97]⟩⟩ := rfl
theorem S72 : Str.ofString "data_defaults" = ⟨⟨[100, 97, 116, 97, 95, 100, 101, 102, 97, 117, 108, 116, 115]⟩⟩ := rfl
theorem S73 : Str.ofString "gc" = ⟨⟨[103, 99]⟩⟩ := rfl
theorem S74 : Str.ofString "bc" = ⟨⟨[98, 99]⟩⟩ := rfl
theorem S75 : Str.ofString "lb" = ⟨⟨[108, 98]⟩⟩ := rfl
theorem S76 : Str.ofString "ea" = ⟨⟨[101, 97]⟩⟩ := rfl
theorem S77 : Str.ofString "sc" = ⟨⟨[115, 99]⟩⟩ := rfl
theorem S78 : Str.ofString "jt" = ⟨⟨[106, 116]⟩⟩ := rfl
theorem S79 : Str.ofString "incb" = ⟨⟨[105, 110, 99, 98]⟩⟩ := rfl
theorem S80 : Str.ofString "Cn" = ⟨⟨[67, 110]⟩⟩ := rfl
theorem S81 : Str.ofString "L" = ⟨⟨[76]⟩⟩ := rfl
theorem S82 : Str.ofString "XX" = ⟨⟨[88, 88]⟩⟩ := rfl
theorem S83 : Str.ofString "N" = ⟨⟨[78]⟩⟩ := rfl
theorem S84 : Str.ofString "Zzzz" = ⟨⟨[90, 122, 122, 122]⟩⟩ := rfl
theorem S85 : Str.ofString "U" = ⟨⟨[85]⟩⟩ := rfl
theorem S86 : Str.ofString "None" = ⟨⟨[78, 111, 110, 101]⟩⟩ := rfl
theorem S87 : Str.ofString "name" = ⟨⟨[110, 97, 109, 101]⟩⟩ := rfl
theorem S88 : Str.ofString "gcb" = ⟨⟨[103, 99, 98]⟩⟩ := rfl
theorem S89 : Str.ofString "wb" = ⟨⟨[119, 98]⟩⟩ := rfl
theorem S90 : Str.ofString "sb" = ⟨⟨[115, 98]⟩⟩ := rfl
theorem S91 : Str.ofString "Other" = ⟨⟨[79, 116, 104, 101, 114]⟩⟩ := rfl
theorem S92 : Str.ofString "ex" = ⟨⟨[101, 120]⟩⟩ := rfl
theorem S93 : Str.ofString "sd" = ⟨⟨[115, 100]⟩⟩ := rfl
theorem S94 : Str.ofString "cased" = ⟨⟨[99, 97, 115, 101, 100]⟩⟩ := rfl
theorem S95 : Str.ofString "ci" = ⟨⟨[99, 105]⟩⟩ := rfl
theorem S96 : Str.ofString "ep" = ⟨⟨[101, 112]⟩⟩ := rfl
theorem S97 : Str.ofString "di" = ⟨⟨[100, 105]⟩⟩ := rfl
theorem S98 : Str.ofString "ids" = ⟨⟨[105, 100, 115]⟩⟩ := rfl
theorem S99 : Str.ofString "idc" = ⟨⟨[105, 100, 99]⟩⟩ := rfl
theorem S100 : Str.ofString "xids" = ⟨⟨[120, 105, 100, 115]⟩⟩ := rfl
theorem S101 : Str.ofString "xidc" = ⟨⟨[120, 105, 100, 99]⟩⟩ := rfl
theorem S102 : Str.ofString "pat_syn" = ⟨⟨[112, 97, 116, 95, 115, 121, 110]⟩⟩ := rfl
theorem S103 : Str.ofString "pat_ws" = ⟨⟨[112, 97, 116, 95, 119, 115]⟩⟩ := rfl
theorem S104 : Str.ofString "idst" = ⟨⟨[105, 100, 115, 116]⟩⟩ := rfl
theorem S105 : Str.ofString "uc" = ⟨⟨[117, 99]⟩⟩ := rfl
theorem S106 : Str.ofString "lc" = ⟨⟨[108, 99]⟩⟩ := rfl
theorem S107 : Str.ofString "tc" = ⟨⟨[116, 99]⟩⟩ := rfl
theorem S108 : Str.ofString "cf" = ⟨⟨[99, 102]⟩⟩ := rfl
theorem S109 : Str.ofString "bm" = ⟨⟨[98, 109]⟩⟩ := rfl
theorem S110 : Str.ofString "bpb" = ⟨⟨[98, 112, 98]⟩⟩ := rfl
theorem S111 : Str.ofString "scx" = ⟨⟨[115, 99, 120]⟩⟩ := rfl
theorem S112 : Str.ofString "nt" = ⟨⟨[110, 116]⟩⟩ := rfl
theorem S113 : Str.ofString "nv" = ⟨⟨[110, 118]⟩⟩ := rfl
theorem S114 : Str.ofString "conf" = ⟨⟨[99, 111, 110, 102]⟩⟩ := rfl
theorem S115 : Str.ofString "nfkc_cf" = ⟨⟨[110, 102, 107, 99, 95, 99, 102]⟩⟩ := rfl
theorem S116 : Str.ofString "suc" = ⟨⟨[115, 117, 99]⟩⟩ := rfl
theorem S117 : Str.ofString "slc" = ⟨⟨[115, 108, 99]⟩⟩ := rfl
theorem S118 : Str.ofString "stc" = ⟨⟨[115, 116, 99]⟩⟩ := rfl
theorem S119 : Str.ofString "alias" = ⟨⟨[97, 108, 105, 97, 115]⟩⟩ := rfl
theorem S120 : Str.ofString "__init__" = ⟨⟨[95, 95, 105, 110, 105, 116, 95, 95]⟩⟩ := rfl
theorem S121 : Str.ofString "self" = ⟨⟨[115, 101, 108, 102]⟩⟩ := rfl
theorem S122 : Str.ofString "defaults" = ⟨⟨[100, 101, 102, 97, 117, 108, 116, 115]⟩⟩ := rfl
theorem S123 : Str.ofString "maps" = ⟨⟨[109, 97, 112, 115]⟩⟩ := rfl
theorem S124 : Str.ofString "properties" = ⟨⟨[112, 114, 111, 112, 101, 114, 116, 105, 101, 115]⟩⟩ := rfl
theorem S125 : Str.ofString "words" = ⟨⟨[119, 111, 114, 100, 115]⟩⟩ := rfl
theorem S126 : Str.ofString "first" = ⟨⟨[102, 105, 114, 115, 116]⟩⟩ := rfl
theorem S127 : Str.ofString "value" = ⟨⟨[118, 97, 108, 117, 101]⟩⟩ := rfl
theorem S128 : Str.ofString "map_of" = ⟨⟨[109, 97, 112, 95, 111, 102]⟩⟩ := rfl
theorem S129 : Str.ofString "RangeMap" = ⟨⟨[82, 97, 110, 103, 101, 77, 97, 112]⟩⟩ := rfl
theorem S130 : Str.ofString "law_on0373_01" = ⟨⟨[108, 97, 119, 95, 111, 110, 48, 51, 55, 51, 95, 48, 49]⟩⟩ := rfl
theorem S131 : Str.ofString "ignored" = ⟨⟨[105, 103, 110, 111, 114, 101, 100]⟩⟩ := rfl
theorem S132 : Str.ofString "disallowed_STD3_mapped" = ⟨⟨[100, 105, 115, 97, 108, 108, 111, 119, 101, 100, 95, 83, 84, 68, 51, 95, 109, 97, 112, 112, 101, 100]⟩⟩ := rfl
theorem S133 : Str.ofString "idna_status" = ⟨⟨[105, 100, 110, 97, 95, 115, 116, 97, 116, 117, 115]⟩⟩ := rfl
theorem S134 : Str.ofString "data" = ⟨⟨[100, 97, 116, 97]⟩⟩ := rfl
theorem S135 : Str.ofString "only_letters" = ⟨⟨[111, 110, 108, 121, 95, 108, 101, 116, 116, 101, 114, 115]⟩⟩ := rfl
theorem S136 : Str.ofString "is_transitional" = ⟨⟨[105, 115, 95, 116, 114, 97, 110, 115, 105, 116, 105, 111, 110, 97, 108]⟩⟩ := rfl
theorem S137 : Str.ofString "nfc" = ⟨⟨[110, 102, 99]⟩⟩ := rfl
theorem S138 : Str.ofString "unicore.ranges" = ⟨⟨[117, 110, 105, 99, 111, 114, 101, 46, 114, 97, 110, 103, 101, 115]⟩⟩ := rfl
theorem S139 : Str.ofString "range_are_like" = ⟨⟨[114, 97, 110, 103, 101, 95, 97, 114, 101, 95, 108, 105, 107, 101]⟩⟩ := rfl
theorem S140 : Str.ofString "isinstance" = ⟨⟨[105, 115, 105, 110, 115, 116, 97, 110, 99, 101]⟩⟩ := rfl
theorem S141 : Str.ofString "bool" = ⟨⟨[98, 111, 111, 108]⟩⟩ := rfl
theorem S142 : Str.ofString "default" = ⟨⟨[100, 101, 102, 97, 117, 108, 116]⟩⟩ := rfl
theorem S143 : Str.ofString "starts" = ⟨⟨[115, 116, 97, 114, 116, 115]⟩⟩ := rfl
theorem S144 : Str.ofString "values" = ⟨⟨[118, 97, 108, 117, 101, 115]⟩⟩ := rfl
theorem S145 : Str.ofString "place_by_half" = ⟨⟨[112, 108, 97, 99, 101, 95, 98, 121, 95, 104, 97, 108, 102]⟩⟩ := rfl
theorem S146 : Str.ofString "low" = ⟨⟨[108, 111, 119]⟩⟩ := rfl
theorem S147 : Str.ofString "high" = ⟨⟨[104, 105, 103, 104]⟩⟩ := rfl
theorem S148 : Str.ofString "behind" = ⟨⟨[98, 101, 104, 105, 110, 100]⟩⟩ := rfl
theorem S149 : Str.ofString "MAX_CODE" = ⟨⟨[77, 65, 88, 95, 67, 79, 68, 69]⟩⟩ := rfl
theorem S150 : Str.ofString "ranges" = ⟨⟨[114, 97, 110, 103, 101, 115]⟩⟩ := rfl
theorem S151 : Str.ofString "row" = ⟨⟨[114, 111, 119]⟩⟩ := rfl
theorem S152 : Str.ofString "range_rows" = ⟨⟨[114, 97, 110, 103, 101, 95, 114, 111, 119, 115]⟩⟩ := rfl
theorem S153 : Str.ofString "set_of" = ⟨⟨[115, 101, 116, 95, 111, 102]⟩⟩ := rfl
theorem S154 : Str.ofString "_wall" = ⟨⟨[95, 119, 97, 108, 108]⟩⟩ := rfl
theorem S155 : Str.ofString "range_map" = ⟨⟨[114, 97, 110, 103, 101, 95, 109, 97, 112]⟩⟩ := rfl
theorem S156 : Str.ofString "enumerate" = ⟨⟨[101, 110, 117, 109, 101, 114, 97, 116, 101]⟩⟩ := rfl
theorem S157 : Str.ofString "form_is_primary" = ⟨⟨[102, 111, 114, 109, 95, 105, 115, 95, 112, 114, 105, 109, 97, 114, 121]⟩⟩ := rfl
theorem S158 : Str.ofString "hangul_parts" = ⟨⟨[104, 97, 110, 103, 117, 108, 95, 112, 97, 114, 116, 115]⟩⟩ := rfl
theorem S159 : Str.ofString "Composer" = ⟨⟨[67, 111, 109, 112, 111, 115, 101, 114]⟩⟩ := rfl
theorem S160 : Str.ofString "pairs" = ⟨⟨[112, 97, 105, 114, 115]⟩⟩ := rfl
theorem S161 : Str.ofString "primary_composites" = ⟨⟨[112, 114, 105, 109, 97, 114, 121, 95, 99, 111, 109, 112, 111, 115, 105, 116, 101, 115]⟩⟩ := rfl
theorem S162 : Str.ofString "seconds" = ⟨⟨[115, 101, 99, 111, 110, 100, 115]⟩⟩ := rfl
theorem S163 : Str.ofString "pair" = ⟨⟨[112, 97, 105, 114]⟩⟩ := rfl
theorem S164 : Str.ofString "hangul_pair" = ⟨⟨[104, 97, 110, 103, 117, 108, 95, 112, 97, 105, 114]⟩⟩ := rfl
theorem S165 : Str.ofString "is_second" = ⟨⟨[105, 115, 95, 115, 101, 99, 111, 110, 100]⟩⟩ := rfl
theorem S166 : Str.ofString "composed" = ⟨⟨[99, 111, 109, 112, 111, 115, 101, 100]⟩⟩ := rfl
theorem S167 : Str.ofString "composer" = ⟨⟨[99, 111, 109, 112, 111, 115, 101, 114]⟩⟩ := rfl
theorem S168 : Str.ofString "starter" = ⟨⟨[115, 116, 97, 114, 116, 101, 114]⟩⟩ := rfl
theorem S169 : Str.ofString "most" = ⟨⟨[109, 111, 115, 116]⟩⟩ := rfl
theorem S170 : Str.ofString "weight" = ⟨⟨[119, 101, 105, 103, 104, 116]⟩⟩ := rfl
theorem S171 : Str.ofString "max" = ⟨⟨[109, 97, 120]⟩⟩ := rfl
theorem S172 : Str.ofString "form_of" = ⟨⟨[102, 111, 114, 109, 95, 111, 102]⟩⟩ := rfl
theorem S173 : Str.ofString "word" = ⟨⟨[119, 111, 114, 100]⟩⟩ := rfl
theorem S174 : Str.ofString "decomposed" = ⟨⟨[100, 101, 99, 111, 109, 112, 111, 115, 101, 100]⟩⟩ := rfl
theorem S175 : Str.ofString "nfkd" = ⟨⟨[110, 102, 107, 100]⟩⟩ := rfl
theorem S176 : Str.ofString "nfkc" = ⟨⟨[110, 102, 107, 99]⟩⟩ := rfl
theorem S177 : Str.ofString "nfd" = ⟨⟨[110, 102, 100]⟩⟩ := rfl
theorem S178 : Str.ofString "unicore.idna" = ⟨⟨[117, 110, 105, 99, 111, 114, 101, 46, 105, 100, 110, 97]⟩⟩ := rfl
theorem S179 : Str.ofString "unicore.forms" = ⟨⟨[117, 110, 105, 99, 111, 114, 101, 46, 102, 111, 114, 109, 115]⟩⟩ := rfl
theorem S180 : Str.ofString "form_mapping" = ⟨⟨[102, 111, 114, 109, 95, 109, 97, 112, 112, 105, 110, 103]⟩⟩ := rfl
theorem S181 : Str.ofString "is_compat" = ⟨⟨[105, 115, 95, 99, 111, 109, 112, 97, 116]⟩⟩ := rfl
theorem S182 : Str.ofString "form_expanded" = ⟨⟨[102, 111, 114, 109, 95, 101, 120, 112, 97, 110, 100, 101, 100]⟩⟩ := rfl
theorem S183 : Str.ofString "waiting" = ⟨⟨[119, 97, 105, 116, 105, 110, 103]⟩⟩ := rfl
theorem S184 : Str.ofString "open_codes" = ⟨⟨[111, 112, 101, 110, 95, 99, 111, 100, 101, 115]⟩⟩ := rfl
theorem S185 : Str.ofString "here" = ⟨⟨[104, 101, 114, 101]⟩⟩ := rfl
theorem S186 : Str.ofString "pop" = ⟨⟨[112, 111, 112]⟩⟩ := rfl
theorem S187 : Str.ofString "BadTable" = ⟨⟨[66, 97, 100, 84, 97, 98, 108, 101]⟩⟩ := rfl
theorem S188 : Str.ofString "part" = ⟨⟨[112, 97, 114, 116]⟩⟩ := rfl
theorem S189 : Str.ofString "ordered" = ⟨⟨[111, 114, 100, 101, 114, 101, 100]⟩⟩ := rfl
theorem S190 : Str.ofString "run" = ⟨⟨[114, 117, 110]⟩⟩ := rfl
theorem S191 : Str.ofString "form_sorted" = ⟨⟨[102, 111, 114, 109, 95, 115, 111, 114, 116, 101, 100]⟩⟩ := rfl
theorem S192 : Str.ofString "sorted" = ⟨⟨[115, 111, 114, 116, 101, 100]⟩⟩ := rfl
theorem S193 : Str.ofString "key" = ⟨⟨[107, 101, 121]⟩⟩ := rfl
theorem S194 : Str.ofString "TAILS" = ⟨⟨[84, 65, 73, 76, 83]⟩⟩ := rfl
theorem S195 : Str.ofString "SYLLABLES" = ⟨⟨[83, 89, 76, 76, 65, 66, 76, 69, 83]⟩⟩ := rfl
theorem S196 : Str.ofString "LEADS" = ⟨⟨[76, 69, 65, 68, 83]⟩⟩ := rfl
theorem S197 : Str.ofString "VOWELS" = ⟨⟨[86, 79, 87, 69, 76, 83]⟩⟩ := rfl
theorem S198 : Str.ofString "is_hangul_syllable" = ⟨⟨[105, 115, 95, 104, 97, 110, 103, 117, 108, 95, 115, 121, 108, 108, 97, 98, 108, 101]⟩⟩ := rfl
theorem S199 : Str.ofString "SYLLABLE_FIRST" = ⟨⟨[83, 89, 76, 76, 65, 66, 76, 69, 95, 70, 73, 82, 83, 84]⟩⟩ := rfl
theorem S200 : Str.ofString "hangul_numbers" = ⟨⟨[104, 97, 110, 103, 117, 108, 95, 110, 117, 109, 98, 101, 114, 115]⟩⟩ := rfl
theorem S201 : Str.ofString "number" = ⟨⟨[110, 117, 109, 98, 101, 114]⟩⟩ := rfl
theorem S202 : Str.ofString "lead" = ⟨⟨[108, 101, 97, 100]⟩⟩ := rfl
theorem S203 : Str.ofString "vowel" = ⟨⟨[118, 111, 119, 101, 108]⟩⟩ := rfl
theorem S204 : Str.ofString "tail" = ⟨⟨[116, 97, 105, 108]⟩⟩ := rfl
theorem S205 : Str.ofString "LEAD_FIRST" = ⟨⟨[76, 69, 65, 68, 95, 70, 73, 82, 83, 84]⟩⟩ := rfl
theorem S206 : Str.ofString "VOWEL_FIRST" = ⟨⟨[86, 79, 87, 69, 76, 95, 70, 73, 82, 83, 84]⟩⟩ := rfl
theorem S207 : Str.ofString "TAIL_NONE" = ⟨⟨[84, 65, 73, 76, 95, 78, 79, 78, 69]⟩⟩ := rfl
theorem S208 : Str.ofString "unicore.hangul" = ⟨⟨[117, 110, 105, 99, 111, 114, 101, 46, 104, 97, 110, 103, 117, 108]⟩⟩ := rfl
theorem S209 : Str.ofString "k" = ⟨⟨[107]⟩⟩ := rfl
theorem S210 : Str.ofString "unicore.base" = ⟨⟨[117, 110, 105, 99, 111, 114, 101, 46, 98, 97, 115, 101]⟩⟩ := rfl
theorem S211 : Str.ofString "UniError" = ⟨⟨[85, 110, 105, 69, 114, 114, 111, 114]⟩⟩ := rfl
theorem S212 : Str.ofString "Exception" = ⟨⟨[69, 120, 99, 101, 112, 116, 105, 111, 110]⟩⟩ := rfl
theorem S213 : Str.ofString "firsts" = ⟨⟨[102, 105, 114, 115, 116, 115]⟩⟩ := rfl
theorem S214 : Str.ofString "middle" = ⟨⟨[109, 105, 100, 100, 108, 101]⟩⟩ := rfl
theorem S215 : Str.ofString "/claim/cut.py" = ⟨⟨[47, 99, 108, 97, 105, 109, 47, 99, 117, 116, 46, 112, 121]⟩⟩ := rfl
noncomputable def PFs : { p : Program // PySem.Challenge.pw_on0373_01 = p } := by
  dsimp only [PySem.Challenge.pw_on0373_01, S0, S1, S2, S3, S4, S5, S6, S7, S8, S9, S10, S11, S12, S13, S14, S15, S16, S17, S18, S19, S20, S21, S22, S23, S24, S25, S26, S27, S28, S29, S30, S31, S32, S33, S34, S35, S36, S37, S38, S39, S40, S41, S42, S43, S44, S45, S46, S47, S48, S49, S50, S51, S52, S53, S54, S55, S56, S57, S58, S59, S60, S61, S62, S63, S64, S65, S66, S67, S68, S69, S70, S71, S72, S73, S74, S75, S76, S77, S78, S79, S80, S81, S82, S83, S84, S85, S86, S87, S88, S89, S90, S91, S92, S93, S94, S95, S96, S97, S98, S99, S100, S101, S102, S103, S104, S105, S106, S107, S108, S109, S110, S111, S112, S113, S114, S115, S116, S117, S118, S119, S120, S121, S122, S123, S124, S125, S126, S127, S128, S129, S130, S131, S132, S133, S134, S135, S136, S137, S138, S139, S140, S141, S142, S143, S144, S145, S146, S147, S148, S149, S150, S151, S152, S153, S154, S155, S156, S157, S158, S159, S160, S161, S162, S163, S164, S165, S166, S167, S168, S169, S170, S171, S172, S173, S174, S175, S176, S177, S178, S179, S180, S181, S182, S183, S184, S185, S186, S187, S188, S189, S190, S191, S192, S193, S194, S195, S196, S197, S198, S199, S200, S201, S202, S203, S204, S205, S206, S207, S208, S209, S210, S211, S212, S213, S214, S215]
  exact ⟨_, rfl⟩
noncomputable abbrev PF : Program := PFs.1
theorem PW_eq : PySem.Challenge.pw_on0373_01 = PF := PFs.2
noncomputable def noSt : Stmt := .Pass ⟨0, 0, 0, 0⟩
noncomputable def nth : List Stmt → Nat → Stmt
  | [], _ => noSt
  | s :: _, 0 => s
  | _ :: r, n + 1 => nth r n
noncomputable def st (i : Nat) : Stmt := nth PF.main.body i
noncomputable def inner : Stmt → List Stmt
  | .ClassDef _ _ _ b _ _ _ _ _ _ _ => b
  | _ => []
noncomputable def st2 (i j : Nat) : Stmt := nth (inner (st i)) j
noncomputable def fA : Stmt → Arguments
  | .FunctionDef _ a _ _ _ _ _ _ _ _ => a
  | _ => default
noncomputable def fB : Stmt → List Stmt
  | .FunctionDef _ _ b _ _ _ _ _ _ _ => b
  | _ => []
noncomputable def fS : Stmt → Scope
  | .FunctionDef _ _ _ _ _ _ s _ _ _ => s
  | _ => default
noncomputable abbrev kh (P : Params) (x : Str) : Int := PyData.keyHash P x
noncomputable abbrev la {α : Type} (l : List α) : Array α := l.toArray
noncomputable def z0 : PySem.Str := ⟨#[60, 109, 111, 100, 117, 108, 101, 62]⟩
noncomputable def z1 : PySem.Str := ⟨#[47, 99, 108, 97, 105, 109, 47, 99, 117, 116, 46, 112, 121]⟩
noncomputable def z2 : PySem.Str := ⟨#[95, 95, 109, 97, 105, 110, 95, 95]⟩
noncomputable def z3 : PySem.Str := ⟨#[116, 121, 112, 101, 46, 95, 95, 115, 117, 98, 99, 108, 97, 115, 115, 101, 115, 95, 95, 46, 69, 120, 99, 101, 112, 116, 105, 111, 110, 46, 48]⟩
noncomputable def z4 : PySem.Str := ⟨#[116, 121, 112, 101, 46, 95, 95, 115, 117, 98, 99, 108, 97, 115, 115, 101, 115, 95, 95, 46, 69, 120, 99, 101, 112, 116, 105, 111, 110, 46, 110]⟩
noncomputable def z5 : PySem.Str := ⟨#[95, 95, 110, 97, 109, 101, 95, 95]⟩
noncomputable def z6 : PySem.Str := ⟨#[117, 110, 105, 99, 111, 114, 101, 46, 98, 97, 115, 101]⟩
noncomputable def z7 : PySem.Str := ⟨#[95, 95, 100, 111, 99, 95, 95]⟩
noncomputable def z8 : PySem.Str := ⟨#[95, 95, 112, 97, 99, 107, 97, 103, 101, 95, 95]⟩
noncomputable def z9 : PySem.Str := ⟨#[95, 95, 108, 111, 97, 100, 101, 114, 95, 95]⟩
noncomputable def z10 : PySem.Str := ⟨#[95, 95, 115, 112, 101, 99, 95, 95]⟩
noncomputable def z11 : PySem.Str := ⟨#[95, 95, 97, 110, 110, 111, 116, 97, 116, 105, 111, 110, 115, 95, 95]⟩
noncomputable def z12 : PySem.Str := ⟨#[95, 95, 98, 117, 105, 108, 116, 105, 110, 115, 95, 95]⟩
noncomputable def z13 : PySem.Str := ⟨#[95, 95, 102, 105, 108, 101, 95, 95]⟩
noncomputable def z14 : PySem.Str := ⟨#[95, 95, 99, 97, 99, 104, 101, 100, 95, 95]⟩
noncomputable def z15 : PySem.Str := ⟨#[95, 119, 97, 108, 108]⟩
noncomputable def z16 : PySem.Str := ⟨#[77, 65, 88, 95, 67, 79, 68, 69]⟩
noncomputable def z17 : PySem.Str := ⟨#[85, 110, 105, 69, 114, 114, 111, 114]⟩
noncomputable def z18 : PySem.Str := ⟨#[107]⟩
noncomputable def z19 : PySem.Str := ⟨#[95, 95, 109, 111, 100, 117, 108, 101, 95, 95]⟩
noncomputable def z20 : PySem.Str := ⟨#[95, 95, 113, 117, 97, 108, 110, 97, 109, 101, 95, 95]⟩
noncomputable def z21 : PySem.Str := ⟨#[95, 95, 102, 105, 114, 115, 116, 108, 105, 110, 101, 110, 111, 95, 95]⟩
noncomputable def z22 : PySem.Str := ⟨#[95, 95, 105, 110, 105, 116, 95, 95]⟩
noncomputable def z23 : PySem.Str := ⟨#[95, 95, 115, 116, 97, 116, 105, 99, 95, 97, 116, 116, 114, 105, 98, 117, 116, 101, 115, 95, 95]⟩
noncomputable def z24 : PySem.Str := ⟨#[115, 101, 108, 102]⟩
noncomputable def z25 : PySem.Str := ⟨#[116, 111, 108, 100]⟩
noncomputable def z26 : PySem.Str := ⟨#[85, 110, 105, 69, 114, 114, 111, 114, 46, 95, 95, 105, 110, 105, 116, 95, 95]⟩
noncomputable def z27 : PySem.Str := ⟨#[95, 95, 119, 101, 97, 107, 114, 101, 102, 95, 95]⟩
noncomputable def z28 : PySem.Str := ⟨#[117, 110, 105, 99, 111, 114, 101, 46, 104, 97, 110, 103, 117, 108]⟩
noncomputable def z29 : PySem.Str := ⟨#[66, 97, 100, 84, 97, 98, 108, 101]⟩
noncomputable def z30 : PySem.Str := ⟨#[112, 108, 97, 99, 101, 95, 98, 121, 95, 104, 97, 108, 102]⟩
noncomputable def z31 : PySem.Str := ⟨#[83, 89, 76, 76, 65, 66, 76, 69, 95, 70, 73, 82, 83, 84]⟩
noncomputable def z32 : PySem.Str := ⟨#[76, 69, 65, 68, 95, 70, 73, 82, 83, 84]⟩
noncomputable def z33 : PySem.Str := ⟨#[86, 79, 87, 69, 76, 95, 70, 73, 82, 83, 84]⟩
noncomputable def z34 : PySem.Str := ⟨#[84, 65, 73, 76, 95, 78, 79, 78, 69]⟩
noncomputable def z35 : PySem.Str := ⟨#[76, 69, 65, 68, 83]⟩
noncomputable def z36 : PySem.Str := ⟨#[86, 79, 87, 69, 76, 83]⟩
noncomputable def z37 : PySem.Str := ⟨#[84, 65, 73, 76, 83]⟩
noncomputable def z38 : PySem.Str := ⟨#[83, 89, 76, 76, 65, 66, 76, 69, 83]⟩
noncomputable def z39 : PySem.Str := ⟨#[105, 115, 95, 104, 97, 110, 103, 117, 108, 95, 115, 121, 108, 108, 97, 98, 108, 101]⟩
noncomputable def z40 : PySem.Str := ⟨#[102, 105, 114, 115, 116, 115]⟩
noncomputable def z41 : PySem.Str := ⟨#[110, 117, 109, 98, 101, 114]⟩
noncomputable def z42 : PySem.Str := ⟨#[108, 111, 119]⟩
noncomputable def z43 : PySem.Str := ⟨#[104, 105, 103, 104]⟩
noncomputable def z44 : PySem.Str := ⟨#[109, 105, 100, 100, 108, 101]⟩
noncomputable def z45 : PySem.Str := ⟨#[99, 111, 100, 101]⟩
noncomputable def z46 : PySem.Str := ⟨#[117, 110, 105, 99, 111, 114, 101, 46, 102, 111, 114, 109, 115]⟩
noncomputable def z47 : PySem.Str := ⟨#[104, 97, 110, 103, 117, 108, 95, 110, 117, 109, 98, 101, 114, 115]⟩
noncomputable def z48 : PySem.Str := ⟨#[104, 97, 110, 103, 117, 108, 95, 112, 97, 114, 116, 115]⟩
noncomputable def z49 : PySem.Str := ⟨#[104, 97, 110, 103, 117, 108, 95, 112, 97, 105, 114]⟩
noncomputable def z50 : PySem.Str := ⟨#[102, 111, 114, 109, 95, 109, 97, 112, 112, 105, 110, 103]⟩
noncomputable def z51 : PySem.Str := ⟨#[102, 111, 114, 109, 95, 101, 120, 112, 97, 110, 100, 101, 100]⟩
noncomputable def z52 : PySem.Str := ⟨#[111, 114, 100, 101, 114, 101, 100]⟩
noncomputable def z53 : PySem.Str := ⟨#[102, 111, 114, 109, 95, 115, 111, 114, 116, 101, 100]⟩
noncomputable def z54 : PySem.Str := ⟨#[100, 101, 99, 111, 109, 112, 111, 115, 101, 100]⟩
noncomputable def z55 : PySem.Str := ⟨#[112, 114, 105, 109, 97, 114, 121, 95, 99, 111, 109, 112, 111, 115, 105, 116, 101, 115]⟩
noncomputable def z56 : PySem.Str := ⟨#[102, 111, 114, 109, 95, 105, 115, 95, 112, 114, 105, 109, 97, 114, 121]⟩
noncomputable def z57 : PySem.Str := ⟨#[108, 101, 97, 100]⟩
noncomputable def z58 : PySem.Str := ⟨#[118, 111, 119, 101, 108]⟩
noncomputable def z59 : PySem.Str := ⟨#[116, 97, 105, 108]⟩
noncomputable def z60 : PySem.Str := ⟨#[111, 110, 101]⟩
noncomputable def z61 : PySem.Str := ⟨#[111, 116, 104, 101, 114]⟩
noncomputable def z62 : PySem.Str := ⟨#[100, 97, 116, 97]⟩
noncomputable def z63 : PySem.Str := ⟨#[105, 115, 95, 99, 111, 109, 112, 97, 116]⟩
noncomputable def z64 : PySem.Str := ⟨#[112, 97, 114, 116, 115]⟩
noncomputable def z65 : PySem.Str := ⟨#[102, 111, 117, 110, 100]⟩
noncomputable def z66 : PySem.Str := ⟨#[119, 97, 105, 116, 105, 110, 103]⟩
noncomputable def z67 : PySem.Str := ⟨#[111, 112, 101, 110, 95, 99, 111, 100, 101, 115]⟩
noncomputable def z68 : PySem.Str := ⟨#[104, 101, 114, 101]⟩
noncomputable def z69 : PySem.Str := ⟨#[112, 97, 114, 116]⟩
noncomputable def z70 : PySem.Str := ⟨#[116, 101, 120, 116]⟩
noncomputable def z71 : PySem.Str := ⟨#[114, 117, 110]⟩
noncomputable def z72 : PySem.Str := ⟨#[119, 101, 105, 103, 104, 116]⟩
noncomputable def z73 : PySem.Str := ⟨#[102, 105, 114, 115, 116]⟩
noncomputable def z74 : PySem.Str := ⟨#[108, 97, 115, 116]⟩
noncomputable def z75 : PySem.Str := ⟨#[67, 111, 109, 112, 111, 115, 101, 114]⟩
noncomputable def z76 : PySem.Str := ⟨#[99, 111, 109, 112, 111, 115, 101, 100]⟩
noncomputable def z77 : PySem.Str := ⟨#[102, 111, 114, 109, 95, 111, 102]⟩
noncomputable def z78 : PySem.Str := ⟨#[110, 102, 99]⟩
noncomputable def z79 : PySem.Str := ⟨#[112, 97, 105, 114]⟩
noncomputable def z80 : PySem.Str := ⟨#[105, 115, 95, 115, 101, 99, 111, 110, 100]⟩
noncomputable def z81 : PySem.Str := ⟨#[67, 111, 109, 112, 111, 115, 101, 114, 46, 95, 95, 105, 110, 105, 116, 95, 95]⟩
noncomputable def z82 : PySem.Str := ⟨#[67, 111, 109, 112, 111, 115, 101, 114, 46, 112, 97, 105, 114]⟩
noncomputable def z83 : PySem.Str := ⟨#[67, 111, 109, 112, 111, 115, 101, 114, 46, 105, 115, 95, 115, 101, 99, 111, 110, 100]⟩
noncomputable def z84 : PySem.Str := ⟨#[112, 97, 105, 114, 115]⟩
noncomputable def z85 : PySem.Str := ⟨#[115, 101, 99, 111, 110, 100, 115]⟩
noncomputable def z86 : PySem.Str := ⟨#[95, 95, 100, 105, 99, 116, 95, 95]⟩
noncomputable def z87 : PySem.Str := ⟨#[99, 111, 109, 112, 111, 115, 101, 114]⟩
noncomputable def z88 : PySem.Str := ⟨#[115, 116, 97, 114, 116, 101, 114]⟩
noncomputable def z89 : PySem.Str := ⟨#[109, 111, 115, 116]⟩
noncomputable def z90 : PySem.Str := ⟨#[119, 111, 114, 100]⟩
noncomputable def z91 : PySem.Str := ⟨#[117, 110, 105, 99, 111, 114, 101, 46, 114, 97, 110, 103, 101, 115]⟩
noncomputable def z92 : PySem.Str := ⟨#[105, 100, 110, 97, 95, 115, 116, 97, 116, 117, 115]⟩
noncomputable def z93 : PySem.Str := ⟨#[105, 100, 110, 97, 95, 109, 97, 112, 112, 101, 100]⟩
noncomputable def z94 : PySem.Str := ⟨#[109, 97, 112, 95, 108, 97, 98, 101, 108]⟩
noncomputable def z95 : PySem.Str := ⟨#[114, 97, 110, 103, 101, 95, 97, 114, 101, 95, 108, 105, 107, 101]⟩
noncomputable def z96 : PySem.Str := ⟨#[111, 110, 108, 121, 95, 108, 101, 116, 116, 101, 114, 115]⟩
noncomputable def z97 : PySem.Str := ⟨#[115, 116, 97, 116, 117, 115]⟩
noncomputable def z98 : PySem.Str := ⟨#[117, 110, 105, 99, 111, 114, 101, 46, 105, 100, 110, 97]⟩
noncomputable def z99 : PySem.Str := ⟨#[105, 115, 95, 116, 114, 97, 110, 115, 105, 116, 105, 111, 110, 97, 108]⟩
noncomputable def z100 : PySem.Str := ⟨#[102, 117, 114, 116, 104, 101, 114]⟩
noncomputable def z101 : PySem.Str := ⟨#[119, 111, 114, 100, 115]⟩
noncomputable def z102 : PySem.Str := ⟨#[117, 110, 105, 99, 111, 114, 101, 46, 100, 97, 116, 97]⟩
noncomputable def z103 : PySem.Str := ⟨#[82, 97, 110, 103, 101, 77, 97, 112]⟩
noncomputable def z104 : PySem.Str := ⟨#[114, 97, 110, 103, 101, 95, 114, 111, 119, 115]⟩
noncomputable def z105 : PySem.Str := ⟨#[103, 101, 116]⟩
noncomputable def z106 : PySem.Str := ⟨#[112, 117, 116]⟩
noncomputable def z107 : PySem.Str := ⟨#[114, 97, 110, 103, 101, 115]⟩
noncomputable def z108 : PySem.Str := ⟨#[115, 101, 116, 95, 111, 102]⟩
noncomputable def z109 : PySem.Str := ⟨#[100, 101, 102, 97, 117, 108, 116]⟩
noncomputable def z110 : PySem.Str := ⟨#[82, 97, 110, 103, 101, 77, 97, 112, 46, 95, 95, 105, 110, 105, 116, 95, 95]⟩
noncomputable def z111 : PySem.Str := ⟨#[82, 97, 110, 103, 101, 77, 97, 112, 46, 103, 101, 116]⟩
noncomputable def z112 : PySem.Str := ⟨#[118, 97, 108, 117, 101]⟩
noncomputable def z113 : PySem.Str := ⟨#[98, 101, 104, 105, 110, 100]⟩
noncomputable def z114 : PySem.Str := ⟨#[115, 116, 97, 114, 116, 115]⟩
noncomputable def z115 : PySem.Str := ⟨#[118, 97, 108, 117, 101, 115]⟩
noncomputable def z116 : PySem.Str := ⟨#[82, 97, 110, 103, 101, 77, 97, 112, 46, 112, 117, 116]⟩
noncomputable def z117 : PySem.Str := ⟨#[82, 97, 110, 103, 101, 77, 97, 112, 46, 114, 97, 110, 103, 101, 115]⟩
noncomputable def z118 : PySem.Str := ⟨#[82, 97, 110, 103, 101, 77, 97, 112, 46, 115, 101, 116, 95, 111, 102]⟩
noncomputable def z119 : PySem.Str := ⟨#[114, 97, 110, 103, 101, 95, 109, 97, 112]⟩
noncomputable def z120 : PySem.Str := ⟨#[97, 116]⟩
noncomputable def z121 : PySem.Str := ⟨#[108, 97, 119, 95, 111, 110, 48, 51, 55, 51, 95, 48, 49]⟩
noncomputable def z122 : PySem.Str := ⟨#[100, 97, 116, 97, 95, 100, 101, 102, 97, 117, 108, 116, 115]⟩
noncomputable def z123 : PySem.Str := ⟨#[68, 97, 116, 97]⟩
noncomputable def z124 : PySem.Str := ⟨#[95, 108, 97, 119, 95, 115, 116, 97, 116, 117, 115, 101, 115]⟩
noncomputable def z125 : PySem.Str := ⟨#[110, 97, 109, 101]⟩
noncomputable def z126 : PySem.Str := ⟨#[109, 97, 112, 95, 111, 102]⟩
noncomputable def z127 : PySem.Str := ⟨#[68, 97, 116, 97, 46, 95, 95, 105, 110, 105, 116, 95, 95]⟩
noncomputable def z128 : PySem.Str := ⟨#[68, 97, 116, 97, 46, 112, 117, 116]⟩
noncomputable def z129 : PySem.Str := ⟨#[68, 97, 116, 97, 46, 103, 101, 116]⟩
noncomputable def z130 : PySem.Str := ⟨#[68, 97, 116, 97, 46, 109, 97, 112, 95, 111, 102]⟩
noncomputable def z131 : PySem.Str := ⟨#[100, 101, 102, 97, 117, 108, 116, 115]⟩
noncomputable def z132 : PySem.Str := ⟨#[109, 97, 112, 115]⟩
noncomputable def z133 : PySem.Str := ⟨#[112, 114, 111, 112, 101, 114, 116, 105, 101, 115]⟩
noncomputable def z134 : PySem.Str := ⟨#[95, 108, 97, 119, 95, 111, 114, 100, 101, 114]⟩
noncomputable def z135 : PySem.Str := ⟨#[95, 108, 97, 119, 95, 99, 108, 97, 115, 115, 101, 115]⟩
noncomputable def z136 : PySem.Str := ⟨#[95, 108, 97, 119, 95, 100, 101, 99, 107]⟩
noncomputable def z137 : PySem.Str := ⟨#[95, 108, 97, 119, 95, 100, 114, 97, 119]⟩
noncomputable def z138 : PySem.Str := ⟨#[95, 108, 97, 119, 95, 100, 97, 116, 97]⟩
noncomputable def z139 : PySem.Str := ⟨#[95, 108, 97, 119, 95, 111, 110, 101]⟩
noncomputable def z140 : PySem.Str := ⟨#[95, 108, 97, 119, 95, 111, 114, 100, 101, 114, 101, 100]⟩
noncomputable def z141 : PySem.Str := ⟨#[95, 108, 97, 119, 95, 99, 111, 109, 112, 111, 115, 101, 100]⟩
noncomputable def z142 : PySem.Str := ⟨#[108, 97, 119]⟩
noncomputable def z143 : PySem.Str := ⟨#[100, 101, 99, 107]⟩
noncomputable def z144 : PySem.Str := ⟨#[98, 101, 108, 111, 119]⟩
noncomputable def z145 : PySem.Str := ⟨#[99, 101, 108, 108, 115]⟩
noncomputable def z146 : PySem.Str := ⟨#[109, 97, 100, 101]⟩
noncomputable def z147 : PySem.Str := ⟨#[105, 115, 95, 108, 97, 116, 101]⟩
noncomputable def z148 : PySem.Str := ⟨#[105, 115, 95, 115, 116, 114, 105, 99, 116]⟩
noncomputable def z149 : PySem.Str := ⟨#[111, 116, 104, 101, 114, 115]⟩
noncomputable def z150 : PySem.Str := ⟨#[105, 115, 95, 102, 117, 114, 116, 104, 101, 114]⟩
noncomputable def z151 : PySem.Str := ⟨#[115, 105, 103, 110, 115]⟩
noncomputable def z152 : PySem.Str := ⟨#[111, 119, 110]⟩
noncomputable def o11_0 : Params → Obj := fun P => (Obj.mk (.type "tuple") none (.seq #[] 0) #[])
noncomputable def o12_0 : Params → Obj := fun P => (Obj.mk .none none (.fields #[]) #[])
noncomputable def o13_0 : Params → Obj := fun P => (Obj.mk (.type "code") none (.fields (la [(.str z0 182), (.str z0 183), (.str z1 184), (.int 1 0), (.int 0 0), (.int 0 0), (.int 0 0), (.int 0 0), (.ref 11), (.bool .false), (.int 181 0), (.ref 12), .none, .none, .none, .none, (.int 185 0), (.int 1 0), (.str z1 186)])) #[])
noncomputable def o14_0 : Params → Obj := fun P => (Obj.mk (.type "frame") none .plain (la [(some (.ref 13)), (some (.ref 3)), (some (.ref 3)), none, (some (.str z2 164)), none, (some (.ref 0))]))
noncomputable def t0 : Params → BT := fun P => (.node (boot_o_0 P) (.node (boot_o_1 P) (.node (boot_o_3 P) (.node (boot_o_7 P) .nil .nil) (.node (o11_0 P) .nil .nil)) (.node (boot_o_5 P) (.node (boot_o_9 P) .nil .nil) (.node (o13_0 P) .nil .nil))) (.node (boot_o_2 P) (.node (boot_o_4 P) (.node (boot_o_8 P) .nil .nil) (.node (o12_0 P) .nil .nil)) (.node (boot_o_6 P) (.node (boot_o_10 P) .nil .nil) (.node (o14_0 P) .nil .nil))))
noncomputable def lf : Life := (Life.mk [] [] [] 0 [] [] .false #[] [] 0 .false .false .false 0 [2000, 10, 10] .false 0 .true [] [] 0 .false)
noncomputable def s0 (w : World) (os : OsState) : SharedT := ⟨t0 w.params, 15, lf, #[], (Drawn.mk 0 0 0 0), 187, os⟩
noncomputable def o2_1 : Params → Obj := fun P => (Obj.mk .none none (.dict (la [(.mk (kh P z3) (.str z3 223) (.int 39 0)), (.mk (kh P z4) (.str z4 224) (.int 1 0))]) 2) #[])
noncomputable def o3_1 : Params → Obj := fun P => (Obj.mk (.type "dict") none (.dict (la [(.mk (kh P z5) (.str z5 165) (.str z6 194)), (.mk (kh P z7) (.str z7 166) .none), (.mk (kh P z8) (.str z8 167) .none), (.mk (kh P z9) (.str z9 168) (.builtin "__main__.__loader__#opaque")), (.mk (kh P z10) (.str z10 169) .none), (.mk (kh P z11) (.str z11 170) (.ref 6)), (.mk (kh P z12) (.str z12 171) (.ref 4)), (.mk (kh P z13) (.str z13 173) (.str z1 172)), (.mk (kh P z14) (.str z14 174) .none), (.mk (kh P z15) (.str z15 193) (.ref 21)), (.mk (kh P z16) (.str z16 197) (.int 1114111 196)), (.mk (kh P z17) (.str z17 226) (.ref 39))]) 12) #[])
noncomputable def o12_1 : Params → Obj := fun P => (Obj.mk .none none (.fields (la [(.int 1 0), (.int 0 0), (.ref 20), (.int 6 0), (.int 0 0), (.ref 27)])) #[])
noncomputable def o15_1 : Params → Obj := fun P => (Obj.mk (.type "tuple") none (.seq #[] 0) #[])
noncomputable def o16_1 : Params → Obj := fun P => (Obj.mk .none none (.fields #[]) #[])
noncomputable def o17_1 : Params → Obj := fun P => (Obj.mk (.type "tuple") none (.seq (la [(.str z18 190)]) 0) #[])
noncomputable def o18_1 : Params → Obj := fun P => (Obj.mk (.type "tuple") none (.seq #[] 0) #[])
noncomputable def o19_1 : Params → Obj := fun P => (Obj.mk .none none (.func (.mk z15 z15 (fA (st 0)) (.stmts (fB (st 0))) (fS (st 0)) 0 [] .none .none .none .none none .none .none 0)) #[])
noncomputable def o20_1 : Params → Obj := fun P => (Obj.mk (.type "code") none (.fields (la [(.str z15 187), (.str z15 188), (.str z1 189), (.int 1 0), (.int 1 0), (.int 0 0), (.int 0 0), (.int 3 0), (.ref 15), (.bool .true), (.int 181 0), (.ref 16), .none, (.ref 17), (.ref 18), (.ref 19), (.int 191 0), (.int 1 0), (.str z1 192)])) #[])
noncomputable def o21_1 : Params → Obj := fun P => (Obj.mk (.type "function") none (.func (.mk z15 z15 (fA (st 0)) (.stmts (fB (st 0))) (fS (st 0)) 3 [] .none .none .none (.str z2 164) none (.ref 20) .none 0)) #[])
noncomputable def o22_1 : Params → Obj := fun P => (Obj.mk (.type "tuple") none (.seq (la [(.type "Exception")]) 0) #[])
noncomputable def o23_1 : Params → Obj := fun P => (Obj.mk (.type "builtin_function_or_method") none (.fields (la [(.builtin "type.__prepare__"), (.type "type")])) #[])
noncomputable def o24_1 : Params → Obj := fun P => (Obj.mk (.type "dict") none (.dict (la [(.mk (kh P z19) (.str z19 205) (.str z6 194)), (.mk (kh P z20) (.str z20 207) (.str z17 206)), (.mk (kh P z21) (.str z21 209) (.int 6 208)), (.mk (kh P z22) (.str z22 217) (.ref 36)), (.mk (kh P z23) (.str z23 219) (.ref 37))]) 5) #[])
noncomputable def o25_1 : Params → Obj := fun P => (Obj.mk (.type "tuple") none (.seq #[] 0) #[])
noncomputable def o26_1 : Params → Obj := fun P => (Obj.mk .none none (.fields (la [(.int 8 0), (.int 4 0), (.ref 35)])) #[])
noncomputable def o27_1 : Params → Obj := fun P => (Obj.mk (.type "code") none (.fields (la [(.str z17 200), (.str z17 201), (.str z1 202), (.int 6 0), (.int 0 0), (.int 0 0), (.int 0 0), (.int 0 0), (.ref 25), (.bool .false), (.int 181 0), (.ref 26), .none, .none, .none, .none, (.int 203 0), (.int 6 0), (.str z1 204)])) #[])
noncomputable def o28_1 : Params → Obj := fun P => (Obj.mk (.type "frame") none .plain (la [(some (.ref 27)), (some (.ref 3)), (some (.ref 24)), none, (some (.str z6 194)), none, (some (.ref 0))]))
noncomputable def o29_1 : Params → Obj := fun P => (Obj.mk (.type "tuple") none (.seq (la [.none]) 0) #[])
noncomputable def o30_1 : Params → Obj := fun P => (Obj.mk (.type "tuple") none (.seq #[] 0) #[])
noncomputable def o31_1 : Params → Obj := fun P => (Obj.mk .none none (.fields #[]) #[])
noncomputable def o32_1 : Params → Obj := fun P => (Obj.mk (.type "tuple") none (.seq (la [(.str z24 213), (.str z25 214)]) 0) #[])
noncomputable def o33_1 : Params → Obj := fun P => (Obj.mk (.type "tuple") none (.seq #[] 0) #[])
noncomputable def o34_1 : Params → Obj := fun P => (Obj.mk .none none (.func (.mk z22 z26 (fA (st2 3 0)) (.stmts (fB (st2 3 0))) (fS (st2 3 0)) 0 [] .none .none .none .none none .none .none 0)) #[])
noncomputable def o35_1 : Params → Obj := fun P => (Obj.mk (.type "code") none (.fields (la [(.str z22 210), (.str z26 211), (.str z1 212), (.int 8 0), (.int 2 0), (.int 0 0), (.int 0 0), (.int 3 0), (.ref 30), (.bool .true), (.int 181 0), (.ref 31), .none, (.ref 32), (.ref 33), (.ref 34), (.int 215 0), (.int 8 0), (.str z1 216)])) #[])
noncomputable def o36_1 : Params → Obj := fun P => (Obj.mk (.type "function") none (.func (.mk z22 z26 (fA (st2 3 0)) (.stmts (fB (st2 3 0))) (fS (st2 3 0)) 3 [] (.ref 29) .none .none (.str z6 194) none (.ref 35) .none 0)) #[])
noncomputable def o37_1 : Params → Obj := fun P => (Obj.mk (.type "tuple") none (.seq (la [(.str z25 218)]) 0) #[])
noncomputable def o38_1 : Params → Obj := fun P => (Obj.mk (.type "dict") none (.dict (la [(.mk (kh P z19) (.str z19 205) (.str z6 194)), (.mk (kh P z21) (.str z21 209) (.int 6 208)), (.mk (kh P z22) (.str z22 217) (.ref 36)), (.mk (kh P z23) (.str z23 219) (.ref 37)), (.mk (kh P z27) (.str z27 221) (.ref 40)), (.mk (kh P z7) (.str z7 222) .none)]) 3) #[])
noncomputable def o39_1 : Params → Obj := fun P => (Obj.mk (.type "type") none (.cls (.mk z17 [(.type "Exception")] [(.ref 39), (.type "Exception"), (.type "BaseException"), (.type "object")] 38 z17 .true [] [] .false (@Option.none @Bool) .false)) (la [(some (.ref 22)), none, (some (.str z17 198)), (some (.str z17 206)), (some (.builtin "Exception.__new__")), (some (.bool .true))]))
noncomputable def o40_1 : Params → Obj := fun P => (Obj.mk (.type "getset_descriptor") none (.fields (la [(.str z27 220), (.ref 39), (.builtin "ExceptionGroup.__weakref__"), .none])) #[])
noncomputable def o41_1 : Params → Obj := fun P => (Obj.mk (.type "super") none (.fields (la [(.ref 39), (.ref 39), (.ref 39)])) #[])
noncomputable def o42_1 : Params → Obj := fun P => (Obj.mk (.type "builtin_function_or_method") none (.fields (la [(.builtin "object.__init_subclass__"), (.ref 39)])) #[])
noncomputable def t1 : Params → BT := fun P => (.node (boot_o_0 P) (.node (boot_o_1 P) (.node (o3_1 P) (.node (boot_o_7 P) (.node (o15_1 P) (.node (o31_1 P) .nil .nil) .nil) (.node (o23_1 P) (.node (o39_1 P) .nil .nil) .nil)) (.node (o11_0 P) (.node (o19_1 P) (.node (o35_1 P) .nil .nil) .nil) (.node (o27_1 P) .nil .nil))) (.node (boot_o_5 P) (.node (boot_o_9 P) (.node (o17_1 P) (.node (o33_1 P) .nil .nil) .nil) (.node (o25_1 P) (.node (o41_1 P) .nil .nil) .nil)) (.node (o13_0 P) (.node (o21_1 P) (.node (o37_1 P) .nil .nil) .nil) (.node (o29_1 P) .nil .nil)))) (.node (o2_1 P) (.node (boot_o_4 P) (.node (boot_o_8 P) (.node (o16_1 P) (.node (o32_1 P) .nil .nil) .nil) (.node (o24_1 P) (.node (o40_1 P) .nil .nil) .nil)) (.node (o12_1 P) (.node (o20_1 P) (.node (o36_1 P) .nil .nil) .nil) (.node (o28_1 P) .nil .nil))) (.node (boot_o_6 P) (.node (boot_o_10 P) (.node (o18_1 P) (.node (o34_1 P) .nil .nil) .nil) (.node (o26_1 P) (.node (o42_1 P) .nil .nil) .nil)) (.node (o14_0 P) (.node (o22_1 P) (.node (o38_1 P) .nil .nil) .nil) (.node (o30_1 P) .nil .nil)))))
noncomputable def s1 (w : World) (os : OsState) : SharedT := ⟨t1 w.params, 43, lf, #[], (Drawn.mk 0 0 0 0), 227, os⟩
noncomputable def o3_2 : Params → Obj := fun P => (Obj.mk (.type "dict") none (.dict (la [(.mk (kh P z5) (.str z5 165) (.str z28 254)), (.mk (kh P z7) (.str z7 166) .none), (.mk (kh P z8) (.str z8 167) .none), (.mk (kh P z9) (.str z9 168) (.builtin "__main__.__loader__#opaque")), (.mk (kh P z10) (.str z10 169) .none), (.mk (kh P z11) (.str z11 170) (.ref 6)), (.mk (kh P z12) (.str z12 171) (.ref 4)), (.mk (kh P z13) (.str z13 173) (.str z1 172)), (.mk (kh P z14) (.str z14 174) .none), (.mk (kh P z15) (.str z15 193) (.ref 21)), (.mk (kh P z16) (.str z16 197) (.int 1114111 196)), (.mk (kh P z17) (.str z17 226) (.ref 39)), (.mk (kh P z29) (.str z29 242) (.ref 52)), (.mk (kh P z30) (.str z30 253) (.ref 61)), (.mk (kh P z31) (.str z31 257) (.int 44032 256)), (.mk (kh P z32) (.str z32 259) (.int 4352 258)), (.mk (kh P z33) (.str z33 261) (.int 4449 260)), (.mk (kh P z34) (.str z34 263) (.int 4519 262)), (.mk (kh P z35) (.str z35 265) (.int 19 264)), (.mk (kh P z36) (.str z36 267) (.int 21 266)), (.mk (kh P z37) (.str z37 269) (.int 28 268)), (.mk (kh P z38) (.str z38 272) (.int 11172 271)), (.mk (kh P z39) (.str z39 279) (.ref 68))]) 23) #[])
noncomputable def o12_2 : Params → Obj := fun P => (Obj.mk .none none (.fields (la [(.int 1 0), (.int 0 0), (.ref 20), (.int 6 0), (.int 0 0), (.ref 27), (.int 10 0), (.int 0 0), (.ref 48), (.int 12 0), (.int 0 0), (.ref 60), (.int 31 0), (.int 0 0), (.ref 67)])) #[])
noncomputable def o39_2 : Params → Obj := fun P => (Obj.mk (.type "type") none (.cls (.mk z17 [(.type "Exception")] [(.ref 39), (.type "Exception"), (.type "BaseException"), (.type "object")] 38 z17 .true [] [(.ref 52)] .false (@Option.none @Bool) .false)) (la [(some (.ref 22)), none, (some (.str z17 198)), (some (.str z17 206)), (some (.builtin "Exception.__new__")), (some (.bool .true))]))
noncomputable def o43_2 : Params → Obj := fun P => (Obj.mk (.type "tuple") none (.seq (la [(.ref 39)]) 0) #[])
noncomputable def o44_2 : Params → Obj := fun P => (Obj.mk (.type "builtin_function_or_method") none (.fields (la [(.builtin "type.__prepare__"), (.type "type")])) #[])
noncomputable def o45_2 : Params → Obj := fun P => (Obj.mk (.type "dict") none (.dict (la [(.mk (kh P z19) (.str z19 234) (.str z6 194)), (.mk (kh P z20) (.str z20 236) (.str z29 235)), (.mk (kh P z21) (.str z21 238) (.int 10 237)), (.mk (kh P z23) (.str z23 239) (.ref 50))]) 4) #[])
noncomputable def o46_2 : Params → Obj := fun P => (Obj.mk (.type "tuple") none (.seq #[] 0) #[])
noncomputable def o47_2 : Params → Obj := fun P => (Obj.mk .none none (.fields #[]) #[])
noncomputable def o48_2 : Params → Obj := fun P => (Obj.mk (.type "code") none (.fields (la [(.str z29 229), (.str z29 230), (.str z1 231), (.int 10 0), (.int 0 0), (.int 0 0), (.int 0 0), (.int 0 0), (.ref 46), (.bool .false), (.int 181 0), (.ref 47), .none, .none, .none, .none, (.int 232 0), (.int 10 0), (.str z1 233)])) #[])
noncomputable def o49_2 : Params → Obj := fun P => (Obj.mk (.type "frame") none .plain (la [(some (.ref 48)), (some (.ref 3)), (some (.ref 45)), none, (some (.str z6 194)), none, (some (.ref 0))]))
noncomputable def o50_2 : Params → Obj := fun P => (Obj.mk (.type "tuple") none (.seq #[] 0) #[])
noncomputable def o51_2 : Params → Obj := fun P => (Obj.mk (.type "dict") none (.dict (la [(.mk (kh P z19) (.str z19 234) (.str z6 194)), (.mk (kh P z21) (.str z21 238) (.int 10 237)), (.mk (kh P z23) (.str z23 239) (.ref 50)), (.mk (kh P z7) (.str z7 240) .none)]) 2) #[])
noncomputable def o52_2 : Params → Obj := fun P => (Obj.mk (.type "type") none (.cls (.mk z29 [(.ref 39)] [(.ref 52), (.ref 39), (.type "Exception"), (.type "BaseException"), (.type "object")] 51 z29 .true [] [] .false (@Option.none @Bool) .false)) (la [(some (.ref 43)), none, (some (.str z29 227)), (some (.str z29 235)), (some (.builtin "Exception.__new__")), (some (.bool .true))]))
noncomputable def o53_2 : Params → Obj := fun P => (Obj.mk (.type "super") none (.fields (la [(.ref 52), (.ref 52), (.ref 52)])) #[])
noncomputable def o54_2 : Params → Obj := fun P => (Obj.mk (.type "builtin_function_or_method") none (.fields (la [(.builtin "object.__init_subclass__"), (.ref 52)])) #[])
noncomputable def o55_2 : Params → Obj := fun P => (Obj.mk (.type "tuple") none (.seq #[] 0) #[])
noncomputable def o56_2 : Params → Obj := fun P => (Obj.mk .none none (.fields #[]) #[])
noncomputable def o57_2 : Params → Obj := fun P => (Obj.mk (.type "tuple") none (.seq (la [(.str z40 246), (.str z41 247), (.str z42 248), (.str z43 249), (.str z44 250)]) 0) #[])
noncomputable def o58_2 : Params → Obj := fun P => (Obj.mk (.type "tuple") none (.seq #[] 0) #[])
noncomputable def o59_2 : Params → Obj := fun P => (Obj.mk .none none (.func (.mk z30 z30 (fA (st 5)) (.stmts (fB (st 5))) (fS (st 5)) 0 [] .none .none .none .none none .none .none 0)) #[])
noncomputable def o60_2 : Params → Obj := fun P => (Obj.mk (.type "code") none (.fields (la [(.str z30 243), (.str z30 244), (.str z1 245), (.int 12 0), (.int 2 0), (.int 0 0), (.int 0 0), (.int 3 0), (.ref 55), (.bool .true), (.int 181 0), (.ref 56), .none, (.ref 57), (.ref 58), (.ref 59), (.int 251 0), (.int 12 0), (.str z1 252)])) #[])
noncomputable def o61_2 : Params → Obj := fun P => (Obj.mk (.type "function") none (.func (.mk z30 z30 (fA (st 5)) (.stmts (fB (st 5))) (fS (st 5)) 3 [] .none .none .none (.str z6 194) none (.ref 60) .none 0)) #[])
noncomputable def o62_2 : Params → Obj := fun P => (Obj.mk (.type "tuple") none (.seq #[] 0) #[])
noncomputable def o63_2 : Params → Obj := fun P => (Obj.mk .none none (.fields #[]) #[])
noncomputable def o64_2 : Params → Obj := fun P => (Obj.mk (.type "tuple") none (.seq (la [(.str z45 276)]) 0) #[])
noncomputable def o65_2 : Params → Obj := fun P => (Obj.mk (.type "tuple") none (.seq #[] 0) #[])
noncomputable def o66_2 : Params → Obj := fun P => (Obj.mk .none none (.func (.mk z39 z39 (fA (st 15)) (.stmts (fB (st 15))) (fS (st 15)) 0 [] .none .none .none .none none .none .none 0)) #[])
noncomputable def o67_2 : Params → Obj := fun P => (Obj.mk (.type "code") none (.fields (la [(.str z39 273), (.str z39 274), (.str z1 275), (.int 31 0), (.int 1 0), (.int 0 0), (.int 0 0), (.int 3 0), (.ref 62), (.bool .true), (.int 181 0), (.ref 63), .none, (.ref 64), (.ref 65), (.ref 66), (.int 277 0), (.int 31 0), (.str z1 278)])) #[])
noncomputable def o68_2 : Params → Obj := fun P => (Obj.mk (.type "function") none (.func (.mk z39 z39 (fA (st 15)) (.stmts (fB (st 15))) (fS (st 15)) 3 [] .none .none .none (.str z28 254) none (.ref 67) .none 0)) #[])
noncomputable def t2 : Params → BT := fun P => (.node (boot_o_0 P) (.node (boot_o_1 P) (.node (o3_2 P) (.node (boot_o_7 P) (.node (o15_1 P) (.node (o31_1 P) (.node (o63_2 P) .nil .nil) .nil) (.node (o47_2 P) .nil .nil)) (.node (o23_1 P) (.node (o39_2 P) .nil .nil) (.node (o55_2 P) .nil .nil))) (.node (o11_0 P) (.node (o19_1 P) (.node (o35_1 P) (.node (o67_2 P) .nil .nil) .nil) (.node (o51_2 P) .nil .nil)) (.node (o27_1 P) (.node (o43_2 P) .nil .nil) (.node (o59_2 P) .nil .nil)))) (.node (boot_o_5 P) (.node (boot_o_9 P) (.node (o17_1 P) (.node (o33_1 P) (.node (o65_2 P) .nil .nil) .nil) (.node (o49_2 P) .nil .nil)) (.node (o25_1 P) (.node (o41_1 P) .nil .nil) (.node (o57_2 P) .nil .nil))) (.node (o13_0 P) (.node (o21_1 P) (.node (o37_1 P) .nil .nil) (.node (o53_2 P) .nil .nil)) (.node (o29_1 P) (.node (o45_2 P) .nil .nil) (.node (o61_2 P) .nil .nil))))) (.node (o2_1 P) (.node (boot_o_4 P) (.node (boot_o_8 P) (.node (o16_1 P) (.node (o32_1 P) (.node (o64_2 P) .nil .nil) .nil) (.node (o48_2 P) .nil .nil)) (.node (o24_1 P) (.node (o40_1 P) .nil .nil) (.node (o56_2 P) .nil .nil))) (.node (o12_2 P) (.node (o20_1 P) (.node (o36_1 P) (.node (o68_2 P) .nil .nil) .nil) (.node (o52_2 P) .nil .nil)) (.node (o28_1 P) (.node (o44_2 P) .nil .nil) (.node (o60_2 P) .nil .nil)))) (.node (boot_o_6 P) (.node (boot_o_10 P) (.node (o18_1 P) (.node (o34_1 P) (.node (o66_2 P) .nil .nil) .nil) (.node (o50_2 P) .nil .nil)) (.node (o26_1 P) (.node (o42_1 P) .nil .nil) (.node (o58_2 P) .nil .nil))) (.node (o14_0 P) (.node (o22_1 P) (.node (o38_1 P) .nil .nil) (.node (o54_2 P) .nil .nil)) (.node (o30_1 P) (.node (o46_2 P) .nil .nil) (.node (o62_2 P) .nil .nil))))))
noncomputable def s2 (w : World) (os : OsState) : SharedT := ⟨t2 w.params, 69, lf, #[], (Drawn.mk 0 0 0 0), 280, os⟩
noncomputable def o3_3 : Params → Obj := fun P => (Obj.mk (.type "dict") none (.dict (la [(.mk (kh P z5) (.str z5 165) (.str z46 308)), (.mk (kh P z7) (.str z7 166) .none), (.mk (kh P z8) (.str z8 167) .none), (.mk (kh P z9) (.str z9 168) (.builtin "__main__.__loader__#opaque")), (.mk (kh P z10) (.str z10 169) .none), (.mk (kh P z11) (.str z11 170) (.ref 6)), (.mk (kh P z12) (.str z12 171) (.ref 4)), (.mk (kh P z13) (.str z13 173) (.str z1 172)), (.mk (kh P z14) (.str z14 174) .none), (.mk (kh P z15) (.str z15 193) (.ref 21)), (.mk (kh P z16) (.str z16 197) (.int 1114111 196)), (.mk (kh P z17) (.str z17 226) (.ref 39)), (.mk (kh P z29) (.str z29 242) (.ref 52)), (.mk (kh P z30) (.str z30 253) (.ref 61)), (.mk (kh P z31) (.str z31 257) (.int 44032 256)), (.mk (kh P z32) (.str z32 259) (.int 4352 258)), (.mk (kh P z33) (.str z33 261) (.int 4449 260)), (.mk (kh P z34) (.str z34 263) (.int 4519 262)), (.mk (kh P z35) (.str z35 265) (.int 19 264)), (.mk (kh P z36) (.str z36 267) (.int 21 266)), (.mk (kh P z37) (.str z37 269) (.int 28 268)), (.mk (kh P z38) (.str z38 272) (.int 11172 271)), (.mk (kh P z39) (.str z39 279) (.ref 68)), (.mk (kh P z47) (.str z47 287) (.ref 75)), (.mk (kh P z48) (.str z48 297) (.ref 82)), (.mk (kh P z49) (.str z49 307) (.ref 89)), (.mk (kh P z50) (.str z50 320) (.ref 96)), (.mk (kh P z51) (.str z51 335) (.ref 103)), (.mk (kh P z52) (.str z52 347) (.ref 110)), (.mk (kh P z53) (.str z53 353) (.ref 115)), (.mk (kh P z54) (.str z54 364) (.ref 123)), (.mk (kh P z55) (.str z55 376) (.ref 130)), (.mk (kh P z56) (.str z56 385) (.ref 137))]) 33) #[])
noncomputable def o12_3 : Params → Obj := fun P => (Obj.mk .none none (.fields (la [(.int 1 0), (.int 0 0), (.ref 20), (.int 6 0), (.int 0 0), (.ref 27), (.int 10 0), (.int 0 0), (.ref 48), (.int 12 0), (.int 0 0), (.ref 60), (.int 31 0), (.int 0 0), (.ref 67), (.int 33 0), (.int 0 0), (.ref 74), (.int 36 0), (.int 0 0), (.ref 81), (.int 43 0), (.int 0 0), (.ref 88), (.int 52 0), (.int 0 0), (.ref 95), (.int 60 0), (.int 0 0), (.ref 102), (.int 79 0), (.int 0 0), (.ref 109), (.int 91 0), (.int 0 0), (.ref 114), (.int 93 0), (.int 0 0), (.ref 122), (.int 98 0), (.int 0 0), (.ref 129), (.int 107 0), (.int 0 0), (.ref 136)])) #[])
noncomputable def o69_3 : Params → Obj := fun P => (Obj.mk (.type "tuple") none (.seq #[] 0) #[])
noncomputable def o70_3 : Params → Obj := fun P => (Obj.mk .none none (.fields #[]) #[])
noncomputable def o71_3 : Params → Obj := fun P => (Obj.mk (.type "tuple") none (.seq (la [(.str z45 283), (.str z41 284)]) 0) #[])
noncomputable def o72_3 : Params → Obj := fun P => (Obj.mk (.type "tuple") none (.seq #[] 0) #[])
noncomputable def o73_3 : Params → Obj := fun P => (Obj.mk .none none (.func (.mk z47 z47 (fA (st 16)) (.stmts (fB (st 16))) (fS (st 16)) 0 [] .none .none .none .none none .none .none 0)) #[])
noncomputable def o74_3 : Params → Obj := fun P => (Obj.mk (.type "code") none (.fields (la [(.str z47 280), (.str z47 281), (.str z1 282), (.int 33 0), (.int 1 0), (.int 0 0), (.int 0 0), (.int 3 0), (.ref 69), (.bool .true), (.int 181 0), (.ref 70), .none, (.ref 71), (.ref 72), (.ref 73), (.int 285 0), (.int 33 0), (.str z1 286)])) #[])
noncomputable def o75_3 : Params → Obj := fun P => (Obj.mk (.type "function") none (.func (.mk z47 z47 (fA (st 16)) (.stmts (fB (st 16))) (fS (st 16)) 3 [] .none .none .none (.str z28 254) none (.ref 74) .none 0)) #[])
noncomputable def o76_3 : Params → Obj := fun P => (Obj.mk (.type "tuple") none (.seq #[] 0) #[])
noncomputable def o77_3 : Params → Obj := fun P => (Obj.mk .none none (.fields #[]) #[])
noncomputable def o78_3 : Params → Obj := fun P => (Obj.mk (.type "tuple") none (.seq (la [(.str z45 291), (.str z57 292), (.str z58 293), (.str z59 294)]) 0) #[])
noncomputable def o79_3 : Params → Obj := fun P => (Obj.mk (.type "tuple") none (.seq #[] 0) #[])
noncomputable def o80_3 : Params → Obj := fun P => (Obj.mk .none none (.func (.mk z48 z48 (fA (st 17)) (.stmts (fB (st 17))) (fS (st 17)) 0 [] .none .none .none .none none .none .none 0)) #[])
noncomputable def o81_3 : Params → Obj := fun P => (Obj.mk (.type "code") none (.fields (la [(.str z48 288), (.str z48 289), (.str z1 290), (.int 36 0), (.int 1 0), (.int 0 0), (.int 0 0), (.int 3 0), (.ref 76), (.bool .true), (.int 181 0), (.ref 77), .none, (.ref 78), (.ref 79), (.ref 80), (.int 295 0), (.int 36 0), (.str z1 296)])) #[])
noncomputable def o82_3 : Params → Obj := fun P => (Obj.mk (.type "function") none (.func (.mk z48 z48 (fA (st 17)) (.stmts (fB (st 17))) (fS (st 17)) 3 [] .none .none .none (.str z28 254) none (.ref 81) .none 0)) #[])
noncomputable def o83_3 : Params → Obj := fun P => (Obj.mk (.type "tuple") none (.seq #[] 0) #[])
noncomputable def o84_3 : Params → Obj := fun P => (Obj.mk .none none (.fields #[]) #[])
noncomputable def o85_3 : Params → Obj := fun P => (Obj.mk (.type "tuple") none (.seq (la [(.str z60 301), (.str z61 302), (.str z57 303), (.str z58 304)]) 0) #[])
noncomputable def o86_3 : Params → Obj := fun P => (Obj.mk (.type "tuple") none (.seq #[] 0) #[])
noncomputable def o87_3 : Params → Obj := fun P => (Obj.mk .none none (.func (.mk z49 z49 (fA (st 18)) (.stmts (fB (st 18))) (fS (st 18)) 0 [] .none .none .none .none none .none .none 0)) #[])
noncomputable def o88_3 : Params → Obj := fun P => (Obj.mk (.type "code") none (.fields (la [(.str z49 298), (.str z49 299), (.str z1 300), (.int 43 0), (.int 2 0), (.int 0 0), (.int 0 0), (.int 3 0), (.ref 83), (.bool .true), (.int 181 0), (.ref 84), .none, (.ref 85), (.ref 86), (.ref 87), (.int 305 0), (.int 43 0), (.str z1 306)])) #[])
noncomputable def o89_3 : Params → Obj := fun P => (Obj.mk (.type "function") none (.func (.mk z49 z49 (fA (st 18)) (.stmts (fB (st 18))) (fS (st 18)) 3 [] .none .none .none (.str z28 254) none (.ref 88) .none 0)) #[])
noncomputable def o90_3 : Params → Obj := fun P => (Obj.mk (.type "tuple") none (.seq #[] 0) #[])
noncomputable def o91_3 : Params → Obj := fun P => (Obj.mk .none none (.fields #[]) #[])
noncomputable def o92_3 : Params → Obj := fun P => (Obj.mk (.type "tuple") none (.seq (la [(.str z45 313), (.str z62 314), (.str z63 315), (.str z64 316), (.str z25 317)]) 0) #[])
noncomputable def o93_3 : Params → Obj := fun P => (Obj.mk (.type "tuple") none (.seq #[] 0) #[])
noncomputable def o94_3 : Params → Obj := fun P => (Obj.mk .none none (.func (.mk z50 z50 (fA (st 20)) (.stmts (fB (st 20))) (fS (st 20)) 0 [] .none .none .none .none none .none .none 0)) #[])
noncomputable def o95_3 : Params → Obj := fun P => (Obj.mk (.type "code") none (.fields (la [(.str z50 310), (.str z50 311), (.str z1 312), (.int 52 0), (.int 3 0), (.int 0 0), (.int 0 0), (.int 3 0), (.ref 90), (.bool .true), (.int 181 0), (.ref 91), .none, (.ref 92), (.ref 93), (.ref 94), (.int 318 0), (.int 52 0), (.str z1 319)])) #[])
noncomputable def o96_3 : Params → Obj := fun P => (Obj.mk (.type "function") none (.func (.mk z50 z50 (fA (st 20)) (.stmts (fB (st 20))) (fS (st 20)) 3 [] .none .none .none (.str z46 308) none (.ref 95) .none 0)) #[])
noncomputable def o97_3 : Params → Obj := fun P => (Obj.mk (.type "tuple") none (.seq #[] 0) #[])
noncomputable def o98_3 : Params → Obj := fun P => (Obj.mk .none none (.fields #[]) #[])
noncomputable def o99_3 : Params → Obj := fun P => (Obj.mk (.type "tuple") none (.seq (la [(.str z45 324), (.str z62 325), (.str z63 326), (.str z65 327), (.str z66 328), (.str z67 329), (.str z68 330), (.str z64 331), (.str z69 332)]) 0) #[])
noncomputable def o100_3 : Params → Obj := fun P => (Obj.mk (.type "tuple") none (.seq #[] 0) #[])
noncomputable def o101_3 : Params → Obj := fun P => (Obj.mk .none none (.func (.mk z51 z51 (fA (st 21)) (.stmts (fB (st 21))) (fS (st 21)) 0 [] .none .none .none .none none .none .none 0)) #[])
noncomputable def o102_3 : Params → Obj := fun P => (Obj.mk (.type "code") none (.fields (la [(.str z51 321), (.str z51 322), (.str z1 323), (.int 60 0), (.int 3 0), (.int 0 0), (.int 0 0), (.int 3 0), (.ref 97), (.bool .true), (.int 181 0), (.ref 98), .none, (.ref 99), (.ref 100), (.ref 101), (.int 333 0), (.int 60 0), (.str z1 334)])) #[])
noncomputable def o103_3 : Params → Obj := fun P => (Obj.mk (.type "function") none (.func (.mk z51 z51 (fA (st 21)) (.stmts (fB (st 21))) (fS (st 21)) 3 [] .none .none .none (.str z46 308) none (.ref 102) .none 0)) #[])
noncomputable def o104_3 : Params → Obj := fun P => (Obj.mk (.type "tuple") none (.seq #[] 0) #[])
noncomputable def o105_3 : Params → Obj := fun P => (Obj.mk .none none (.fields #[]) #[])
noncomputable def o106_3 : Params → Obj := fun P => (Obj.mk (.type "tuple") none (.seq (la [(.str z70 339), (.str z62 340), (.str z65 341), (.str z71 342), (.str z45 343), (.str z72 344)]) 0) #[])
noncomputable def o107_3 : Params → Obj := fun P => (Obj.mk (.type "tuple") none (.seq #[] 0) #[])
noncomputable def o108_3 : Params → Obj := fun P => (Obj.mk .none none (.func (.mk z52 z52 (fA (st 22)) (.stmts (fB (st 22))) (fS (st 22)) 0 [] .none .none .none .none none .none .none 0)) #[])
noncomputable def o109_3 : Params → Obj := fun P => (Obj.mk (.type "code") none (.fields (la [(.str z52 336), (.str z52 337), (.str z1 338), (.int 79 0), (.int 2 0), (.int 0 0), (.int 0 0), (.int 3 0), (.ref 104), (.bool .true), (.int 181 0), (.ref 105), .none, (.ref 106), (.ref 107), (.ref 108), (.int 345 0), (.int 79 0), (.str z1 346)])) #[])
noncomputable def o110_3 : Params → Obj := fun P => (Obj.mk (.type "function") none (.func (.mk z52 z52 (fA (st 22)) (.stmts (fB (st 22))) (fS (st 22)) 3 [] .none .none .none (.str z46 308) none (.ref 109) .none 0)) #[])
noncomputable def o111_3 : Params → Obj := fun P => (Obj.mk (.type "tuple") none (.seq #[] 0) #[])
noncomputable def o112_3 : Params → Obj := fun P => (Obj.mk .none none (.fields #[]) #[])
noncomputable def o113_3 : Params → Obj := fun P => (Obj.mk .none none (.func (.mk z53 z53 (fA (st 23)) (.stmts (fB (st 23))) (fS (st 23)) 0 [] .none .none .none .none none .none .none 0)) #[])
noncomputable def o114_3 : Params → Obj := fun P => (Obj.mk (.type "code") none (.fields (la [(.str z53 348), (.str z53 349), (.str z1 350), (.int 91 0), (.int 1 0), (.int 0 0), (.int 0 0), (.int 3 0), (.ref 111), (.bool .true), (.int 181 0), (.ref 112), .none, .none, .none, (.ref 113), (.int 351 0), (.int 91 0), (.str z1 352)])) #[])
noncomputable def o115_3 : Params → Obj := fun P => (Obj.mk (.type "function") none (.func (.mk z53 z53 (fA (st 23)) (.stmts (fB (st 23))) (fS (st 23)) 3 [] .none .none .none (.str z46 308) none (.ref 114) .none 0)) #[])
noncomputable def o116_3 : Params → Obj := fun P => (Obj.mk (.type "tuple") none (.seq (la [(.bool .false)]) 0) #[])
noncomputable def o117_3 : Params → Obj := fun P => (Obj.mk (.type "tuple") none (.seq #[] 0) #[])
noncomputable def o118_3 : Params → Obj := fun P => (Obj.mk .none none (.fields #[]) #[])
noncomputable def o119_3 : Params → Obj := fun P => (Obj.mk (.type "tuple") none (.seq (la [(.str z70 357), (.str z62 358), (.str z63 359), (.str z65 360), (.str z45 361)]) 0) #[])
noncomputable def o120_3 : Params → Obj := fun P => (Obj.mk (.type "tuple") none (.seq #[] 0) #[])
noncomputable def o121_3 : Params → Obj := fun P => (Obj.mk .none none (.func (.mk z54 z54 (fA (st 24)) (.stmts (fB (st 24))) (fS (st 24)) 0 [] .none .none .none .none none .none .none 0)) #[])
noncomputable def o122_3 : Params → Obj := fun P => (Obj.mk (.type "code") none (.fields (la [(.str z54 354), (.str z54 355), (.str z1 356), (.int 93 0), (.int 3 0), (.int 0 0), (.int 0 0), (.int 3 0), (.ref 117), (.bool .true), (.int 181 0), (.ref 118), .none, (.ref 119), (.ref 120), (.ref 121), (.int 362 0), (.int 93 0), (.str z1 363)])) #[])
noncomputable def o123_3 : Params → Obj := fun P => (Obj.mk (.type "function") none (.func (.mk z54 z54 (fA (st 24)) (.stmts (fB (st 24))) (fS (st 24)) 3 [] (.ref 116) .none .none (.str z46 308) none (.ref 122) .none 0)) #[])
noncomputable def o124_3 : Params → Obj := fun P => (Obj.mk (.type "tuple") none (.seq #[] 0) #[])
noncomputable def o125_3 : Params → Obj := fun P => (Obj.mk .none none (.fields #[]) #[])
noncomputable def o126_3 : Params → Obj := fun P => (Obj.mk (.type "tuple") none (.seq (la [(.str z62 368), (.str z65 369), (.str z73 370), (.str z74 371), (.str z25 372), (.str z45 373)]) 0) #[])
noncomputable def o127_3 : Params → Obj := fun P => (Obj.mk (.type "tuple") none (.seq #[] 0) #[])
noncomputable def o128_3 : Params → Obj := fun P => (Obj.mk .none none (.func (.mk z55 z55 (fA (st 25)) (.stmts (fB (st 25))) (fS (st 25)) 0 [] .none .none .none .none none .none .none 0)) #[])
noncomputable def o129_3 : Params → Obj := fun P => (Obj.mk (.type "code") none (.fields (la [(.str z55 365), (.str z55 366), (.str z1 367), (.int 98 0), (.int 1 0), (.int 0 0), (.int 0 0), (.int 3 0), (.ref 124), (.bool .true), (.int 181 0), (.ref 125), .none, (.ref 126), (.ref 127), (.ref 128), (.int 374 0), (.int 98 0), (.str z1 375)])) #[])
noncomputable def o130_3 : Params → Obj := fun P => (Obj.mk (.type "function") none (.func (.mk z55 z55 (fA (st 25)) (.stmts (fB (st 25))) (fS (st 25)) 3 [] .none .none .none (.str z46 308) none (.ref 129) .none 0)) #[])
noncomputable def o131_3 : Params → Obj := fun P => (Obj.mk (.type "tuple") none (.seq #[] 0) #[])
noncomputable def o132_3 : Params → Obj := fun P => (Obj.mk .none none (.fields #[]) #[])
noncomputable def o133_3 : Params → Obj := fun P => (Obj.mk (.type "tuple") none (.seq (la [(.str z45 380), (.str z64 381), (.str z62 382)]) 0) #[])
noncomputable def o134_3 : Params → Obj := fun P => (Obj.mk (.type "tuple") none (.seq #[] 0) #[])
noncomputable def o135_3 : Params → Obj := fun P => (Obj.mk .none none (.func (.mk z56 z56 (fA (st 26)) (.stmts (fB (st 26))) (fS (st 26)) 0 [] .none .none .none .none none .none .none 0)) #[])
noncomputable def o136_3 : Params → Obj := fun P => (Obj.mk (.type "code") none (.fields (la [(.str z56 377), (.str z56 378), (.str z1 379), (.int 107 0), (.int 3 0), (.int 0 0), (.int 0 0), (.int 3 0), (.ref 131), (.bool .true), (.int 181 0), (.ref 132), .none, (.ref 133), (.ref 134), (.ref 135), (.int 383 0), (.int 107 0), (.str z1 384)])) #[])
noncomputable def o137_3 : Params → Obj := fun P => (Obj.mk (.type "function") none (.func (.mk z56 z56 (fA (st 26)) (.stmts (fB (st 26))) (fS (st 26)) 3 [] .none .none .none (.str z46 308) none (.ref 136) .none 0)) #[])
noncomputable def t3 : Params → BT := fun P => (.node (boot_o_0 P) (.node (boot_o_1 P) (.node (o3_3 P) (.node (boot_o_7 P) (.node (o15_1 P) (.node (o31_1 P) (.node (o63_2 P) (.node (o127_3 P) .nil .nil) .nil) (.node (o95_3 P) .nil .nil)) (.node (o47_2 P) (.node (o79_3 P) .nil .nil) (.node (o111_3 P) .nil .nil))) (.node (o23_1 P) (.node (o39_2 P) (.node (o71_3 P) (.node (o135_3 P) .nil .nil) .nil) (.node (o103_3 P) .nil .nil)) (.node (o55_2 P) (.node (o87_3 P) .nil .nil) (.node (o119_3 P) .nil .nil)))) (.node (o11_0 P) (.node (o19_1 P) (.node (o35_1 P) (.node (o67_2 P) (.node (o131_3 P) .nil .nil) .nil) (.node (o99_3 P) .nil .nil)) (.node (o51_2 P) (.node (o83_3 P) .nil .nil) (.node (o115_3 P) .nil .nil))) (.node (o27_1 P) (.node (o43_2 P) (.node (o75_3 P) .nil .nil) (.node (o107_3 P) .nil .nil)) (.node (o59_2 P) (.node (o91_3 P) .nil .nil) (.node (o123_3 P) .nil .nil))))) (.node (boot_o_5 P) (.node (boot_o_9 P) (.node (o17_1 P) (.node (o33_1 P) (.node (o65_2 P) (.node (o129_3 P) .nil .nil) .nil) (.node (o97_3 P) .nil .nil)) (.node (o49_2 P) (.node (o81_3 P) .nil .nil) (.node (o113_3 P) .nil .nil))) (.node (o25_1 P) (.node (o41_1 P) (.node (o73_3 P) (.node (o137_3 P) .nil .nil) .nil) (.node (o105_3 P) .nil .nil)) (.node (o57_2 P) (.node (o89_3 P) .nil .nil) (.node (o121_3 P) .nil .nil)))) (.node (o13_0 P) (.node (o21_1 P) (.node (o37_1 P) (.node (o69_3 P) (.node (o133_3 P) .nil .nil) .nil) (.node (o101_3 P) .nil .nil)) (.node (o53_2 P) (.node (o85_3 P) .nil .nil) (.node (o117_3 P) .nil .nil))) (.node (o29_1 P) (.node (o45_2 P) (.node (o77_3 P) .nil .nil) (.node (o109_3 P) .nil .nil)) (.node (o61_2 P) (.node (o93_3 P) .nil .nil) (.node (o125_3 P) .nil .nil)))))) (.node (o2_1 P) (.node (boot_o_4 P) (.node (boot_o_8 P) (.node (o16_1 P) (.node (o32_1 P) (.node (o64_2 P) (.node (o128_3 P) .nil .nil) .nil) (.node (o96_3 P) .nil .nil)) (.node (o48_2 P) (.node (o80_3 P) .nil .nil) (.node (o112_3 P) .nil .nil))) (.node (o24_1 P) (.node (o40_1 P) (.node (o72_3 P) (.node (o136_3 P) .nil .nil) .nil) (.node (o104_3 P) .nil .nil)) (.node (o56_2 P) (.node (o88_3 P) .nil .nil) (.node (o120_3 P) .nil .nil)))) (.node (o12_3 P) (.node (o20_1 P) (.node (o36_1 P) (.node (o68_2 P) (.node (o132_3 P) .nil .nil) .nil) (.node (o100_3 P) .nil .nil)) (.node (o52_2 P) (.node (o84_3 P) .nil .nil) (.node (o116_3 P) .nil .nil))) (.node (o28_1 P) (.node (o44_2 P) (.node (o76_3 P) .nil .nil) (.node (o108_3 P) .nil .nil)) (.node (o60_2 P) (.node (o92_3 P) .nil .nil) (.node (o124_3 P) .nil .nil))))) (.node (boot_o_6 P) (.node (boot_o_10 P) (.node (o18_1 P) (.node (o34_1 P) (.node (o66_2 P) (.node (o130_3 P) .nil .nil) .nil) (.node (o98_3 P) .nil .nil)) (.node (o50_2 P) (.node (o82_3 P) .nil .nil) (.node (o114_3 P) .nil .nil))) (.node (o26_1 P) (.node (o42_1 P) (.node (o74_3 P) .nil .nil) (.node (o106_3 P) .nil .nil)) (.node (o58_2 P) (.node (o90_3 P) .nil .nil) (.node (o122_3 P) .nil .nil)))) (.node (o14_0 P) (.node (o22_1 P) (.node (o38_1 P) (.node (o70_3 P) (.node (o134_3 P) .nil .nil) .nil) (.node (o102_3 P) .nil .nil)) (.node (o54_2 P) (.node (o86_3 P) .nil .nil) (.node (o118_3 P) .nil .nil))) (.node (o30_1 P) (.node (o46_2 P) (.node (o78_3 P) .nil .nil) (.node (o110_3 P) .nil .nil)) (.node (o62_2 P) (.node (o94_3 P) .nil .nil) (.node (o126_3 P) .nil .nil)))))))
noncomputable def s3 (w : World) (os : OsState) : SharedT := ⟨t3 w.params, 138, lf, #[], (Drawn.mk 0 0 0 0), 386, os⟩
noncomputable def o3_4 : Params → Obj := fun P => (Obj.mk (.type "dict") none (.dict (la [(.mk (kh P z5) (.str z5 165) (.str z46 308)), (.mk (kh P z7) (.str z7 166) .none), (.mk (kh P z8) (.str z8 167) .none), (.mk (kh P z9) (.str z9 168) (.builtin "__main__.__loader__#opaque")), (.mk (kh P z10) (.str z10 169) .none), (.mk (kh P z11) (.str z11 170) (.ref 6)), (.mk (kh P z12) (.str z12 171) (.ref 4)), (.mk (kh P z13) (.str z13 173) (.str z1 172)), (.mk (kh P z14) (.str z14 174) .none), (.mk (kh P z15) (.str z15 193) (.ref 21)), (.mk (kh P z16) (.str z16 197) (.int 1114111 196)), (.mk (kh P z17) (.str z17 226) (.ref 39)), (.mk (kh P z29) (.str z29 242) (.ref 52)), (.mk (kh P z30) (.str z30 253) (.ref 61)), (.mk (kh P z31) (.str z31 257) (.int 44032 256)), (.mk (kh P z32) (.str z32 259) (.int 4352 258)), (.mk (kh P z33) (.str z33 261) (.int 4449 260)), (.mk (kh P z34) (.str z34 263) (.int 4519 262)), (.mk (kh P z35) (.str z35 265) (.int 19 264)), (.mk (kh P z36) (.str z36 267) (.int 21 266)), (.mk (kh P z37) (.str z37 269) (.int 28 268)), (.mk (kh P z38) (.str z38 272) (.int 11172 271)), (.mk (kh P z39) (.str z39 279) (.ref 68)), (.mk (kh P z47) (.str z47 287) (.ref 75)), (.mk (kh P z48) (.str z48 297) (.ref 82)), (.mk (kh P z49) (.str z49 307) (.ref 89)), (.mk (kh P z50) (.str z50 320) (.ref 96)), (.mk (kh P z51) (.str z51 335) (.ref 103)), (.mk (kh P z52) (.str z52 347) (.ref 110)), (.mk (kh P z53) (.str z53 353) (.ref 115)), (.mk (kh P z54) (.str z54 364) (.ref 123)), (.mk (kh P z55) (.str z55 376) (.ref 130)), (.mk (kh P z56) (.str z56 385) (.ref 137)), (.mk (kh P z75) (.str z75 435) (.ref 168)), (.mk (kh P z76) (.str z76 450) (.ref 180)), (.mk (kh P z77) (.str z77 461) (.ref 188)), (.mk (kh P z78) (.str z78 469) (.ref 195))]) 37) #[])
noncomputable def o12_4 : Params → Obj := fun P => (Obj.mk .none none (.fields (la [(.int 1 0), (.int 0 0), (.ref 20), (.int 6 0), (.int 0 0), (.ref 27), (.int 10 0), (.int 0 0), (.ref 48), (.int 12 0), (.int 0 0), (.ref 60), (.int 31 0), (.int 0 0), (.ref 67), (.int 33 0), (.int 0 0), (.ref 74), (.int 36 0), (.int 0 0), (.ref 81), (.int 43 0), (.int 0 0), (.ref 88), (.int 52 0), (.int 0 0), (.ref 95), (.int 60 0), (.int 0 0), (.ref 102), (.int 79 0), (.int 0 0), (.ref 109), (.int 91 0), (.int 0 0), (.ref 114), (.int 93 0), (.int 0 0), (.ref 122), (.int 98 0), (.int 0 0), (.ref 129), (.int 107 0), (.int 0 0), (.ref 136), (.int 111 0), (.int 0 0), (.ref 143), (.int 125 0), (.int 0 0), (.ref 179), (.int 141 0), (.int 0 0), (.ref 187), (.int 144 0), (.int 0 0), (.ref 194)])) #[])
noncomputable def o138_4 : Params → Obj := fun P => (Obj.mk (.type "tuple") none (.seq #[] 0) #[])
noncomputable def o139_4 : Params → Obj := fun P => (Obj.mk (.type "builtin_function_or_method") none (.fields (la [(.builtin "type.__prepare__"), (.type "type")])) #[])
noncomputable def o140_4 : Params → Obj := fun P => (Obj.mk (.type "dict") none (.dict (la [(.mk (kh P z19) (.str z19 393) (.str z46 308)), (.mk (kh P z20) (.str z20 395) (.str z75 394)), (.mk (kh P z21) (.str z21 397) (.int 111 396)), (.mk (kh P z22) (.str z22 407) (.ref 151)), (.mk (kh P z79) (.str z79 417) (.ref 158)), (.mk (kh P z80) (.str z80 425) (.ref 165)), (.mk (kh P z23) (.str z23 428) (.ref 166))]) 7) #[])
noncomputable def o141_4 : Params → Obj := fun P => (Obj.mk (.type "tuple") none (.seq #[] 0) #[])
noncomputable def o142_4 : Params → Obj := fun P => (Obj.mk .none none (.fields (la [(.int 113 0), (.int 4 0), (.ref 150), (.int 119 0), (.int 4 0), (.ref 157), (.int 123 0), (.int 4 0), (.ref 164)])) #[])
noncomputable def o143_4 : Params → Obj := fun P => (Obj.mk (.type "code") none (.fields (la [(.str z75 388), (.str z75 389), (.str z1 390), (.int 111 0), (.int 0 0), (.int 0 0), (.int 0 0), (.int 0 0), (.ref 141), (.bool .false), (.int 181 0), (.ref 142), .none, .none, .none, .none, (.int 391 0), (.int 111 0), (.str z1 392)])) #[])
noncomputable def o144_4 : Params → Obj := fun P => (Obj.mk (.type "frame") none .plain (la [(some (.ref 143)), (some (.ref 3)), (some (.ref 140)), none, (some (.str z46 308)), none, (some (.ref 0))]))
noncomputable def o145_4 : Params → Obj := fun P => (Obj.mk (.type "tuple") none (.seq #[] 0) #[])
noncomputable def o146_4 : Params → Obj := fun P => (Obj.mk .none none (.fields #[]) #[])
noncomputable def o147_4 : Params → Obj := fun P => (Obj.mk (.type "tuple") none (.seq (la [(.str z24 401), (.str z62 402), (.str z60 403), (.str z61 404)]) 0) #[])
noncomputable def o148_4 : Params → Obj := fun P => (Obj.mk (.type "tuple") none (.seq #[] 0) #[])
noncomputable def o149_4 : Params → Obj := fun P => (Obj.mk .none none (.func (.mk z22 z81 (fA (st2 27 0)) (.stmts (fB (st2 27 0))) (fS (st2 27 0)) 0 [] .none .none .none .none none .none .none 0)) #[])
noncomputable def o150_4 : Params → Obj := fun P => (Obj.mk (.type "code") none (.fields (la [(.str z22 398), (.str z81 399), (.str z1 400), (.int 113 0), (.int 2 0), (.int 0 0), (.int 0 0), (.int 3 0), (.ref 145), (.bool .true), (.int 181 0), (.ref 146), .none, (.ref 147), (.ref 148), (.ref 149), (.int 405 0), (.int 113 0), (.str z1 406)])) #[])
noncomputable def o151_4 : Params → Obj := fun P => (Obj.mk (.type "function") none (.func (.mk z22 z81 (fA (st2 27 0)) (.stmts (fB (st2 27 0))) (fS (st2 27 0)) 3 [] .none .none .none (.str z46 308) none (.ref 150) .none 0)) #[])
noncomputable def o152_4 : Params → Obj := fun P => (Obj.mk (.type "tuple") none (.seq #[] 0) #[])
noncomputable def o153_4 : Params → Obj := fun P => (Obj.mk .none none (.fields #[]) #[])
noncomputable def o154_4 : Params → Obj := fun P => (Obj.mk (.type "tuple") none (.seq (la [(.str z24 411), (.str z60 412), (.str z61 413), (.str z65 414)]) 0) #[])
noncomputable def o155_4 : Params → Obj := fun P => (Obj.mk (.type "tuple") none (.seq #[] 0) #[])
noncomputable def o156_4 : Params → Obj := fun P => (Obj.mk .none none (.func (.mk z79 z82 (fA (st2 27 1)) (.stmts (fB (st2 27 1))) (fS (st2 27 1)) 0 [] .none .none .none .none none .none .none 0)) #[])
noncomputable def o157_4 : Params → Obj := fun P => (Obj.mk (.type "code") none (.fields (la [(.str z79 408), (.str z82 409), (.str z1 410), (.int 119 0), (.int 3 0), (.int 0 0), (.int 0 0), (.int 3 0), (.ref 152), (.bool .true), (.int 181 0), (.ref 153), .none, (.ref 154), (.ref 155), (.ref 156), (.int 415 0), (.int 119 0), (.str z1 416)])) #[])
noncomputable def o158_4 : Params → Obj := fun P => (Obj.mk (.type "function") none (.func (.mk z79 z82 (fA (st2 27 1)) (.stmts (fB (st2 27 1))) (fS (st2 27 1)) 3 [] .none .none .none (.str z46 308) none (.ref 157) .none 0)) #[])
noncomputable def o159_4 : Params → Obj := fun P => (Obj.mk (.type "tuple") none (.seq #[] 0) #[])
noncomputable def o160_4 : Params → Obj := fun P => (Obj.mk .none none (.fields #[]) #[])
noncomputable def o161_4 : Params → Obj := fun P => (Obj.mk (.type "tuple") none (.seq (la [(.str z24 421), (.str z45 422)]) 0) #[])
noncomputable def o162_4 : Params → Obj := fun P => (Obj.mk (.type "tuple") none (.seq #[] 0) #[])
noncomputable def o163_4 : Params → Obj := fun P => (Obj.mk .none none (.func (.mk z80 z83 (fA (st2 27 2)) (.stmts (fB (st2 27 2))) (fS (st2 27 2)) 0 [] .none .none .none .none none .none .none 0)) #[])
noncomputable def o164_4 : Params → Obj := fun P => (Obj.mk (.type "code") none (.fields (la [(.str z80 418), (.str z83 419), (.str z1 420), (.int 123 0), (.int 2 0), (.int 0 0), (.int 0 0), (.int 3 0), (.ref 159), (.bool .true), (.int 181 0), (.ref 160), .none, (.ref 161), (.ref 162), (.ref 163), (.int 423 0), (.int 123 0), (.str z1 424)])) #[])
noncomputable def o165_4 : Params → Obj := fun P => (Obj.mk (.type "function") none (.func (.mk z80 z83 (fA (st2 27 2)) (.stmts (fB (st2 27 2))) (fS (st2 27 2)) 3 [] .none .none .none (.str z46 308) none (.ref 164) .none 0)) #[])
noncomputable def o166_4 : Params → Obj := fun P => (Obj.mk (.type "tuple") none (.seq (la [(.str z84 426), (.str z85 427)]) 0) #[])
noncomputable def o167_4 : Params → Obj := fun P => (Obj.mk (.type "dict") none (.dict (la [(.mk (kh P z19) (.str z19 393) (.str z46 308)), (.mk (kh P z21) (.str z21 397) (.int 111 396)), (.mk (kh P z22) (.str z22 407) (.ref 151)), (.mk (kh P z79) (.str z79 417) (.ref 158)), (.mk (kh P z80) (.str z80 425) (.ref 165)), (.mk (kh P z23) (.str z23 428) (.ref 166)), (.mk (kh P z86) (.str z86 430) (.ref 169)), (.mk (kh P z27) (.str z27 432) (.ref 170)), (.mk (kh P z7) (.str z7 433) .none)]) 4) #[])
noncomputable def o168_4 : Params → Obj := fun P => (Obj.mk (.type "type") none (.cls (.mk z75 [(.type "object")] [(.ref 168), (.type "object")] 167 z75 .true [] [] .false (@Option.none @Bool) .false)) (la [none, none, (some (.str z75 386)), (some (.str z75 394)), (some (.builtin "object.__new__")), (some (.bool .true))]))
noncomputable def o169_4 : Params → Obj := fun P => (Obj.mk (.type "getset_descriptor") none (.fields (la [(.str z86 429), (.ref 168), (.builtin "function.__dict__"), (.builtin "function.__dict__#set")])) #[])
noncomputable def o170_4 : Params → Obj := fun P => (Obj.mk (.type "getset_descriptor") none (.fields (la [(.str z27 431), (.ref 168), (.builtin "ExceptionGroup.__weakref__"), .none])) #[])
noncomputable def o171_4 : Params → Obj := fun P => (Obj.mk (.type "super") none (.fields (la [(.ref 168), (.ref 168), (.ref 168)])) #[])
noncomputable def o172_4 : Params → Obj := fun P => (Obj.mk (.type "builtin_function_or_method") none (.fields (la [(.builtin "object.__init_subclass__"), (.ref 168)])) #[])
noncomputable def o173_4 : Params → Obj := fun P => (Obj.mk (.type "tuple") none (.seq (la [.none]) 0) #[])
noncomputable def o174_4 : Params → Obj := fun P => (Obj.mk (.type "tuple") none (.seq #[] 0) #[])
noncomputable def o175_4 : Params → Obj := fun P => (Obj.mk .none none (.fields #[]) #[])
noncomputable def o176_4 : Params → Obj := fun P => (Obj.mk (.type "tuple") none (.seq (la [(.str z70 439), (.str z62 440), (.str z87 441), (.str z65 442), (.str z88 443), (.str z89 444), (.str z45 445), (.str z72 446), (.str z79 447)]) 0) #[])
noncomputable def o177_4 : Params → Obj := fun P => (Obj.mk (.type "tuple") none (.seq #[] 0) #[])
noncomputable def o178_4 : Params → Obj := fun P => (Obj.mk .none none (.func (.mk z76 z76 (fA (st 28)) (.stmts (fB (st 28))) (fS (st 28)) 0 [] .none .none .none .none none .none .none 0)) #[])
noncomputable def o179_4 : Params → Obj := fun P => (Obj.mk (.type "code") none (.fields (la [(.str z76 436), (.str z76 437), (.str z1 438), (.int 125 0), (.int 3 0), (.int 0 0), (.int 0 0), (.int 3 0), (.ref 174), (.bool .true), (.int 181 0), (.ref 175), .none, (.ref 176), (.ref 177), (.ref 178), (.int 448 0), (.int 125 0), (.str z1 449)])) #[])
noncomputable def o180_4 : Params → Obj := fun P => (Obj.mk (.type "function") none (.func (.mk z76 z76 (fA (st 28)) (.stmts (fB (st 28))) (fS (st 28)) 3 [] (.ref 173) .none .none (.str z46 308) none (.ref 179) .none 0)) #[])
noncomputable def o181_4 : Params → Obj := fun P => (Obj.mk (.type "tuple") none (.seq (la [.none]) 0) #[])
noncomputable def o182_4 : Params → Obj := fun P => (Obj.mk (.type "tuple") none (.seq #[] 0) #[])
noncomputable def o183_4 : Params → Obj := fun P => (Obj.mk .none none (.fields #[]) #[])
noncomputable def o184_4 : Params → Obj := fun P => (Obj.mk (.type "tuple") none (.seq (la [(.str z70 454), (.str z62 455), (.str z90 456), (.str z87 457), (.str z65 458)]) 0) #[])
noncomputable def o185_4 : Params → Obj := fun P => (Obj.mk (.type "tuple") none (.seq #[] 0) #[])
noncomputable def o186_4 : Params → Obj := fun P => (Obj.mk .none none (.func (.mk z77 z77 (fA (st 29)) (.stmts (fB (st 29))) (fS (st 29)) 0 [] .none .none .none .none none .none .none 0)) #[])
noncomputable def o187_4 : Params → Obj := fun P => (Obj.mk (.type "code") none (.fields (la [(.str z77 451), (.str z77 452), (.str z1 453), (.int 141 0), (.int 4 0), (.int 0 0), (.int 0 0), (.int 3 0), (.ref 182), (.bool .true), (.int 181 0), (.ref 183), .none, (.ref 184), (.ref 185), (.ref 186), (.int 459 0), (.int 141 0), (.str z1 460)])) #[])
noncomputable def o188_4 : Params → Obj := fun P => (Obj.mk (.type "function") none (.func (.mk z77 z77 (fA (st 29)) (.stmts (fB (st 29))) (fS (st 29)) 3 [] (.ref 181) .none .none (.str z46 308) none (.ref 187) .none 0)) #[])
noncomputable def o189_4 : Params → Obj := fun P => (Obj.mk (.type "tuple") none (.seq #[] 0) #[])
noncomputable def o190_4 : Params → Obj := fun P => (Obj.mk .none none (.fields #[]) #[])
noncomputable def o191_4 : Params → Obj := fun P => (Obj.mk (.type "tuple") none (.seq (la [(.str z70 465), (.str z62 466)]) 0) #[])
noncomputable def o192_4 : Params → Obj := fun P => (Obj.mk (.type "tuple") none (.seq #[] 0) #[])
noncomputable def o193_4 : Params → Obj := fun P => (Obj.mk .none none (.func (.mk z78 z78 (fA (st 30)) (.stmts (fB (st 30))) (fS (st 30)) 0 [] .none .none .none .none none .none .none 0)) #[])
noncomputable def o194_4 : Params → Obj := fun P => (Obj.mk (.type "code") none (.fields (la [(.str z78 462), (.str z78 463), (.str z1 464), (.int 144 0), (.int 2 0), (.int 0 0), (.int 0 0), (.int 3 0), (.ref 189), (.bool .true), (.int 181 0), (.ref 190), .none, (.ref 191), (.ref 192), (.ref 193), (.int 467 0), (.int 144 0), (.str z1 468)])) #[])
noncomputable def o195_4 : Params → Obj := fun P => (Obj.mk (.type "function") none (.func (.mk z78 z78 (fA (st 30)) (.stmts (fB (st 30))) (fS (st 30)) 3 [] .none .none .none (.str z46 308) none (.ref 194) .none 0)) #[])
noncomputable def t4 : Params → BT := fun P => (.node (boot_o_0 P) (.node (boot_o_1 P) (.node (o3_4 P) (.node (boot_o_7 P) (.node (o15_1 P) (.node (o31_1 P) (.node (o63_2 P) (.node (o127_3 P) .nil .nil) (.node (o191_4 P) .nil .nil)) (.node (o95_3 P) (.node (o159_4 P) .nil .nil) .nil)) (.node (o47_2 P) (.node (o79_3 P) (.node (o143_4 P) .nil .nil) .nil) (.node (o111_3 P) (.node (o175_4 P) .nil .nil) .nil))) (.node (o23_1 P) (.node (o39_2 P) (.node (o71_3 P) (.node (o135_3 P) .nil .nil) .nil) (.node (o103_3 P) (.node (o167_4 P) .nil .nil) .nil)) (.node (o55_2 P) (.node (o87_3 P) (.node (o151_4 P) .nil .nil) .nil) (.node (o119_3 P) (.node (o183_4 P) .nil .nil) .nil)))) (.node (o11_0 P) (.node (o19_1 P) (.node (o35_1 P) (.node (o67_2 P) (.node (o131_3 P) .nil .nil) (.node (o195_4 P) .nil .nil)) (.node (o99_3 P) (.node (o163_4 P) .nil .nil) .nil)) (.node (o51_2 P) (.node (o83_3 P) (.node (o147_4 P) .nil .nil) .nil) (.node (o115_3 P) (.node (o179_4 P) .nil .nil) .nil))) (.node (o27_1 P) (.node (o43_2 P) (.node (o75_3 P) (.node (o139_4 P) .nil .nil) .nil) (.node (o107_3 P) (.node (o171_4 P) .nil .nil) .nil)) (.node (o59_2 P) (.node (o91_3 P) (.node (o155_4 P) .nil .nil) .nil) (.node (o123_3 P) (.node (o187_4 P) .nil .nil) .nil))))) (.node (boot_o_5 P) (.node (boot_o_9 P) (.node (o17_1 P) (.node (o33_1 P) (.node (o65_2 P) (.node (o129_3 P) .nil .nil) (.node (o193_4 P) .nil .nil)) (.node (o97_3 P) (.node (o161_4 P) .nil .nil) .nil)) (.node (o49_2 P) (.node (o81_3 P) (.node (o145_4 P) .nil .nil) .nil) (.node (o113_3 P) (.node (o177_4 P) .nil .nil) .nil))) (.node (o25_1 P) (.node (o41_1 P) (.node (o73_3 P) (.node (o137_3 P) .nil .nil) .nil) (.node (o105_3 P) (.node (o169_4 P) .nil .nil) .nil)) (.node (o57_2 P) (.node (o89_3 P) (.node (o153_4 P) .nil .nil) .nil) (.node (o121_3 P) (.node (o185_4 P) .nil .nil) .nil)))) (.node (o13_0 P) (.node (o21_1 P) (.node (o37_1 P) (.node (o69_3 P) (.node (o133_3 P) .nil .nil) .nil) (.node (o101_3 P) (.node (o165_4 P) .nil .nil) .nil)) (.node (o53_2 P) (.node (o85_3 P) (.node (o149_4 P) .nil .nil) .nil) (.node (o117_3 P) (.node (o181_4 P) .nil .nil) .nil))) (.node (o29_1 P) (.node (o45_2 P) (.node (o77_3 P) (.node (o141_4 P) .nil .nil) .nil) (.node (o109_3 P) (.node (o173_4 P) .nil .nil) .nil)) (.node (o61_2 P) (.node (o93_3 P) (.node (o157_4 P) .nil .nil) .nil) (.node (o125_3 P) (.node (o189_4 P) .nil .nil) .nil)))))) (.node (o2_1 P) (.node (boot_o_4 P) (.node (boot_o_8 P) (.node (o16_1 P) (.node (o32_1 P) (.node (o64_2 P) (.node (o128_3 P) .nil .nil) (.node (o192_4 P) .nil .nil)) (.node (o96_3 P) (.node (o160_4 P) .nil .nil) .nil)) (.node (o48_2 P) (.node (o80_3 P) (.node (o144_4 P) .nil .nil) .nil) (.node (o112_3 P) (.node (o176_4 P) .nil .nil) .nil))) (.node (o24_1 P) (.node (o40_1 P) (.node (o72_3 P) (.node (o136_3 P) .nil .nil) .nil) (.node (o104_3 P) (.node (o168_4 P) .nil .nil) .nil)) (.node (o56_2 P) (.node (o88_3 P) (.node (o152_4 P) .nil .nil) .nil) (.node (o120_3 P) (.node (o184_4 P) .nil .nil) .nil)))) (.node (o12_4 P) (.node (o20_1 P) (.node (o36_1 P) (.node (o68_2 P) (.node (o132_3 P) .nil .nil) .nil) (.node (o100_3 P) (.node (o164_4 P) .nil .nil) .nil)) (.node (o52_2 P) (.node (o84_3 P) (.node (o148_4 P) .nil .nil) .nil) (.node (o116_3 P) (.node (o180_4 P) .nil .nil) .nil))) (.node (o28_1 P) (.node (o44_2 P) (.node (o76_3 P) (.node (o140_4 P) .nil .nil) .nil) (.node (o108_3 P) (.node (o172_4 P) .nil .nil) .nil)) (.node (o60_2 P) (.node (o92_3 P) (.node (o156_4 P) .nil .nil) .nil) (.node (o124_3 P) (.node (o188_4 P) .nil .nil) .nil))))) (.node (boot_o_6 P) (.node (boot_o_10 P) (.node (o18_1 P) (.node (o34_1 P) (.node (o66_2 P) (.node (o130_3 P) .nil .nil) (.node (o194_4 P) .nil .nil)) (.node (o98_3 P) (.node (o162_4 P) .nil .nil) .nil)) (.node (o50_2 P) (.node (o82_3 P) (.node (o146_4 P) .nil .nil) .nil) (.node (o114_3 P) (.node (o178_4 P) .nil .nil) .nil))) (.node (o26_1 P) (.node (o42_1 P) (.node (o74_3 P) (.node (o138_4 P) .nil .nil) .nil) (.node (o106_3 P) (.node (o170_4 P) .nil .nil) .nil)) (.node (o58_2 P) (.node (o90_3 P) (.node (o154_4 P) .nil .nil) .nil) (.node (o122_3 P) (.node (o186_4 P) .nil .nil) .nil)))) (.node (o14_0 P) (.node (o22_1 P) (.node (o38_1 P) (.node (o70_3 P) (.node (o134_3 P) .nil .nil) .nil) (.node (o102_3 P) (.node (o166_4 P) .nil .nil) .nil)) (.node (o54_2 P) (.node (o86_3 P) (.node (o150_4 P) .nil .nil) .nil) (.node (o118_3 P) (.node (o182_4 P) .nil .nil) .nil))) (.node (o30_1 P) (.node (o46_2 P) (.node (o78_3 P) (.node (o142_4 P) .nil .nil) .nil) (.node (o110_3 P) (.node (o174_4 P) .nil .nil) .nil)) (.node (o62_2 P) (.node (o94_3 P) (.node (o158_4 P) .nil .nil) .nil) (.node (o126_3 P) (.node (o190_4 P) .nil .nil) .nil)))))))
noncomputable def s4 (w : World) (os : OsState) : SharedT := ⟨t4 w.params, 196, lf, #[], (Drawn.mk 0 0 0 0), 470, os⟩
noncomputable def o3_5 : Params → Obj := fun P => (Obj.mk (.type "dict") none (.dict (la [(.mk (kh P z5) (.str z5 165) (.str z91 512)), (.mk (kh P z7) (.str z7 166) .none), (.mk (kh P z8) (.str z8 167) .none), (.mk (kh P z9) (.str z9 168) (.builtin "__main__.__loader__#opaque")), (.mk (kh P z10) (.str z10 169) .none), (.mk (kh P z11) (.str z11 170) (.ref 6)), (.mk (kh P z12) (.str z12 171) (.ref 4)), (.mk (kh P z13) (.str z13 173) (.str z1 172)), (.mk (kh P z14) (.str z14 174) .none), (.mk (kh P z15) (.str z15 193) (.ref 21)), (.mk (kh P z16) (.str z16 197) (.int 1114111 196)), (.mk (kh P z17) (.str z17 226) (.ref 39)), (.mk (kh P z29) (.str z29 242) (.ref 52)), (.mk (kh P z30) (.str z30 253) (.ref 61)), (.mk (kh P z31) (.str z31 257) (.int 44032 256)), (.mk (kh P z32) (.str z32 259) (.int 4352 258)), (.mk (kh P z33) (.str z33 261) (.int 4449 260)), (.mk (kh P z34) (.str z34 263) (.int 4519 262)), (.mk (kh P z35) (.str z35 265) (.int 19 264)), (.mk (kh P z36) (.str z36 267) (.int 21 266)), (.mk (kh P z37) (.str z37 269) (.int 28 268)), (.mk (kh P z38) (.str z38 272) (.int 11172 271)), (.mk (kh P z39) (.str z39 279) (.ref 68)), (.mk (kh P z47) (.str z47 287) (.ref 75)), (.mk (kh P z48) (.str z48 297) (.ref 82)), (.mk (kh P z49) (.str z49 307) (.ref 89)), (.mk (kh P z50) (.str z50 320) (.ref 96)), (.mk (kh P z51) (.str z51 335) (.ref 103)), (.mk (kh P z52) (.str z52 347) (.ref 110)), (.mk (kh P z53) (.str z53 353) (.ref 115)), (.mk (kh P z54) (.str z54 364) (.ref 123)), (.mk (kh P z55) (.str z55 376) (.ref 130)), (.mk (kh P z56) (.str z56 385) (.ref 137)), (.mk (kh P z75) (.str z75 435) (.ref 168)), (.mk (kh P z76) (.str z76 450) (.ref 180)), (.mk (kh P z77) (.str z77 461) (.ref 188)), (.mk (kh P z78) (.str z78 469) (.ref 195)), (.mk (kh P z92) (.str z92 482) (.ref 202)), (.mk (kh P z93) (.str z93 497) (.ref 209)), (.mk (kh P z94) (.str z94 511) (.ref 217)), (.mk (kh P z95) (.str z95 521) (.ref 224))]) 41) #[])
noncomputable def o12_5 : Params → Obj := fun P => (Obj.mk .none none (.fields (la [(.int 1 0), (.int 0 0), (.ref 20), (.int 6 0), (.int 0 0), (.ref 27), (.int 10 0), (.int 0 0), (.ref 48), (.int 12 0), (.int 0 0), (.ref 60), (.int 31 0), (.int 0 0), (.ref 67), (.int 33 0), (.int 0 0), (.ref 74), (.int 36 0), (.int 0 0), (.ref 81), (.int 43 0), (.int 0 0), (.ref 88), (.int 52 0), (.int 0 0), (.ref 95), (.int 60 0), (.int 0 0), (.ref 102), (.int 79 0), (.int 0 0), (.ref 109), (.int 91 0), (.int 0 0), (.ref 114), (.int 93 0), (.int 0 0), (.ref 122), (.int 98 0), (.int 0 0), (.ref 129), (.int 107 0), (.int 0 0), (.ref 136), (.int 111 0), (.int 0 0), (.ref 143), (.int 125 0), (.int 0 0), (.ref 179), (.int 141 0), (.int 0 0), (.ref 187), (.int 144 0), (.int 0 0), (.ref 194), (.int 147 0), (.int 0 0), (.ref 201), (.int 154 0), (.int 0 0), (.ref 208), (.int 171 0), (.int 0 0), (.ref 216), (.int 181 0), (.int 0 0), (.ref 223)])) #[])
noncomputable def o196_5 : Params → Obj := fun P => (Obj.mk (.type "tuple") none (.seq #[] 0) #[])
noncomputable def o197_5 : Params → Obj := fun P => (Obj.mk .none none (.fields #[]) #[])
noncomputable def o198_5 : Params → Obj := fun P => (Obj.mk (.type "tuple") none (.seq (la [(.str z45 475), (.str z62 476), (.str z96 477), (.str z97 478), (.str z25 479)]) 0) #[])
noncomputable def o199_5 : Params → Obj := fun P => (Obj.mk (.type "tuple") none (.seq #[] 0) #[])
noncomputable def o200_5 : Params → Obj := fun P => (Obj.mk .none none (.func (.mk z92 z92 (fA (st 32)) (.stmts (fB (st 32))) (fS (st 32)) 0 [] .none .none .none .none none .none .none 0)) #[])
noncomputable def o201_5 : Params → Obj := fun P => (Obj.mk (.type "code") none (.fields (la [(.str z92 472), (.str z92 473), (.str z1 474), (.int 147 0), (.int 3 0), (.int 0 0), (.int 0 0), (.int 3 0), (.ref 196), (.bool .true), (.int 181 0), (.ref 197), .none, (.ref 198), (.ref 199), (.ref 200), (.int 480 0), (.int 147 0), (.str z1 481)])) #[])
noncomputable def o202_5 : Params → Obj := fun P => (Obj.mk (.type "function") none (.func (.mk z92 z92 (fA (st 32)) (.stmts (fB (st 32))) (fS (st 32)) 3 [] .none .none .none (.str z98 470) none (.ref 201) .none 0)) #[])
noncomputable def o203_5 : Params → Obj := fun P => (Obj.mk (.type "tuple") none (.seq #[] 0) #[])
noncomputable def o204_5 : Params → Obj := fun P => (Obj.mk .none none (.fields #[]) #[])
noncomputable def o205_5 : Params → Obj := fun P => (Obj.mk (.type "tuple") none (.seq (la [(.str z45 486), (.str z62 487), (.str z99 488), (.str z96 489), (.str z97 490), (.str z25 491), (.str z65 492), (.str z61 493), (.str z100 494)]) 0) #[])
noncomputable def o206_5 : Params → Obj := fun P => (Obj.mk (.type "tuple") none (.seq #[] 0) #[])
noncomputable def o207_5 : Params → Obj := fun P => (Obj.mk .none none (.func (.mk z93 z93 (fA (st 33)) (.stmts (fB (st 33))) (fS (st 33)) 0 [] .none .none .none .none none .none .none 0)) #[])
noncomputable def o208_5 : Params → Obj := fun P => (Obj.mk (.type "code") none (.fields (la [(.str z93 483), (.str z93 484), (.str z1 485), (.int 154 0), (.int 4 0), (.int 0 0), (.int 0 0), (.int 3 0), (.ref 203), (.bool .true), (.int 181 0), (.ref 204), .none, (.ref 205), (.ref 206), (.ref 207), (.int 495 0), (.int 154 0), (.str z1 496)])) #[])
noncomputable def o209_5 : Params → Obj := fun P => (Obj.mk (.type "function") none (.func (.mk z93 z93 (fA (st 33)) (.stmts (fB (st 33))) (fS (st 33)) 3 [] .none .none .none (.str z98 470) none (.ref 208) .none 0)) #[])
noncomputable def o210_5 : Params → Obj := fun P => (Obj.mk (.type "tuple") none (.seq (la [(.bool .true)]) 0) #[])
noncomputable def o211_5 : Params → Obj := fun P => (Obj.mk (.type "tuple") none (.seq #[] 0) #[])
noncomputable def o212_5 : Params → Obj := fun P => (Obj.mk .none none (.fields #[]) #[])
noncomputable def o213_5 : Params → Obj := fun P => (Obj.mk (.type "tuple") none (.seq (la [(.str z70 501), (.str z62 502), (.str z99 503), (.str z96 504), (.str z65 505), (.str z101 506), (.str z45 507), (.str z25 508)]) 0) #[])
noncomputable def o214_5 : Params → Obj := fun P => (Obj.mk (.type "tuple") none (.seq #[] 0) #[])
noncomputable def o215_5 : Params → Obj := fun P => (Obj.mk .none none (.func (.mk z94 z94 (fA (st 34)) (.stmts (fB (st 34))) (fS (st 34)) 0 [] .none .none .none .none none .none .none 0)) #[])
noncomputable def o216_5 : Params → Obj := fun P => (Obj.mk (.type "code") none (.fields (la [(.str z94 498), (.str z94 499), (.str z1 500), (.int 171 0), (.int 4 0), (.int 0 0), (.int 0 0), (.int 3 0), (.ref 211), (.bool .true), (.int 181 0), (.ref 212), .none, (.ref 213), (.ref 214), (.ref 215), (.int 509 0), (.int 171 0), (.str z1 510)])) #[])
noncomputable def o217_5 : Params → Obj := fun P => (Obj.mk (.type "function") none (.func (.mk z94 z94 (fA (st 34)) (.stmts (fB (st 34))) (fS (st 34)) 3 [] (.ref 210) .none .none (.str z98 470) none (.ref 216) .none 0)) #[])
noncomputable def o218_5 : Params → Obj := fun P => (Obj.mk (.type "tuple") none (.seq #[] 0) #[])
noncomputable def o219_5 : Params → Obj := fun P => (Obj.mk .none none (.fields #[]) #[])
noncomputable def o220_5 : Params → Obj := fun P => (Obj.mk (.type "tuple") none (.seq (la [(.str z60 517), (.str z61 518)]) 0) #[])
noncomputable def o221_5 : Params → Obj := fun P => (Obj.mk (.type "tuple") none (.seq #[] 0) #[])
noncomputable def o222_5 : Params → Obj := fun P => (Obj.mk .none none (.func (.mk z95 z95 (fA (st 36)) (.stmts (fB (st 36))) (fS (st 36)) 0 [] .none .none .none .none none .none .none 0)) #[])
noncomputable def o223_5 : Params → Obj := fun P => (Obj.mk (.type "code") none (.fields (la [(.str z95 514), (.str z95 515), (.str z1 516), (.int 181 0), (.int 2 0), (.int 0 0), (.int 0 0), (.int 3 0), (.ref 218), (.bool .true), (.int 181 0), (.ref 219), .none, (.ref 220), (.ref 221), (.ref 222), (.int 519 0), (.int 181 0), (.str z1 520)])) #[])
noncomputable def o224_5 : Params → Obj := fun P => (Obj.mk (.type "function") none (.func (.mk z95 z95 (fA (st 36)) (.stmts (fB (st 36))) (fS (st 36)) 3 [] .none .none .none (.str z91 512) none (.ref 223) .none 0)) #[])
noncomputable def t5 : Params → BT := fun P => (.node (boot_o_0 P) (.node (boot_o_1 P) (.node (o3_5 P) (.node (boot_o_7 P) (.node (o15_1 P) (.node (o31_1 P) (.node (o63_2 P) (.node (o127_3 P) .nil .nil) (.node (o191_4 P) .nil .nil)) (.node (o95_3 P) (.node (o159_4 P) .nil .nil) (.node (o223_5 P) .nil .nil))) (.node (o47_2 P) (.node (o79_3 P) (.node (o143_4 P) .nil .nil) (.node (o207_5 P) .nil .nil)) (.node (o111_3 P) (.node (o175_4 P) .nil .nil) .nil))) (.node (o23_1 P) (.node (o39_2 P) (.node (o71_3 P) (.node (o135_3 P) .nil .nil) (.node (o199_5 P) .nil .nil)) (.node (o103_3 P) (.node (o167_4 P) .nil .nil) .nil)) (.node (o55_2 P) (.node (o87_3 P) (.node (o151_4 P) .nil .nil) (.node (o215_5 P) .nil .nil)) (.node (o119_3 P) (.node (o183_4 P) .nil .nil) .nil)))) (.node (o11_0 P) (.node (o19_1 P) (.node (o35_1 P) (.node (o67_2 P) (.node (o131_3 P) .nil .nil) (.node (o195_4 P) .nil .nil)) (.node (o99_3 P) (.node (o163_4 P) .nil .nil) .nil)) (.node (o51_2 P) (.node (o83_3 P) (.node (o147_4 P) .nil .nil) (.node (o211_5 P) .nil .nil)) (.node (o115_3 P) (.node (o179_4 P) .nil .nil) .nil))) (.node (o27_1 P) (.node (o43_2 P) (.node (o75_3 P) (.node (o139_4 P) .nil .nil) (.node (o203_5 P) .nil .nil)) (.node (o107_3 P) (.node (o171_4 P) .nil .nil) .nil)) (.node (o59_2 P) (.node (o91_3 P) (.node (o155_4 P) .nil .nil) (.node (o219_5 P) .nil .nil)) (.node (o123_3 P) (.node (o187_4 P) .nil .nil) .nil))))) (.node (boot_o_5 P) (.node (boot_o_9 P) (.node (o17_1 P) (.node (o33_1 P) (.node (o65_2 P) (.node (o129_3 P) .nil .nil) (.node (o193_4 P) .nil .nil)) (.node (o97_3 P) (.node (o161_4 P) .nil .nil) .nil)) (.node (o49_2 P) (.node (o81_3 P) (.node (o145_4 P) .nil .nil) (.node (o209_5 P) .nil .nil)) (.node (o113_3 P) (.node (o177_4 P) .nil .nil) .nil))) (.node (o25_1 P) (.node (o41_1 P) (.node (o73_3 P) (.node (o137_3 P) .nil .nil) (.node (o201_5 P) .nil .nil)) (.node (o105_3 P) (.node (o169_4 P) .nil .nil) .nil)) (.node (o57_2 P) (.node (o89_3 P) (.node (o153_4 P) .nil .nil) (.node (o217_5 P) .nil .nil)) (.node (o121_3 P) (.node (o185_4 P) .nil .nil) .nil)))) (.node (o13_0 P) (.node (o21_1 P) (.node (o37_1 P) (.node (o69_3 P) (.node (o133_3 P) .nil .nil) (.node (o197_5 P) .nil .nil)) (.node (o101_3 P) (.node (o165_4 P) .nil .nil) .nil)) (.node (o53_2 P) (.node (o85_3 P) (.node (o149_4 P) .nil .nil) (.node (o213_5 P) .nil .nil)) (.node (o117_3 P) (.node (o181_4 P) .nil .nil) .nil))) (.node (o29_1 P) (.node (o45_2 P) (.node (o77_3 P) (.node (o141_4 P) .nil .nil) (.node (o205_5 P) .nil .nil)) (.node (o109_3 P) (.node (o173_4 P) .nil .nil) .nil)) (.node (o61_2 P) (.node (o93_3 P) (.node (o157_4 P) .nil .nil) (.node (o221_5 P) .nil .nil)) (.node (o125_3 P) (.node (o189_4 P) .nil .nil) .nil)))))) (.node (o2_1 P) (.node (boot_o_4 P) (.node (boot_o_8 P) (.node (o16_1 P) (.node (o32_1 P) (.node (o64_2 P) (.node (o128_3 P) .nil .nil) (.node (o192_4 P) .nil .nil)) (.node (o96_3 P) (.node (o160_4 P) .nil .nil) (.node (o224_5 P) .nil .nil))) (.node (o48_2 P) (.node (o80_3 P) (.node (o144_4 P) .nil .nil) (.node (o208_5 P) .nil .nil)) (.node (o112_3 P) (.node (o176_4 P) .nil .nil) .nil))) (.node (o24_1 P) (.node (o40_1 P) (.node (o72_3 P) (.node (o136_3 P) .nil .nil) (.node (o200_5 P) .nil .nil)) (.node (o104_3 P) (.node (o168_4 P) .nil .nil) .nil)) (.node (o56_2 P) (.node (o88_3 P) (.node (o152_4 P) .nil .nil) (.node (o216_5 P) .nil .nil)) (.node (o120_3 P) (.node (o184_4 P) .nil .nil) .nil)))) (.node (o12_5 P) (.node (o20_1 P) (.node (o36_1 P) (.node (o68_2 P) (.node (o132_3 P) .nil .nil) (.node (o196_5 P) .nil .nil)) (.node (o100_3 P) (.node (o164_4 P) .nil .nil) .nil)) (.node (o52_2 P) (.node (o84_3 P) (.node (o148_4 P) .nil .nil) (.node (o212_5 P) .nil .nil)) (.node (o116_3 P) (.node (o180_4 P) .nil .nil) .nil))) (.node (o28_1 P) (.node (o44_2 P) (.node (o76_3 P) (.node (o140_4 P) .nil .nil) (.node (o204_5 P) .nil .nil)) (.node (o108_3 P) (.node (o172_4 P) .nil .nil) .nil)) (.node (o60_2 P) (.node (o92_3 P) (.node (o156_4 P) .nil .nil) (.node (o220_5 P) .nil .nil)) (.node (o124_3 P) (.node (o188_4 P) .nil .nil) .nil))))) (.node (boot_o_6 P) (.node (boot_o_10 P) (.node (o18_1 P) (.node (o34_1 P) (.node (o66_2 P) (.node (o130_3 P) .nil .nil) (.node (o194_4 P) .nil .nil)) (.node (o98_3 P) (.node (o162_4 P) .nil .nil) .nil)) (.node (o50_2 P) (.node (o82_3 P) (.node (o146_4 P) .nil .nil) (.node (o210_5 P) .nil .nil)) (.node (o114_3 P) (.node (o178_4 P) .nil .nil) .nil))) (.node (o26_1 P) (.node (o42_1 P) (.node (o74_3 P) (.node (o138_4 P) .nil .nil) (.node (o202_5 P) .nil .nil)) (.node (o106_3 P) (.node (o170_4 P) .nil .nil) .nil)) (.node (o58_2 P) (.node (o90_3 P) (.node (o154_4 P) .nil .nil) (.node (o218_5 P) .nil .nil)) (.node (o122_3 P) (.node (o186_4 P) .nil .nil) .nil)))) (.node (o14_0 P) (.node (o22_1 P) (.node (o38_1 P) (.node (o70_3 P) (.node (o134_3 P) .nil .nil) (.node (o198_5 P) .nil .nil)) (.node (o102_3 P) (.node (o166_4 P) .nil .nil) .nil)) (.node (o54_2 P) (.node (o86_3 P) (.node (o150_4 P) .nil .nil) (.node (o214_5 P) .nil .nil)) (.node (o118_3 P) (.node (o182_4 P) .nil .nil) .nil))) (.node (o30_1 P) (.node (o46_2 P) (.node (o78_3 P) (.node (o142_4 P) .nil .nil) (.node (o206_5 P) .nil .nil)) (.node (o110_3 P) (.node (o174_4 P) .nil .nil) .nil)) (.node (o62_2 P) (.node (o94_3 P) (.node (o158_4 P) .nil .nil) (.node (o222_5 P) .nil .nil)) (.node (o126_3 P) (.node (o190_4 P) .nil .nil) .nil)))))))
noncomputable def s5 (w : World) (os : OsState) : SharedT := ⟨t5 w.params, 225, lf, #[], (Drawn.mk 0 0 0 0), 522, os⟩
noncomputable def o3_6 : Params → Obj := fun P => (Obj.mk (.type "dict") none (.dict (la [(.mk (kh P z5) (.str z5 165) (.str z102 602)), (.mk (kh P z7) (.str z7 166) .none), (.mk (kh P z8) (.str z8 167) .none), (.mk (kh P z9) (.str z9 168) (.builtin "__main__.__loader__#opaque")), (.mk (kh P z10) (.str z10 169) .none), (.mk (kh P z11) (.str z11 170) (.ref 6)), (.mk (kh P z12) (.str z12 171) (.ref 4)), (.mk (kh P z13) (.str z13 173) (.str z1 172)), (.mk (kh P z14) (.str z14 174) .none), (.mk (kh P z15) (.str z15 193) (.ref 21)), (.mk (kh P z16) (.str z16 197) (.int 1114111 196)), (.mk (kh P z17) (.str z17 226) (.ref 39)), (.mk (kh P z29) (.str z29 242) (.ref 52)), (.mk (kh P z30) (.str z30 253) (.ref 61)), (.mk (kh P z31) (.str z31 257) (.int 44032 256)), (.mk (kh P z32) (.str z32 259) (.int 4352 258)), (.mk (kh P z33) (.str z33 261) (.int 4449 260)), (.mk (kh P z34) (.str z34 263) (.int 4519 262)), (.mk (kh P z35) (.str z35 265) (.int 19 264)), (.mk (kh P z36) (.str z36 267) (.int 21 266)), (.mk (kh P z37) (.str z37 269) (.int 28 268)), (.mk (kh P z38) (.str z38 272) (.int 11172 271)), (.mk (kh P z39) (.str z39 279) (.ref 68)), (.mk (kh P z47) (.str z47 287) (.ref 75)), (.mk (kh P z48) (.str z48 297) (.ref 82)), (.mk (kh P z49) (.str z49 307) (.ref 89)), (.mk (kh P z50) (.str z50 320) (.ref 96)), (.mk (kh P z51) (.str z51 335) (.ref 103)), (.mk (kh P z52) (.str z52 347) (.ref 110)), (.mk (kh P z53) (.str z53 353) (.ref 115)), (.mk (kh P z54) (.str z54 364) (.ref 123)), (.mk (kh P z55) (.str z55 376) (.ref 130)), (.mk (kh P z56) (.str z56 385) (.ref 137)), (.mk (kh P z75) (.str z75 435) (.ref 168)), (.mk (kh P z76) (.str z76 450) (.ref 180)), (.mk (kh P z77) (.str z77 461) (.ref 188)), (.mk (kh P z78) (.str z78 469) (.ref 195)), (.mk (kh P z92) (.str z92 482) (.ref 202)), (.mk (kh P z93) (.str z93 497) (.ref 209)), (.mk (kh P z94) (.str z94 511) (.ref 217)), (.mk (kh P z95) (.str z95 521) (.ref 224)), (.mk (kh P z103) (.str z103 589) (.ref 267)), (.mk (kh P z104) (.str z104 601) (.ref 278))]) 43) #[])
noncomputable def o12_6 : Params → Obj := fun P => (Obj.mk .none none (.fields (la [(.int 1 0), (.int 0 0), (.ref 20), (.int 6 0), (.int 0 0), (.ref 27), (.int 10 0), (.int 0 0), (.ref 48), (.int 12 0), (.int 0 0), (.ref 60), (.int 31 0), (.int 0 0), (.ref 67), (.int 33 0), (.int 0 0), (.ref 74), (.int 36 0), (.int 0 0), (.ref 81), (.int 43 0), (.int 0 0), (.ref 88), (.int 52 0), (.int 0 0), (.ref 95), (.int 60 0), (.int 0 0), (.ref 102), (.int 79 0), (.int 0 0), (.ref 109), (.int 91 0), (.int 0 0), (.ref 114), (.int 93 0), (.int 0 0), (.ref 122), (.int 98 0), (.int 0 0), (.ref 129), (.int 107 0), (.int 0 0), (.ref 136), (.int 111 0), (.int 0 0), (.ref 143), (.int 125 0), (.int 0 0), (.ref 179), (.int 141 0), (.int 0 0), (.ref 187), (.int 144 0), (.int 0 0), (.ref 194), (.int 147 0), (.int 0 0), (.ref 201), (.int 154 0), (.int 0 0), (.ref 208), (.int 171 0), (.int 0 0), (.ref 216), (.int 181 0), (.int 0 0), (.ref 223), (.int 183 0), (.int 0 0), (.ref 230), (.int 213 0), (.int 0 0), (.ref 277)])) #[])
noncomputable def o225_6 : Params → Obj := fun P => (Obj.mk (.type "tuple") none (.seq #[] 0) #[])
noncomputable def o226_6 : Params → Obj := fun P => (Obj.mk (.type "builtin_function_or_method") none (.fields (la [(.builtin "type.__prepare__"), (.type "type")])) #[])
noncomputable def o227_6 : Params → Obj := fun P => (Obj.mk (.type "dict") none (.dict (la [(.mk (kh P z19) (.str z19 529) (.str z91 512)), (.mk (kh P z20) (.str z20 531) (.str z103 530)), (.mk (kh P z21) (.str z21 533) (.int 183 532)), (.mk (kh P z22) (.str z22 541) (.ref 238)), (.mk (kh P z105) (.str z105 549) (.ref 245)), (.mk (kh P z106) (.str z106 564) (.ref 252)), (.mk (kh P z107) (.str z107 570) (.ref 257)), (.mk (kh P z108) (.str z108 578) (.ref 264)), (.mk (kh P z23) (.str z23 582) (.ref 265))]) 9) #[])
noncomputable def o228_6 : Params → Obj := fun P => (Obj.mk (.type "tuple") none (.seq #[] 0) #[])
noncomputable def o229_6 : Params → Obj := fun P => (Obj.mk .none none (.fields (la [(.int 185 0), (.int 4 0), (.ref 237), (.int 190 0), (.int 4 0), (.ref 244), (.int 193 0), (.int 4 0), (.ref 251), (.int 208 0), (.int 4 0), (.ref 256), (.int 211 0), (.int 4 0), (.ref 263)])) #[])
noncomputable def o230_6 : Params → Obj := fun P => (Obj.mk (.type "code") none (.fields (la [(.str z103 524), (.str z103 525), (.str z1 526), (.int 183 0), (.int 0 0), (.int 0 0), (.int 0 0), (.int 0 0), (.ref 228), (.bool .false), (.int 181 0), (.ref 229), .none, .none, .none, .none, (.int 527 0), (.int 183 0), (.str z1 528)])) #[])
noncomputable def o231_6 : Params → Obj := fun P => (Obj.mk (.type "frame") none .plain (la [(some (.ref 230)), (some (.ref 3)), (some (.ref 227)), none, (some (.str z91 512)), none, (some (.ref 0))]))
noncomputable def o232_6 : Params → Obj := fun P => (Obj.mk (.type "tuple") none (.seq #[] 0) #[])
noncomputable def o233_6 : Params → Obj := fun P => (Obj.mk .none none (.fields #[]) #[])
noncomputable def o234_6 : Params → Obj := fun P => (Obj.mk (.type "tuple") none (.seq (la [(.str z24 537), (.str z109 538)]) 0) #[])
noncomputable def o235_6 : Params → Obj := fun P => (Obj.mk (.type "tuple") none (.seq #[] 0) #[])
noncomputable def o236_6 : Params → Obj := fun P => (Obj.mk .none none (.func (.mk z22 z110 (fA (st2 37 0)) (.stmts (fB (st2 37 0))) (fS (st2 37 0)) 0 [] .none .none .none .none none .none .none 0)) #[])
noncomputable def o237_6 : Params → Obj := fun P => (Obj.mk (.type "code") none (.fields (la [(.str z22 534), (.str z110 535), (.str z1 536), (.int 185 0), (.int 2 0), (.int 0 0), (.int 0 0), (.int 3 0), (.ref 232), (.bool .true), (.int 181 0), (.ref 233), .none, (.ref 234), (.ref 235), (.ref 236), (.int 539 0), (.int 185 0), (.str z1 540)])) #[])
noncomputable def o238_6 : Params → Obj := fun P => (Obj.mk (.type "function") none (.func (.mk z22 z110 (fA (st2 37 0)) (.stmts (fB (st2 37 0))) (fS (st2 37 0)) 3 [] .none .none .none (.str z91 512) none (.ref 237) .none 0)) #[])
noncomputable def o239_6 : Params → Obj := fun P => (Obj.mk (.type "tuple") none (.seq #[] 0) #[])
noncomputable def o240_6 : Params → Obj := fun P => (Obj.mk .none none (.fields #[]) #[])
noncomputable def o241_6 : Params → Obj := fun P => (Obj.mk (.type "tuple") none (.seq (la [(.str z24 545), (.str z45 546)]) 0) #[])
noncomputable def o242_6 : Params → Obj := fun P => (Obj.mk (.type "tuple") none (.seq #[] 0) #[])
noncomputable def o243_6 : Params → Obj := fun P => (Obj.mk .none none (.func (.mk z105 z111 (fA (st2 37 1)) (.stmts (fB (st2 37 1))) (fS (st2 37 1)) 0 [] .none .none .none .none none .none .none 0)) #[])
noncomputable def o244_6 : Params → Obj := fun P => (Obj.mk (.type "code") none (.fields (la [(.str z105 542), (.str z111 543), (.str z1 544), (.int 190 0), (.int 2 0), (.int 0 0), (.int 0 0), (.int 3 0), (.ref 239), (.bool .true), (.int 181 0), (.ref 240), .none, (.ref 241), (.ref 242), (.ref 243), (.int 547 0), (.int 190 0), (.str z1 548)])) #[])
noncomputable def o245_6 : Params → Obj := fun P => (Obj.mk (.type "function") none (.func (.mk z105 z111 (fA (st2 37 1)) (.stmts (fB (st2 37 1))) (fS (st2 37 1)) 3 [] .none .none .none (.str z91 512) none (.ref 244) .none 0)) #[])
noncomputable def o246_6 : Params → Obj := fun P => (Obj.mk (.type "tuple") none (.seq #[] 0) #[])
noncomputable def o247_6 : Params → Obj := fun P => (Obj.mk .none none (.fields #[]) #[])
noncomputable def o248_6 : Params → Obj := fun P => (Obj.mk (.type "tuple") none (.seq (la [(.str z24 553), (.str z73 554), (.str z74 555), (.str z112 556), (.str z42 557), (.str z43 558), (.str z113 559), (.str z114 560), (.str z115 561)]) 0) #[])
noncomputable def o249_6 : Params → Obj := fun P => (Obj.mk (.type "tuple") none (.seq #[] 0) #[])
noncomputable def o250_6 : Params → Obj := fun P => (Obj.mk .none none (.func (.mk z106 z116 (fA (st2 37 2)) (.stmts (fB (st2 37 2))) (fS (st2 37 2)) 0 [] .none .none .none .none none .none .none 0)) #[])
noncomputable def o251_6 : Params → Obj := fun P => (Obj.mk (.type "code") none (.fields (la [(.str z106 550), (.str z116 551), (.str z1 552), (.int 193 0), (.int 4 0), (.int 0 0), (.int 0 0), (.int 3 0), (.ref 246), (.bool .true), (.int 181 0), (.ref 247), .none, (.ref 248), (.ref 249), (.ref 250), (.int 562 0), (.int 193 0), (.str z1 563)])) #[])
noncomputable def o252_6 : Params → Obj := fun P => (Obj.mk (.type "function") none (.func (.mk z106 z116 (fA (st2 37 2)) (.stmts (fB (st2 37 2))) (fS (st2 37 2)) 3 [] .none .none .none (.str z91 512) none (.ref 251) .none 0)) #[])
noncomputable def o253_6 : Params → Obj := fun P => (Obj.mk (.type "tuple") none (.seq #[] 0) #[])
noncomputable def o254_6 : Params → Obj := fun P => (Obj.mk .none none (.fields #[]) #[])
noncomputable def o255_6 : Params → Obj := fun P => (Obj.mk .none none (.func (.mk z107 z117 (fA (st2 37 3)) (.stmts (fB (st2 37 3))) (fS (st2 37 3)) 0 [] .none .none .none .none none .none .none 0)) #[])
noncomputable def o256_6 : Params → Obj := fun P => (Obj.mk (.type "code") none (.fields (la [(.str z107 565), (.str z117 566), (.str z1 567), (.int 208 0), (.int 1 0), (.int 0 0), (.int 0 0), (.int 3 0), (.ref 253), (.bool .true), (.int 181 0), (.ref 254), .none, .none, .none, (.ref 255), (.int 568 0), (.int 208 0), (.str z1 569)])) #[])
noncomputable def o257_6 : Params → Obj := fun P => (Obj.mk (.type "function") none (.func (.mk z107 z117 (fA (st2 37 3)) (.stmts (fB (st2 37 3))) (fS (st2 37 3)) 3 [] .none .none .none (.str z91 512) none (.ref 256) .none 0)) #[])
noncomputable def o258_6 : Params → Obj := fun P => (Obj.mk (.type "tuple") none (.seq #[] 0) #[])
noncomputable def o259_6 : Params → Obj := fun P => (Obj.mk .none none (.fields #[]) #[])
noncomputable def o260_6 : Params → Obj := fun P => (Obj.mk (.type "tuple") none (.seq (la [(.str z24 574), (.str z112 575)]) 0) #[])
noncomputable def o261_6 : Params → Obj := fun P => (Obj.mk (.type "tuple") none (.seq #[] 0) #[])
noncomputable def o262_6 : Params → Obj := fun P => (Obj.mk .none none (.func (.mk z108 z118 (fA (st2 37 4)) (.stmts (fB (st2 37 4))) (fS (st2 37 4)) 0 [] .none .none .none .none none .none .none 0)) #[])
noncomputable def o263_6 : Params → Obj := fun P => (Obj.mk (.type "code") none (.fields (la [(.str z108 571), (.str z118 572), (.str z1 573), (.int 211 0), (.int 2 0), (.int 0 0), (.int 0 0), (.int 3 0), (.ref 258), (.bool .true), (.int 181 0), (.ref 259), .none, (.ref 260), (.ref 261), (.ref 262), (.int 576 0), (.int 211 0), (.str z1 577)])) #[])
noncomputable def o264_6 : Params → Obj := fun P => (Obj.mk (.type "function") none (.func (.mk z108 z118 (fA (st2 37 4)) (.stmts (fB (st2 37 4))) (fS (st2 37 4)) 3 [] .none .none .none (.str z91 512) none (.ref 263) .none 0)) #[])
noncomputable def o265_6 : Params → Obj := fun P => (Obj.mk (.type "tuple") none (.seq (la [(.str z109 579), (.str z114 580), (.str z115 581)]) 0) #[])
noncomputable def o266_6 : Params → Obj := fun P => (Obj.mk (.type "dict") none (.dict (la [(.mk (kh P z19) (.str z19 529) (.str z91 512)), (.mk (kh P z21) (.str z21 533) (.int 183 532)), (.mk (kh P z22) (.str z22 541) (.ref 238)), (.mk (kh P z105) (.str z105 549) (.ref 245)), (.mk (kh P z106) (.str z106 564) (.ref 252)), (.mk (kh P z107) (.str z107 570) (.ref 257)), (.mk (kh P z108) (.str z108 578) (.ref 264)), (.mk (kh P z23) (.str z23 582) (.ref 265)), (.mk (kh P z86) (.str z86 584) (.ref 268)), (.mk (kh P z27) (.str z27 586) (.ref 269)), (.mk (kh P z7) (.str z7 587) .none)]) 4) #[])
noncomputable def o267_6 : Params → Obj := fun P => (Obj.mk (.type "type") none (.cls (.mk z103 [(.type "object")] [(.ref 267), (.type "object")] 266 z103 .true [] [] .false (@Option.none @Bool) .false)) (la [none, none, (some (.str z103 522)), (some (.str z103 530)), (some (.builtin "object.__new__")), (some (.bool .true))]))
noncomputable def o268_6 : Params → Obj := fun P => (Obj.mk (.type "getset_descriptor") none (.fields (la [(.str z86 583), (.ref 267), (.builtin "function.__dict__"), (.builtin "function.__dict__#set")])) #[])
noncomputable def o269_6 : Params → Obj := fun P => (Obj.mk (.type "getset_descriptor") none (.fields (la [(.str z27 585), (.ref 267), (.builtin "ExceptionGroup.__weakref__"), .none])) #[])
noncomputable def o270_6 : Params → Obj := fun P => (Obj.mk (.type "super") none (.fields (la [(.ref 267), (.ref 267), (.ref 267)])) #[])
noncomputable def o271_6 : Params → Obj := fun P => (Obj.mk (.type "builtin_function_or_method") none (.fields (la [(.builtin "object.__init_subclass__"), (.ref 267)])) #[])
noncomputable def o272_6 : Params → Obj := fun P => (Obj.mk (.type "tuple") none (.seq #[] 0) #[])
noncomputable def o273_6 : Params → Obj := fun P => (Obj.mk .none none (.fields #[]) #[])
noncomputable def o274_6 : Params → Obj := fun P => (Obj.mk (.type "tuple") none (.seq (la [(.str z119 593), (.str z114 594), (.str z65 595), (.str z120 596), (.str z112 597), (.str z74 598)]) 0) #[])
noncomputable def o275_6 : Params → Obj := fun P => (Obj.mk (.type "tuple") none (.seq #[] 0) #[])
noncomputable def o276_6 : Params → Obj := fun P => (Obj.mk .none none (.func (.mk z104 z104 (fA (st 38)) (.stmts (fB (st 38))) (fS (st 38)) 0 [] .none .none .none .none none .none .none 0)) #[])
noncomputable def o277_6 : Params → Obj := fun P => (Obj.mk (.type "code") none (.fields (la [(.str z104 590), (.str z104 591), (.str z1 592), (.int 213 0), (.int 1 0), (.int 0 0), (.int 0 0), (.int 3 0), (.ref 272), (.bool .true), (.int 181 0), (.ref 273), .none, (.ref 274), (.ref 275), (.ref 276), (.int 599 0), (.int 213 0), (.str z1 600)])) #[])
noncomputable def o278_6 : Params → Obj := fun P => (Obj.mk (.type "function") none (.func (.mk z104 z104 (fA (st 38)) (.stmts (fB (st 38))) (fS (st 38)) 3 [] .none .none .none (.str z91 512) none (.ref 277) .none 0)) #[])
noncomputable def t6 : Params → BT := fun P => (.node (boot_o_0 P) (.node (boot_o_1 P) (.node (o3_6 P) (.node (boot_o_7 P) (.node (o15_1 P) (.node (o31_1 P) (.node (o63_2 P) (.node (o127_3 P) (.node (o255_6 P) .nil .nil) .nil) (.node (o191_4 P) .nil .nil)) (.node (o95_3 P) (.node (o159_4 P) .nil .nil) (.node (o223_5 P) .nil .nil))) (.node (o47_2 P) (.node (o79_3 P) (.node (o143_4 P) (.node (o271_6 P) .nil .nil) .nil) (.node (o207_5 P) .nil .nil)) (.node (o111_3 P) (.node (o175_4 P) .nil .nil) (.node (o239_6 P) .nil .nil)))) (.node (o23_1 P) (.node (o39_2 P) (.node (o71_3 P) (.node (o135_3 P) (.node (o263_6 P) .nil .nil) .nil) (.node (o199_5 P) .nil .nil)) (.node (o103_3 P) (.node (o167_4 P) .nil .nil) (.node (o231_6 P) .nil .nil))) (.node (o55_2 P) (.node (o87_3 P) (.node (o151_4 P) .nil .nil) (.node (o215_5 P) .nil .nil)) (.node (o119_3 P) (.node (o183_4 P) .nil .nil) (.node (o247_6 P) .nil .nil))))) (.node (o11_0 P) (.node (o19_1 P) (.node (o35_1 P) (.node (o67_2 P) (.node (o131_3 P) (.node (o259_6 P) .nil .nil) .nil) (.node (o195_4 P) .nil .nil)) (.node (o99_3 P) (.node (o163_4 P) .nil .nil) (.node (o227_6 P) .nil .nil))) (.node (o51_2 P) (.node (o83_3 P) (.node (o147_4 P) (.node (o275_6 P) .nil .nil) .nil) (.node (o211_5 P) .nil .nil)) (.node (o115_3 P) (.node (o179_4 P) .nil .nil) (.node (o243_6 P) .nil .nil)))) (.node (o27_1 P) (.node (o43_2 P) (.node (o75_3 P) (.node (o139_4 P) (.node (o267_6 P) .nil .nil) .nil) (.node (o203_5 P) .nil .nil)) (.node (o107_3 P) (.node (o171_4 P) .nil .nil) (.node (o235_6 P) .nil .nil))) (.node (o59_2 P) (.node (o91_3 P) (.node (o155_4 P) .nil .nil) (.node (o219_5 P) .nil .nil)) (.node (o123_3 P) (.node (o187_4 P) .nil .nil) (.node (o251_6 P) .nil .nil)))))) (.node (boot_o_5 P) (.node (boot_o_9 P) (.node (o17_1 P) (.node (o33_1 P) (.node (o65_2 P) (.node (o129_3 P) (.node (o257_6 P) .nil .nil) .nil) (.node (o193_4 P) .nil .nil)) (.node (o97_3 P) (.node (o161_4 P) .nil .nil) (.node (o225_6 P) .nil .nil))) (.node (o49_2 P) (.node (o81_3 P) (.node (o145_4 P) (.node (o273_6 P) .nil .nil) .nil) (.node (o209_5 P) .nil .nil)) (.node (o113_3 P) (.node (o177_4 P) .nil .nil) (.node (o241_6 P) .nil .nil)))) (.node (o25_1 P) (.node (o41_1 P) (.node (o73_3 P) (.node (o137_3 P) (.node (o265_6 P) .nil .nil) .nil) (.node (o201_5 P) .nil .nil)) (.node (o105_3 P) (.node (o169_4 P) .nil .nil) (.node (o233_6 P) .nil .nil))) (.node (o57_2 P) (.node (o89_3 P) (.node (o153_4 P) .nil .nil) (.node (o217_5 P) .nil .nil)) (.node (o121_3 P) (.node (o185_4 P) .nil .nil) (.node (o249_6 P) .nil .nil))))) (.node (o13_0 P) (.node (o21_1 P) (.node (o37_1 P) (.node (o69_3 P) (.node (o133_3 P) (.node (o261_6 P) .nil .nil) .nil) (.node (o197_5 P) .nil .nil)) (.node (o101_3 P) (.node (o165_4 P) .nil .nil) (.node (o229_6 P) .nil .nil))) (.node (o53_2 P) (.node (o85_3 P) (.node (o149_4 P) (.node (o277_6 P) .nil .nil) .nil) (.node (o213_5 P) .nil .nil)) (.node (o117_3 P) (.node (o181_4 P) .nil .nil) (.node (o245_6 P) .nil .nil)))) (.node (o29_1 P) (.node (o45_2 P) (.node (o77_3 P) (.node (o141_4 P) (.node (o269_6 P) .nil .nil) .nil) (.node (o205_5 P) .nil .nil)) (.node (o109_3 P) (.node (o173_4 P) .nil .nil) (.node (o237_6 P) .nil .nil))) (.node (o61_2 P) (.node (o93_3 P) (.node (o157_4 P) .nil .nil) (.node (o221_5 P) .nil .nil)) (.node (o125_3 P) (.node (o189_4 P) .nil .nil) (.node (o253_6 P) .nil .nil))))))) (.node (o2_1 P) (.node (boot_o_4 P) (.node (boot_o_8 P) (.node (o16_1 P) (.node (o32_1 P) (.node (o64_2 P) (.node (o128_3 P) (.node (o256_6 P) .nil .nil) .nil) (.node (o192_4 P) .nil .nil)) (.node (o96_3 P) (.node (o160_4 P) .nil .nil) (.node (o224_5 P) .nil .nil))) (.node (o48_2 P) (.node (o80_3 P) (.node (o144_4 P) (.node (o272_6 P) .nil .nil) .nil) (.node (o208_5 P) .nil .nil)) (.node (o112_3 P) (.node (o176_4 P) .nil .nil) (.node (o240_6 P) .nil .nil)))) (.node (o24_1 P) (.node (o40_1 P) (.node (o72_3 P) (.node (o136_3 P) (.node (o264_6 P) .nil .nil) .nil) (.node (o200_5 P) .nil .nil)) (.node (o104_3 P) (.node (o168_4 P) .nil .nil) (.node (o232_6 P) .nil .nil))) (.node (o56_2 P) (.node (o88_3 P) (.node (o152_4 P) .nil .nil) (.node (o216_5 P) .nil .nil)) (.node (o120_3 P) (.node (o184_4 P) .nil .nil) (.node (o248_6 P) .nil .nil))))) (.node (o12_6 P) (.node (o20_1 P) (.node (o36_1 P) (.node (o68_2 P) (.node (o132_3 P) (.node (o260_6 P) .nil .nil) .nil) (.node (o196_5 P) .nil .nil)) (.node (o100_3 P) (.node (o164_4 P) .nil .nil) (.node (o228_6 P) .nil .nil))) (.node (o52_2 P) (.node (o84_3 P) (.node (o148_4 P) (.node (o276_6 P) .nil .nil) .nil) (.node (o212_5 P) .nil .nil)) (.node (o116_3 P) (.node (o180_4 P) .nil .nil) (.node (o244_6 P) .nil .nil)))) (.node (o28_1 P) (.node (o44_2 P) (.node (o76_3 P) (.node (o140_4 P) (.node (o268_6 P) .nil .nil) .nil) (.node (o204_5 P) .nil .nil)) (.node (o108_3 P) (.node (o172_4 P) .nil .nil) (.node (o236_6 P) .nil .nil))) (.node (o60_2 P) (.node (o92_3 P) (.node (o156_4 P) .nil .nil) (.node (o220_5 P) .nil .nil)) (.node (o124_3 P) (.node (o188_4 P) .nil .nil) (.node (o252_6 P) .nil .nil)))))) (.node (boot_o_6 P) (.node (boot_o_10 P) (.node (o18_1 P) (.node (o34_1 P) (.node (o66_2 P) (.node (o130_3 P) (.node (o258_6 P) .nil .nil) .nil) (.node (o194_4 P) .nil .nil)) (.node (o98_3 P) (.node (o162_4 P) .nil .nil) (.node (o226_6 P) .nil .nil))) (.node (o50_2 P) (.node (o82_3 P) (.node (o146_4 P) (.node (o274_6 P) .nil .nil) .nil) (.node (o210_5 P) .nil .nil)) (.node (o114_3 P) (.node (o178_4 P) .nil .nil) (.node (o242_6 P) .nil .nil)))) (.node (o26_1 P) (.node (o42_1 P) (.node (o74_3 P) (.node (o138_4 P) (.node (o266_6 P) .nil .nil) .nil) (.node (o202_5 P) .nil .nil)) (.node (o106_3 P) (.node (o170_4 P) .nil .nil) (.node (o234_6 P) .nil .nil))) (.node (o58_2 P) (.node (o90_3 P) (.node (o154_4 P) .nil .nil) (.node (o218_5 P) .nil .nil)) (.node (o122_3 P) (.node (o186_4 P) .nil .nil) (.node (o250_6 P) .nil .nil))))) (.node (o14_0 P) (.node (o22_1 P) (.node (o38_1 P) (.node (o70_3 P) (.node (o134_3 P) (.node (o262_6 P) .nil .nil) .nil) (.node (o198_5 P) .nil .nil)) (.node (o102_3 P) (.node (o166_4 P) .nil .nil) (.node (o230_6 P) .nil .nil))) (.node (o54_2 P) (.node (o86_3 P) (.node (o150_4 P) (.node (o278_6 P) .nil .nil) .nil) (.node (o214_5 P) .nil .nil)) (.node (o118_3 P) (.node (o182_4 P) .nil .nil) (.node (o246_6 P) .nil .nil)))) (.node (o30_1 P) (.node (o46_2 P) (.node (o78_3 P) (.node (o142_4 P) (.node (o270_6 P) .nil .nil) .nil) (.node (o206_5 P) .nil .nil)) (.node (o110_3 P) (.node (o174_4 P) .nil .nil) (.node (o238_6 P) .nil .nil))) (.node (o62_2 P) (.node (o94_3 P) (.node (o158_4 P) .nil .nil) (.node (o222_5 P) .nil .nil)) (.node (o126_3 P) (.node (o190_4 P) .nil .nil) (.node (o254_6 P) .nil .nil))))))))
noncomputable def s6 (w : World) (os : OsState) : SharedT := ⟨t6 w.params, 279, lf, #[], (Drawn.mk 0 0 0 0), 604, os⟩
noncomputable def o3_7 : Params → Obj := fun P => (Obj.mk (.type "dict") none (.dict (la [(.mk (kh P z5) (.str z5 165) (.str z121 671)), (.mk (kh P z7) (.str z7 166) .none), (.mk (kh P z8) (.str z8 167) .none), (.mk (kh P z9) (.str z9 168) (.builtin "__main__.__loader__#opaque")), (.mk (kh P z10) (.str z10 169) .none), (.mk (kh P z11) (.str z11 170) (.ref 6)), (.mk (kh P z12) (.str z12 171) (.ref 4)), (.mk (kh P z13) (.str z13 173) (.str z1 172)), (.mk (kh P z14) (.str z14 174) .none), (.mk (kh P z15) (.str z15 193) (.ref 21)), (.mk (kh P z16) (.str z16 197) (.int 1114111 196)), (.mk (kh P z17) (.str z17 226) (.ref 39)), (.mk (kh P z29) (.str z29 242) (.ref 52)), (.mk (kh P z30) (.str z30 253) (.ref 61)), (.mk (kh P z31) (.str z31 257) (.int 44032 256)), (.mk (kh P z32) (.str z32 259) (.int 4352 258)), (.mk (kh P z33) (.str z33 261) (.int 4449 260)), (.mk (kh P z34) (.str z34 263) (.int 4519 262)), (.mk (kh P z35) (.str z35 265) (.int 19 264)), (.mk (kh P z36) (.str z36 267) (.int 21 266)), (.mk (kh P z37) (.str z37 269) (.int 28 268)), (.mk (kh P z38) (.str z38 272) (.int 11172 271)), (.mk (kh P z39) (.str z39 279) (.ref 68)), (.mk (kh P z47) (.str z47 287) (.ref 75)), (.mk (kh P z48) (.str z48 297) (.ref 82)), (.mk (kh P z49) (.str z49 307) (.ref 89)), (.mk (kh P z50) (.str z50 320) (.ref 96)), (.mk (kh P z51) (.str z51 335) (.ref 103)), (.mk (kh P z52) (.str z52 347) (.ref 110)), (.mk (kh P z53) (.str z53 353) (.ref 115)), (.mk (kh P z54) (.str z54 364) (.ref 123)), (.mk (kh P z55) (.str z55 376) (.ref 130)), (.mk (kh P z56) (.str z56 385) (.ref 137)), (.mk (kh P z75) (.str z75 435) (.ref 168)), (.mk (kh P z76) (.str z76 450) (.ref 180)), (.mk (kh P z77) (.str z77 461) (.ref 188)), (.mk (kh P z78) (.str z78 469) (.ref 195)), (.mk (kh P z92) (.str z92 482) (.ref 202)), (.mk (kh P z93) (.str z93 497) (.ref 209)), (.mk (kh P z94) (.str z94 511) (.ref 217)), (.mk (kh P z95) (.str z95 521) (.ref 224)), (.mk (kh P z103) (.str z103 589) (.ref 267)), (.mk (kh P z104) (.str z104 601) (.ref 278)), (.mk (kh P z122) (.str z122 611) (.ref 285)), (.mk (kh P z123) (.str z123 670) (.ref 323)), (.mk (kh P z124) (.str z124 678) (.ref 334))]) 46) #[])
noncomputable def o12_7 : Params → Obj := fun P => (Obj.mk .none none (.fields (la [(.int 1 0), (.int 0 0), (.ref 20), (.int 6 0), (.int 0 0), (.ref 27), (.int 10 0), (.int 0 0), (.ref 48), (.int 12 0), (.int 0 0), (.ref 60), (.int 31 0), (.int 0 0), (.ref 67), (.int 33 0), (.int 0 0), (.ref 74), (.int 36 0), (.int 0 0), (.ref 81), (.int 43 0), (.int 0 0), (.ref 88), (.int 52 0), (.int 0 0), (.ref 95), (.int 60 0), (.int 0 0), (.ref 102), (.int 79 0), (.int 0 0), (.ref 109), (.int 91 0), (.int 0 0), (.ref 114), (.int 93 0), (.int 0 0), (.ref 122), (.int 98 0), (.int 0 0), (.ref 129), (.int 107 0), (.int 0 0), (.ref 136), (.int 111 0), (.int 0 0), (.ref 143), (.int 125 0), (.int 0 0), (.ref 179), (.int 141 0), (.int 0 0), (.ref 187), (.int 144 0), (.int 0 0), (.ref 194), (.int 147 0), (.int 0 0), (.ref 201), (.int 154 0), (.int 0 0), (.ref 208), (.int 171 0), (.int 0 0), (.ref 216), (.int 181 0), (.int 0 0), (.ref 223), (.int 183 0), (.int 0 0), (.ref 230), (.int 213 0), (.int 0 0), (.ref 277), (.int 220 0), (.int 0 0), (.ref 284), (.int 232 0), (.int 0 0), (.ref 291), (.int 253 0), (.int 0 0), (.ref 333)])) #[])
noncomputable def o279_7 : Params → Obj := fun P => (Obj.mk (.type "tuple") none (.seq #[] 0) #[])
noncomputable def o280_7 : Params → Obj := fun P => (Obj.mk .none none (.fields #[]) #[])
noncomputable def o281_7 : Params → Obj := fun P => (Obj.mk (.type "tuple") none (.seq (la [(.str z65 607), (.str z125 608)]) 0) #[])
noncomputable def o282_7 : Params → Obj := fun P => (Obj.mk (.type "tuple") none (.seq #[] 0) #[])
noncomputable def o283_7 : Params → Obj := fun P => (Obj.mk .none none (.func (.mk z122 z122 (fA (st 40)) (.stmts (fB (st 40))) (fS (st 40)) 0 [] .none .none .none .none none .none .none 0)) #[])
noncomputable def o284_7 : Params → Obj := fun P => (Obj.mk (.type "code") none (.fields (la [(.str z122 604), (.str z122 605), (.str z1 606), (.int 220 0), (.int 0 0), (.int 0 0), (.int 0 0), (.int 3 0), (.ref 279), (.bool .true), (.int 181 0), (.ref 280), .none, (.ref 281), (.ref 282), (.ref 283), (.int 609 0), (.int 220 0), (.str z1 610)])) #[])
noncomputable def o285_7 : Params → Obj := fun P => (Obj.mk (.type "function") none (.func (.mk z122 z122 (fA (st 40)) (.stmts (fB (st 40))) (fS (st 40)) 3 [] .none .none .none (.str z102 602) none (.ref 284) .none 0)) #[])
noncomputable def o286_7 : Params → Obj := fun P => (Obj.mk (.type "tuple") none (.seq #[] 0) #[])
noncomputable def o287_7 : Params → Obj := fun P => (Obj.mk (.type "builtin_function_or_method") none (.fields (la [(.builtin "type.__prepare__"), (.type "type")])) #[])
noncomputable def o288_7 : Params → Obj := fun P => (Obj.mk (.type "dict") none (.dict (la [(.mk (kh P z19) (.str z19 619) (.str z102 602)), (.mk (kh P z20) (.str z20 621) (.str z123 620)), (.mk (kh P z21) (.str z21 623) (.int 232 622)), (.mk (kh P z22) (.str z22 630) (.ref 299)), (.mk (kh P z106) (.str z106 641) (.ref 306)), (.mk (kh P z105) (.str z105 650) (.ref 313)), (.mk (kh P z126) (.str z126 658) (.ref 320)), (.mk (kh P z23) (.str z23 663) (.ref 321))]) 8) #[])
noncomputable def o289_7 : Params → Obj := fun P => (Obj.mk (.type "tuple") none (.seq #[] 0) #[])
noncomputable def o290_7 : Params → Obj := fun P => (Obj.mk .none none (.fields (la [(.int 234 0), (.int 4 0), (.ref 298), (.int 240 0), (.int 4 0), (.ref 305), (.int 243 0), (.int 4 0), (.ref 312), (.int 248 0), (.int 4 0), (.ref 319)])) #[])
noncomputable def o291_7 : Params → Obj := fun P => (Obj.mk (.type "code") none (.fields (la [(.str z123 614), (.str z123 615), (.str z1 616), (.int 232 0), (.int 0 0), (.int 0 0), (.int 0 0), (.int 0 0), (.ref 289), (.bool .false), (.int 181 0), (.ref 290), .none, .none, .none, .none, (.int 617 0), (.int 232 0), (.str z1 618)])) #[])
noncomputable def o292_7 : Params → Obj := fun P => (Obj.mk (.type "frame") none .plain (la [(some (.ref 291)), (some (.ref 3)), (some (.ref 288)), none, (some (.str z102 602)), none, (some (.ref 0))]))
noncomputable def o293_7 : Params → Obj := fun P => (Obj.mk (.type "tuple") none (.seq #[] 0) #[])
noncomputable def o294_7 : Params → Obj := fun P => (Obj.mk .none none (.fields #[]) #[])
noncomputable def o295_7 : Params → Obj := fun P => (Obj.mk (.type "tuple") none (.seq (la [(.str z24 627)]) 0) #[])
noncomputable def o296_7 : Params → Obj := fun P => (Obj.mk (.type "tuple") none (.seq #[] 0) #[])
noncomputable def o297_7 : Params → Obj := fun P => (Obj.mk .none none (.func (.mk z22 z127 (fA (st2 41 0)) (.stmts (fB (st2 41 0))) (fS (st2 41 0)) 0 [] .none .none .none .none none .none .none 0)) #[])
noncomputable def o298_7 : Params → Obj := fun P => (Obj.mk (.type "code") none (.fields (la [(.str z22 624), (.str z127 625), (.str z1 626), (.int 234 0), (.int 1 0), (.int 0 0), (.int 0 0), (.int 3 0), (.ref 293), (.bool .true), (.int 181 0), (.ref 294), .none, (.ref 295), (.ref 296), (.ref 297), (.int 628 0), (.int 234 0), (.str z1 629)])) #[])
noncomputable def o299_7 : Params → Obj := fun P => (Obj.mk (.type "function") none (.func (.mk z22 z127 (fA (st2 41 0)) (.stmts (fB (st2 41 0))) (fS (st2 41 0)) 3 [] .none .none .none (.str z102 602) none (.ref 298) .none 0)) #[])
noncomputable def o300_7 : Params → Obj := fun P => (Obj.mk (.type "tuple") none (.seq #[] 0) #[])
noncomputable def o301_7 : Params → Obj := fun P => (Obj.mk .none none (.fields #[]) #[])
noncomputable def o302_7 : Params → Obj := fun P => (Obj.mk (.type "tuple") none (.seq (la [(.str z24 634), (.str z125 635), (.str z73 636), (.str z74 637), (.str z112 638)]) 0) #[])
noncomputable def o303_7 : Params → Obj := fun P => (Obj.mk (.type "tuple") none (.seq #[] 0) #[])
noncomputable def o304_7 : Params → Obj := fun P => (Obj.mk .none none (.func (.mk z106 z128 (fA (st2 41 1)) (.stmts (fB (st2 41 1))) (fS (st2 41 1)) 0 [] .none .none .none .none none .none .none 0)) #[])
noncomputable def o305_7 : Params → Obj := fun P => (Obj.mk (.type "code") none (.fields (la [(.str z106 631), (.str z128 632), (.str z1 633), (.int 240 0), (.int 5 0), (.int 0 0), (.int 0 0), (.int 3 0), (.ref 300), (.bool .true), (.int 181 0), (.ref 301), .none, (.ref 302), (.ref 303), (.ref 304), (.int 639 0), (.int 240 0), (.str z1 640)])) #[])
noncomputable def o306_7 : Params → Obj := fun P => (Obj.mk (.type "function") none (.func (.mk z106 z128 (fA (st2 41 1)) (.stmts (fB (st2 41 1))) (fS (st2 41 1)) 3 [] .none .none .none (.str z102 602) none (.ref 305) .none 0)) #[])
noncomputable def o307_7 : Params → Obj := fun P => (Obj.mk (.type "tuple") none (.seq #[] 0) #[])
noncomputable def o308_7 : Params → Obj := fun P => (Obj.mk .none none (.fields #[]) #[])
noncomputable def o309_7 : Params → Obj := fun P => (Obj.mk (.type "tuple") none (.seq (la [(.str z24 645), (.str z125 646), (.str z45 647)]) 0) #[])
noncomputable def o310_7 : Params → Obj := fun P => (Obj.mk (.type "tuple") none (.seq #[] 0) #[])
noncomputable def o311_7 : Params → Obj := fun P => (Obj.mk .none none (.func (.mk z105 z129 (fA (st2 41 2)) (.stmts (fB (st2 41 2))) (fS (st2 41 2)) 0 [] .none .none .none .none none .none .none 0)) #[])
noncomputable def o312_7 : Params → Obj := fun P => (Obj.mk (.type "code") none (.fields (la [(.str z105 642), (.str z129 643), (.str z1 644), (.int 243 0), (.int 3 0), (.int 0 0), (.int 0 0), (.int 3 0), (.ref 307), (.bool .true), (.int 181 0), (.ref 308), .none, (.ref 309), (.ref 310), (.ref 311), (.int 648 0), (.int 243 0), (.str z1 649)])) #[])
noncomputable def o313_7 : Params → Obj := fun P => (Obj.mk (.type "function") none (.func (.mk z105 z129 (fA (st2 41 2)) (.stmts (fB (st2 41 2))) (fS (st2 41 2)) 3 [] .none .none .none (.str z102 602) none (.ref 312) .none 0)) #[])
noncomputable def o314_7 : Params → Obj := fun P => (Obj.mk (.type "tuple") none (.seq #[] 0) #[])
noncomputable def o315_7 : Params → Obj := fun P => (Obj.mk .none none (.fields #[]) #[])
noncomputable def o316_7 : Params → Obj := fun P => (Obj.mk (.type "tuple") none (.seq (la [(.str z24 654), (.str z125 655)]) 0) #[])
noncomputable def o317_7 : Params → Obj := fun P => (Obj.mk (.type "tuple") none (.seq #[] 0) #[])
noncomputable def o318_7 : Params → Obj := fun P => (Obj.mk .none none (.func (.mk z126 z130 (fA (st2 41 3)) (.stmts (fB (st2 41 3))) (fS (st2 41 3)) 0 [] .none .none .none .none none .none .none 0)) #[])
noncomputable def o319_7 : Params → Obj := fun P => (Obj.mk (.type "code") none (.fields (la [(.str z126 651), (.str z130 652), (.str z1 653), (.int 248 0), (.int 2 0), (.int 0 0), (.int 0 0), (.int 3 0), (.ref 314), (.bool .true), (.int 181 0), (.ref 315), .none, (.ref 316), (.ref 317), (.ref 318), (.int 656 0), (.int 248 0), (.str z1 657)])) #[])
noncomputable def o320_7 : Params → Obj := fun P => (Obj.mk (.type "function") none (.func (.mk z126 z130 (fA (st2 41 3)) (.stmts (fB (st2 41 3))) (fS (st2 41 3)) 3 [] .none .none .none (.str z102 602) none (.ref 319) .none 0)) #[])
noncomputable def o321_7 : Params → Obj := fun P => (Obj.mk (.type "tuple") none (.seq (la [(.str z131 659), (.str z132 660), (.str z133 661), (.str z101 662)]) 0) #[])
noncomputable def o322_7 : Params → Obj := fun P => (Obj.mk (.type "dict") none (.dict (la [(.mk (kh P z19) (.str z19 619) (.str z102 602)), (.mk (kh P z21) (.str z21 623) (.int 232 622)), (.mk (kh P z22) (.str z22 630) (.ref 299)), (.mk (kh P z106) (.str z106 641) (.ref 306)), (.mk (kh P z105) (.str z105 650) (.ref 313)), (.mk (kh P z126) (.str z126 658) (.ref 320)), (.mk (kh P z23) (.str z23 663) (.ref 321)), (.mk (kh P z86) (.str z86 665) (.ref 324)), (.mk (kh P z27) (.str z27 667) (.ref 325)), (.mk (kh P z7) (.str z7 668) .none)]) 4) #[])
noncomputable def o323_7 : Params → Obj := fun P => (Obj.mk (.type "type") none (.cls (.mk z123 [(.type "object")] [(.ref 323), (.type "object")] 322 z123 .true [] [] .false (@Option.none @Bool) .false)) (la [none, none, (some (.str z123 612)), (some (.str z123 620)), (some (.builtin "object.__new__")), (some (.bool .true))]))
noncomputable def o324_7 : Params → Obj := fun P => (Obj.mk (.type "getset_descriptor") none (.fields (la [(.str z86 664), (.ref 323), (.builtin "function.__dict__"), (.builtin "function.__dict__#set")])) #[])
noncomputable def o325_7 : Params → Obj := fun P => (Obj.mk (.type "getset_descriptor") none (.fields (la [(.str z27 666), (.ref 323), (.builtin "ExceptionGroup.__weakref__"), .none])) #[])
noncomputable def o326_7 : Params → Obj := fun P => (Obj.mk (.type "super") none (.fields (la [(.ref 323), (.ref 323), (.ref 323)])) #[])
noncomputable def o327_7 : Params → Obj := fun P => (Obj.mk (.type "builtin_function_or_method") none (.fields (la [(.builtin "object.__init_subclass__"), (.ref 323)])) #[])
noncomputable def o328_7 : Params → Obj := fun P => (Obj.mk (.type "tuple") none (.seq #[] 0) #[])
noncomputable def o329_7 : Params → Obj := fun P => (Obj.mk .none none (.fields #[]) #[])
noncomputable def o330_7 : Params → Obj := fun P => (Obj.mk (.type "tuple") none (.seq #[] 0) #[])
noncomputable def o331_7 : Params → Obj := fun P => (Obj.mk (.type "tuple") none (.seq #[] 0) #[])
noncomputable def o332_7 : Params → Obj := fun P => (Obj.mk .none none (.func (.mk z124 z124 (fA (st 40)) (.stmts (fB (st 43))) (fS (st 43)) 0 [] .none .none .none .none none .none .none 0)) #[])
noncomputable def o333_7 : Params → Obj := fun P => (Obj.mk (.type "code") none (.fields (la [(.str z124 673), (.str z124 674), (.str z1 675), (.int 253 0), (.int 0 0), (.int 0 0), (.int 0 0), (.int 3 0), (.ref 328), (.bool .true), (.int 181 0), (.ref 329), .none, (.ref 330), (.ref 331), (.ref 332), (.int 676 0), (.int 253 0), (.str z1 677)])) #[])
noncomputable def o334_7 : Params → Obj := fun P => (Obj.mk (.type "function") none (.func (.mk z124 z124 (fA (st 40)) (.stmts (fB (st 43))) (fS (st 43)) 3 [] .none .none .none (.str z121 671) none (.ref 333) .none 0)) #[])
noncomputable def t7 : Params → BT := fun P => (.node (boot_o_0 P) (.node (boot_o_1 P) (.node (o3_7 P) (.node (boot_o_7 P) (.node (o15_1 P) (.node (o31_1 P) (.node (o63_2 P) (.node (o127_3 P) (.node (o255_6 P) .nil .nil) .nil) (.node (o191_4 P) (.node (o319_7 P) .nil .nil) .nil)) (.node (o95_3 P) (.node (o159_4 P) (.node (o287_7 P) .nil .nil) .nil) (.node (o223_5 P) .nil .nil))) (.node (o47_2 P) (.node (o79_3 P) (.node (o143_4 P) (.node (o271_6 P) .nil .nil) .nil) (.node (o207_5 P) .nil .nil)) (.node (o111_3 P) (.node (o175_4 P) (.node (o303_7 P) .nil .nil) .nil) (.node (o239_6 P) .nil .nil)))) (.node (o23_1 P) (.node (o39_2 P) (.node (o71_3 P) (.node (o135_3 P) (.node (o263_6 P) .nil .nil) .nil) (.node (o199_5 P) (.node (o327_7 P) .nil .nil) .nil)) (.node (o103_3 P) (.node (o167_4 P) (.node (o295_7 P) .nil .nil) .nil) (.node (o231_6 P) .nil .nil))) (.node (o55_2 P) (.node (o87_3 P) (.node (o151_4 P) (.node (o279_7 P) .nil .nil) .nil) (.node (o215_5 P) .nil .nil)) (.node (o119_3 P) (.node (o183_4 P) (.node (o311_7 P) .nil .nil) .nil) (.node (o247_6 P) .nil .nil))))) (.node (o11_0 P) (.node (o19_1 P) (.node (o35_1 P) (.node (o67_2 P) (.node (o131_3 P) (.node (o259_6 P) .nil .nil) .nil) (.node (o195_4 P) (.node (o323_7 P) .nil .nil) .nil)) (.node (o99_3 P) (.node (o163_4 P) (.node (o291_7 P) .nil .nil) .nil) (.node (o227_6 P) .nil .nil))) (.node (o51_2 P) (.node (o83_3 P) (.node (o147_4 P) (.node (o275_6 P) .nil .nil) .nil) (.node (o211_5 P) .nil .nil)) (.node (o115_3 P) (.node (o179_4 P) (.node (o307_7 P) .nil .nil) .nil) (.node (o243_6 P) .nil .nil)))) (.node (o27_1 P) (.node (o43_2 P) (.node (o75_3 P) (.node (o139_4 P) (.node (o267_6 P) .nil .nil) .nil) (.node (o203_5 P) (.node (o331_7 P) .nil .nil) .nil)) (.node (o107_3 P) (.node (o171_4 P) (.node (o299_7 P) .nil .nil) .nil) (.node (o235_6 P) .nil .nil))) (.node (o59_2 P) (.node (o91_3 P) (.node (o155_4 P) (.node (o283_7 P) .nil .nil) .nil) (.node (o219_5 P) .nil .nil)) (.node (o123_3 P) (.node (o187_4 P) (.node (o315_7 P) .nil .nil) .nil) (.node (o251_6 P) .nil .nil)))))) (.node (boot_o_5 P) (.node (boot_o_9 P) (.node (o17_1 P) (.node (o33_1 P) (.node (o65_2 P) (.node (o129_3 P) (.node (o257_6 P) .nil .nil) .nil) (.node (o193_4 P) (.node (o321_7 P) .nil .nil) .nil)) (.node (o97_3 P) (.node (o161_4 P) (.node (o289_7 P) .nil .nil) .nil) (.node (o225_6 P) .nil .nil))) (.node (o49_2 P) (.node (o81_3 P) (.node (o145_4 P) (.node (o273_6 P) .nil .nil) .nil) (.node (o209_5 P) .nil .nil)) (.node (o113_3 P) (.node (o177_4 P) (.node (o305_7 P) .nil .nil) .nil) (.node (o241_6 P) .nil .nil)))) (.node (o25_1 P) (.node (o41_1 P) (.node (o73_3 P) (.node (o137_3 P) (.node (o265_6 P) .nil .nil) .nil) (.node (o201_5 P) (.node (o329_7 P) .nil .nil) .nil)) (.node (o105_3 P) (.node (o169_4 P) (.node (o297_7 P) .nil .nil) .nil) (.node (o233_6 P) .nil .nil))) (.node (o57_2 P) (.node (o89_3 P) (.node (o153_4 P) (.node (o281_7 P) .nil .nil) .nil) (.node (o217_5 P) .nil .nil)) (.node (o121_3 P) (.node (o185_4 P) (.node (o313_7 P) .nil .nil) .nil) (.node (o249_6 P) .nil .nil))))) (.node (o13_0 P) (.node (o21_1 P) (.node (o37_1 P) (.node (o69_3 P) (.node (o133_3 P) (.node (o261_6 P) .nil .nil) .nil) (.node (o197_5 P) (.node (o325_7 P) .nil .nil) .nil)) (.node (o101_3 P) (.node (o165_4 P) (.node (o293_7 P) .nil .nil) .nil) (.node (o229_6 P) .nil .nil))) (.node (o53_2 P) (.node (o85_3 P) (.node (o149_4 P) (.node (o277_6 P) .nil .nil) .nil) (.node (o213_5 P) .nil .nil)) (.node (o117_3 P) (.node (o181_4 P) (.node (o309_7 P) .nil .nil) .nil) (.node (o245_6 P) .nil .nil)))) (.node (o29_1 P) (.node (o45_2 P) (.node (o77_3 P) (.node (o141_4 P) (.node (o269_6 P) .nil .nil) .nil) (.node (o205_5 P) (.node (o333_7 P) .nil .nil) .nil)) (.node (o109_3 P) (.node (o173_4 P) (.node (o301_7 P) .nil .nil) .nil) (.node (o237_6 P) .nil .nil))) (.node (o61_2 P) (.node (o93_3 P) (.node (o157_4 P) (.node (o285_7 P) .nil .nil) .nil) (.node (o221_5 P) .nil .nil)) (.node (o125_3 P) (.node (o189_4 P) (.node (o317_7 P) .nil .nil) .nil) (.node (o253_6 P) .nil .nil))))))) (.node (o2_1 P) (.node (boot_o_4 P) (.node (boot_o_8 P) (.node (o16_1 P) (.node (o32_1 P) (.node (o64_2 P) (.node (o128_3 P) (.node (o256_6 P) .nil .nil) .nil) (.node (o192_4 P) (.node (o320_7 P) .nil .nil) .nil)) (.node (o96_3 P) (.node (o160_4 P) (.node (o288_7 P) .nil .nil) .nil) (.node (o224_5 P) .nil .nil))) (.node (o48_2 P) (.node (o80_3 P) (.node (o144_4 P) (.node (o272_6 P) .nil .nil) .nil) (.node (o208_5 P) .nil .nil)) (.node (o112_3 P) (.node (o176_4 P) (.node (o304_7 P) .nil .nil) .nil) (.node (o240_6 P) .nil .nil)))) (.node (o24_1 P) (.node (o40_1 P) (.node (o72_3 P) (.node (o136_3 P) (.node (o264_6 P) .nil .nil) .nil) (.node (o200_5 P) (.node (o328_7 P) .nil .nil) .nil)) (.node (o104_3 P) (.node (o168_4 P) (.node (o296_7 P) .nil .nil) .nil) (.node (o232_6 P) .nil .nil))) (.node (o56_2 P) (.node (o88_3 P) (.node (o152_4 P) (.node (o280_7 P) .nil .nil) .nil) (.node (o216_5 P) .nil .nil)) (.node (o120_3 P) (.node (o184_4 P) (.node (o312_7 P) .nil .nil) .nil) (.node (o248_6 P) .nil .nil))))) (.node (o12_7 P) (.node (o20_1 P) (.node (o36_1 P) (.node (o68_2 P) (.node (o132_3 P) (.node (o260_6 P) .nil .nil) .nil) (.node (o196_5 P) (.node (o324_7 P) .nil .nil) .nil)) (.node (o100_3 P) (.node (o164_4 P) (.node (o292_7 P) .nil .nil) .nil) (.node (o228_6 P) .nil .nil))) (.node (o52_2 P) (.node (o84_3 P) (.node (o148_4 P) (.node (o276_6 P) .nil .nil) .nil) (.node (o212_5 P) .nil .nil)) (.node (o116_3 P) (.node (o180_4 P) (.node (o308_7 P) .nil .nil) .nil) (.node (o244_6 P) .nil .nil)))) (.node (o28_1 P) (.node (o44_2 P) (.node (o76_3 P) (.node (o140_4 P) (.node (o268_6 P) .nil .nil) .nil) (.node (o204_5 P) (.node (o332_7 P) .nil .nil) .nil)) (.node (o108_3 P) (.node (o172_4 P) (.node (o300_7 P) .nil .nil) .nil) (.node (o236_6 P) .nil .nil))) (.node (o60_2 P) (.node (o92_3 P) (.node (o156_4 P) (.node (o284_7 P) .nil .nil) .nil) (.node (o220_5 P) .nil .nil)) (.node (o124_3 P) (.node (o188_4 P) (.node (o316_7 P) .nil .nil) .nil) (.node (o252_6 P) .nil .nil)))))) (.node (boot_o_6 P) (.node (boot_o_10 P) (.node (o18_1 P) (.node (o34_1 P) (.node (o66_2 P) (.node (o130_3 P) (.node (o258_6 P) .nil .nil) .nil) (.node (o194_4 P) (.node (o322_7 P) .nil .nil) .nil)) (.node (o98_3 P) (.node (o162_4 P) (.node (o290_7 P) .nil .nil) .nil) (.node (o226_6 P) .nil .nil))) (.node (o50_2 P) (.node (o82_3 P) (.node (o146_4 P) (.node (o274_6 P) .nil .nil) .nil) (.node (o210_5 P) .nil .nil)) (.node (o114_3 P) (.node (o178_4 P) (.node (o306_7 P) .nil .nil) .nil) (.node (o242_6 P) .nil .nil)))) (.node (o26_1 P) (.node (o42_1 P) (.node (o74_3 P) (.node (o138_4 P) (.node (o266_6 P) .nil .nil) .nil) (.node (o202_5 P) (.node (o330_7 P) .nil .nil) .nil)) (.node (o106_3 P) (.node (o170_4 P) (.node (o298_7 P) .nil .nil) .nil) (.node (o234_6 P) .nil .nil))) (.node (o58_2 P) (.node (o90_3 P) (.node (o154_4 P) (.node (o282_7 P) .nil .nil) .nil) (.node (o218_5 P) .nil .nil)) (.node (o122_3 P) (.node (o186_4 P) (.node (o314_7 P) .nil .nil) .nil) (.node (o250_6 P) .nil .nil))))) (.node (o14_0 P) (.node (o22_1 P) (.node (o38_1 P) (.node (o70_3 P) (.node (o134_3 P) (.node (o262_6 P) .nil .nil) .nil) (.node (o198_5 P) (.node (o326_7 P) .nil .nil) .nil)) (.node (o102_3 P) (.node (o166_4 P) (.node (o294_7 P) .nil .nil) .nil) (.node (o230_6 P) .nil .nil))) (.node (o54_2 P) (.node (o86_3 P) (.node (o150_4 P) (.node (o278_6 P) .nil .nil) .nil) (.node (o214_5 P) .nil .nil)) (.node (o118_3 P) (.node (o182_4 P) (.node (o310_7 P) .nil .nil) .nil) (.node (o246_6 P) .nil .nil)))) (.node (o30_1 P) (.node (o46_2 P) (.node (o78_3 P) (.node (o142_4 P) (.node (o270_6 P) .nil .nil) .nil) (.node (o206_5 P) (.node (o334_7 P) .nil .nil) .nil)) (.node (o110_3 P) (.node (o174_4 P) (.node (o302_7 P) .nil .nil) .nil) (.node (o238_6 P) .nil .nil))) (.node (o62_2 P) (.node (o94_3 P) (.node (o158_4 P) (.node (o286_7 P) .nil .nil) .nil) (.node (o222_5 P) .nil .nil)) (.node (o126_3 P) (.node (o190_4 P) (.node (o318_7 P) .nil .nil) .nil) (.node (o254_6 P) .nil .nil))))))))
noncomputable def s7 (w : World) (os : OsState) : SharedT := ⟨t7 w.params, 335, lf, #[], (Drawn.mk 0 0 0 0), 679, os⟩
noncomputable def o3_8 : Params → Obj := fun P => (Obj.mk (.type "dict") none (.dict (la [(.mk (kh P z5) (.str z5 165) (.str z121 671)), (.mk (kh P z7) (.str z7 166) .none), (.mk (kh P z8) (.str z8 167) .none), (.mk (kh P z9) (.str z9 168) (.builtin "__main__.__loader__#opaque")), (.mk (kh P z10) (.str z10 169) .none), (.mk (kh P z11) (.str z11 170) (.ref 6)), (.mk (kh P z12) (.str z12 171) (.ref 4)), (.mk (kh P z13) (.str z13 173) (.str z1 172)), (.mk (kh P z14) (.str z14 174) .none), (.mk (kh P z15) (.str z15 193) (.ref 21)), (.mk (kh P z16) (.str z16 197) (.int 1114111 196)), (.mk (kh P z17) (.str z17 226) (.ref 39)), (.mk (kh P z29) (.str z29 242) (.ref 52)), (.mk (kh P z30) (.str z30 253) (.ref 61)), (.mk (kh P z31) (.str z31 257) (.int 44032 256)), (.mk (kh P z32) (.str z32 259) (.int 4352 258)), (.mk (kh P z33) (.str z33 261) (.int 4449 260)), (.mk (kh P z34) (.str z34 263) (.int 4519 262)), (.mk (kh P z35) (.str z35 265) (.int 19 264)), (.mk (kh P z36) (.str z36 267) (.int 21 266)), (.mk (kh P z37) (.str z37 269) (.int 28 268)), (.mk (kh P z38) (.str z38 272) (.int 11172 271)), (.mk (kh P z39) (.str z39 279) (.ref 68)), (.mk (kh P z47) (.str z47 287) (.ref 75)), (.mk (kh P z48) (.str z48 297) (.ref 82)), (.mk (kh P z49) (.str z49 307) (.ref 89)), (.mk (kh P z50) (.str z50 320) (.ref 96)), (.mk (kh P z51) (.str z51 335) (.ref 103)), (.mk (kh P z52) (.str z52 347) (.ref 110)), (.mk (kh P z53) (.str z53 353) (.ref 115)), (.mk (kh P z54) (.str z54 364) (.ref 123)), (.mk (kh P z55) (.str z55 376) (.ref 130)), (.mk (kh P z56) (.str z56 385) (.ref 137)), (.mk (kh P z75) (.str z75 435) (.ref 168)), (.mk (kh P z76) (.str z76 450) (.ref 180)), (.mk (kh P z77) (.str z77 461) (.ref 188)), (.mk (kh P z78) (.str z78 469) (.ref 195)), (.mk (kh P z92) (.str z92 482) (.ref 202)), (.mk (kh P z93) (.str z93 497) (.ref 209)), (.mk (kh P z94) (.str z94 511) (.ref 217)), (.mk (kh P z95) (.str z95 521) (.ref 224)), (.mk (kh P z103) (.str z103 589) (.ref 267)), (.mk (kh P z104) (.str z104 601) (.ref 278)), (.mk (kh P z122) (.str z122 611) (.ref 285)), (.mk (kh P z123) (.str z123 670) (.ref 323)), (.mk (kh P z124) (.str z124 678) (.ref 334)), (.mk (kh P z134) (.str z134 696) (.ref 335)), (.mk (kh P z135) (.str z135 702) (.ref 342)), (.mk (kh P z136) (.str z136 708) (.ref 347)), (.mk (kh P z137) (.str z137 718) (.ref 354)), (.mk (kh P z138) (.str z138 727) (.ref 361)), (.mk (kh P z139) (.str z139 741) (.ref 368)), (.mk (kh P z140) (.str z140 752) (.ref 375)), (.mk (kh P z141) (.str z141 758) (.ref 380)), (.mk (kh P z142) (.str z142 764) (.ref 385))]) 55) #[])
noncomputable def o12_8 : Params → Obj := fun P => (Obj.mk .none none (.fields (la [(.int 1 0), (.int 0 0), (.ref 20), (.int 6 0), (.int 0 0), (.ref 27), (.int 10 0), (.int 0 0), (.ref 48), (.int 12 0), (.int 0 0), (.ref 60), (.int 31 0), (.int 0 0), (.ref 67), (.int 33 0), (.int 0 0), (.ref 74), (.int 36 0), (.int 0 0), (.ref 81), (.int 43 0), (.int 0 0), (.ref 88), (.int 52 0), (.int 0 0), (.ref 95), (.int 60 0), (.int 0 0), (.ref 102), (.int 79 0), (.int 0 0), (.ref 109), (.int 91 0), (.int 0 0), (.ref 114), (.int 93 0), (.int 0 0), (.ref 122), (.int 98 0), (.int 0 0), (.ref 129), (.int 107 0), (.int 0 0), (.ref 136), (.int 111 0), (.int 0 0), (.ref 143), (.int 125 0), (.int 0 0), (.ref 179), (.int 141 0), (.int 0 0), (.ref 187), (.int 144 0), (.int 0 0), (.ref 194), (.int 147 0), (.int 0 0), (.ref 201), (.int 154 0), (.int 0 0), (.ref 208), (.int 171 0), (.int 0 0), (.ref 216), (.int 181 0), (.int 0 0), (.ref 223), (.int 183 0), (.int 0 0), (.ref 230), (.int 213 0), (.int 0 0), (.ref 277), (.int 220 0), (.int 0 0), (.ref 284), (.int 232 0), (.int 0 0), (.ref 291), (.int 253 0), (.int 0 0), (.ref 333), (.int 256 0), (.int 0 0), (.ref 341), (.int 258 0), (.int 0 0), (.ref 346), (.int 260 0), (.int 0 0), (.ref 353), (.int 268 0), (.int 0 0), (.ref 360), (.int 277 0), (.int 0 0), (.ref 367), (.int 290 0), (.int 0 0), (.ref 374), (.int 298 0), (.int 0 0), (.ref 379), (.int 318 0), (.int 0 0), (.ref 384)])) #[])
noncomputable def o335_8 : Params → Obj := fun P => (Obj.mk (.type "list") none (.seq (la [(.int 97 679), (.int 769 680), (.int 803 681), (.int 65 682), (.int 66 683), (.int 173 684), (.int 7838 685), (.int 223 686), (.int 8205 687), (.int 8226 688), (.int 95 689), (.int 8800 690), (.int 225 691), (.int 833 692), (.int 98 693), (.int 12288 694), (.int 7841 695)]) 0) #[])
noncomputable def o336_8 : Params → Obj := fun P => (Obj.mk (.type "tuple") none (.seq #[] 0) #[])
noncomputable def o337_8 : Params → Obj := fun P => (Obj.mk .none none (.fields #[]) #[])
noncomputable def o338_8 : Params → Obj := fun P => (Obj.mk (.type "tuple") none (.seq #[] 0) #[])
noncomputable def o339_8 : Params → Obj := fun P => (Obj.mk (.type "tuple") none (.seq #[] 0) #[])
noncomputable def o340_8 : Params → Obj := fun P => (Obj.mk .none none (.func (.mk z135 z135 (fA (st 40)) (.stmts (fB (st 45))) (fS (st 43)) 0 [] .none .none .none .none none .none .none 0)) #[])
noncomputable def o341_8 : Params → Obj := fun P => (Obj.mk (.type "code") none (.fields (la [(.str z135 697), (.str z135 698), (.str z1 699), (.int 256 0), (.int 0 0), (.int 0 0), (.int 0 0), (.int 3 0), (.ref 336), (.bool .true), (.int 181 0), (.ref 337), .none, (.ref 338), (.ref 339), (.ref 340), (.int 700 0), (.int 256 0), (.str z1 701)])) #[])
noncomputable def o342_8 : Params → Obj := fun P => (Obj.mk (.type "function") none (.func (.mk z135 z135 (fA (st 40)) (.stmts (fB (st 45))) (fS (st 43)) 3 [] .none .none .none (.str z121 671) none (.ref 341) .none 0)) #[])
noncomputable def o343_8 : Params → Obj := fun P => (Obj.mk (.type "tuple") none (.seq #[] 0) #[])
noncomputable def o344_8 : Params → Obj := fun P => (Obj.mk .none none (.fields #[]) #[])
noncomputable def o345_8 : Params → Obj := fun P => (Obj.mk .none none (.func (.mk z136 z136 (fA (st 46)) (.stmts (fB (st 46))) (fS (st 46)) 0 [] .none .none .none .none none .none .none 0)) #[])
noncomputable def o346_8 : Params → Obj := fun P => (Obj.mk (.type "code") none (.fields (la [(.str z136 703), (.str z136 704), (.str z1 705), (.int 258 0), (.int 1 0), (.int 0 0), (.int 0 0), (.int 3 0), (.ref 343), (.bool .true), (.int 181 0), (.ref 344), .none, .none, .none, (.ref 345), (.int 706 0), (.int 258 0), (.str z1 707)])) #[])
noncomputable def o347_8 : Params → Obj := fun P => (Obj.mk (.type "function") none (.func (.mk z136 z136 (fA (st 46)) (.stmts (fB (st 46))) (fS (st 46)) 3 [] .none .none .none (.str z121 671) none (.ref 346) .none 0)) #[])
noncomputable def o348_8 : Params → Obj := fun P => (Obj.mk (.type "tuple") none (.seq #[] 0) #[])
noncomputable def o349_8 : Params → Obj := fun P => (Obj.mk .none none (.fields #[]) #[])
noncomputable def o350_8 : Params → Obj := fun P => (Obj.mk (.type "tuple") none (.seq (la [(.str z143 712), (.str z144 713), (.str z120 714), (.str z145 715)]) 0) #[])
noncomputable def o351_8 : Params → Obj := fun P => (Obj.mk (.type "tuple") none (.seq #[] 0) #[])
noncomputable def o352_8 : Params → Obj := fun P => (Obj.mk .none none (.func (.mk z137 z137 (fA (st 47)) (.stmts (fB (st 47))) (fS (st 47)) 0 [] .none .none .none .none none .none .none 0)) #[])
noncomputable def o353_8 : Params → Obj := fun P => (Obj.mk (.type "code") none (.fields (la [(.str z137 709), (.str z137 710), (.str z1 711), (.int 260 0), (.int 2 0), (.int 0 0), (.int 0 0), (.int 3 0), (.ref 348), (.bool .true), (.int 181 0), (.ref 349), .none, (.ref 350), (.ref 351), (.ref 352), (.int 716 0), (.int 260 0), (.str z1 717)])) #[])
noncomputable def o354_8 : Params → Obj := fun P => (Obj.mk (.type "function") none (.func (.mk z137 z137 (fA (st 47)) (.stmts (fB (st 47))) (fS (st 47)) 3 [] .none .none .none (.str z121 671) none (.ref 353) .none 0)) #[])
noncomputable def o355_8 : Params → Obj := fun P => (Obj.mk (.type "tuple") none (.seq #[] 0) #[])
noncomputable def o356_8 : Params → Obj := fun P => (Obj.mk .none none (.fields #[]) #[])
noncomputable def o357_8 : Params → Obj := fun P => (Obj.mk (.type "tuple") none (.seq (la [(.str z64 722), (.str z146 723), (.str z45 724)]) 0) #[])
noncomputable def o358_8 : Params → Obj := fun P => (Obj.mk (.type "tuple") none (.seq #[] 0) #[])
noncomputable def o359_8 : Params → Obj := fun P => (Obj.mk .none none (.func (.mk z138 z138 (fA (st 48)) (.stmts (fB (st 48))) (fS (st 48)) 0 [] .none .none .none .none none .none .none 0)) #[])
noncomputable def o360_8 : Params → Obj := fun P => (Obj.mk (.type "code") none (.fields (la [(.str z138 719), (.str z138 720), (.str z1 721), (.int 268 0), (.int 1 0), (.int 0 0), (.int 0 0), (.int 3 0), (.ref 355), (.bool .true), (.int 181 0), (.ref 356), .none, (.ref 357), (.ref 358), (.ref 359), (.int 725 0), (.int 268 0), (.str z1 726)])) #[])
noncomputable def o361_8 : Params → Obj := fun P => (Obj.mk (.type "function") none (.func (.mk z138 z138 (fA (st 48)) (.stmts (fB (st 48))) (fS (st 48)) 3 [] .none .none .none (.str z121 671) none (.ref 360) .none 0)) #[])
noncomputable def o362_8 : Params → Obj := fun P => (Obj.mk (.type "tuple") none (.seq #[] 0) #[])
noncomputable def o363_8 : Params → Obj := fun P => (Obj.mk .none none (.fields #[]) #[])
noncomputable def o364_8 : Params → Obj := fun P => (Obj.mk (.type "tuple") none (.seq (la [(.str z45 731), (.str z147 732), (.str z148 733), (.str z97 734), (.str z149 735), (.str z65 736), (.str z61 737), (.str z150 738)]) 0) #[])
noncomputable def o365_8 : Params → Obj := fun P => (Obj.mk (.type "tuple") none (.seq #[] 0) #[])
noncomputable def o366_8 : Params → Obj := fun P => (Obj.mk .none none (.func (.mk z139 z139 (fA (st 49)) (.stmts (fB (st 49))) (fS (st 49)) 0 [] .none .none .none .none none .none .none 0)) #[])
noncomputable def o367_8 : Params → Obj := fun P => (Obj.mk (.type "code") none (.fields (la [(.str z139 728), (.str z139 729), (.str z1 730), (.int 277 0), (.int 3 0), (.int 0 0), (.int 0 0), (.int 3 0), (.ref 362), (.bool .true), (.int 181 0), (.ref 363), .none, (.ref 364), (.ref 365), (.ref 366), (.int 739 0), (.int 277 0), (.str z1 740)])) #[])
noncomputable def o368_8 : Params → Obj := fun P => (Obj.mk (.type "function") none (.func (.mk z139 z139 (fA (st 49)) (.stmts (fB (st 49))) (fS (st 49)) 3 [] .none .none .none (.str z121 671) none (.ref 367) .none 0)) #[])
noncomputable def o369_8 : Params → Obj := fun P => (Obj.mk (.type "tuple") none (.seq #[] 0) #[])
noncomputable def o370_8 : Params → Obj := fun P => (Obj.mk .none none (.fields #[]) #[])
noncomputable def o371_8 : Params → Obj := fun P => (Obj.mk (.type "tuple") none (.seq (la [(.str z151 745), (.str z65 746), (.str z45 747), (.str z120 748), (.str z152 749)]) 0) #[])
noncomputable def o372_8 : Params → Obj := fun P => (Obj.mk (.type "tuple") none (.seq #[] 0) #[])
noncomputable def o373_8 : Params → Obj := fun P => (Obj.mk .none none (.func (.mk z140 z140 (fA (st 50)) (.stmts (fB (st 50))) (fS (st 50)) 0 [] .none .none .none .none none .none .none 0)) #[])
noncomputable def o374_8 : Params → Obj := fun P => (Obj.mk (.type "code") none (.fields (la [(.str z140 742), (.str z140 743), (.str z1 744), (.int 290 0), (.int 1 0), (.int 0 0), (.int 0 0), (.int 3 0), (.ref 369), (.bool .true), (.int 181 0), (.ref 370), .none, (.ref 371), (.ref 372), (.ref 373), (.int 750 0), (.int 290 0), (.str z1 751)])) #[])
noncomputable def o375_8 : Params → Obj := fun P => (Obj.mk (.type "function") none (.func (.mk z140 z140 (fA (st 50)) (.stmts (fB (st 50))) (fS (st 50)) 3 [] .none .none .none (.str z121 671) none (.ref 374) .none 0)) #[])
noncomputable def o376_8 : Params → Obj := fun P => (Obj.mk (.type "tuple") none (.seq #[] 0) #[])
noncomputable def o377_8 : Params → Obj := fun P => (Obj.mk .none none (.fields #[]) #[])
noncomputable def o378_8 : Params → Obj := fun P => (Obj.mk .none none (.func (.mk z141 z141 (fA (st 51)) (.stmts (fB (st 51))) (fS (st 51)) 0 [] .none .none .none .none none .none .none 0)) #[])
noncomputable def o379_8 : Params → Obj := fun P => (Obj.mk (.type "code") none (.fields (la [(.str z141 753), (.str z141 754), (.str z1 755), (.int 298 0), (.int 2 0), (.int 0 0), (.int 0 0), (.int 3 0), (.ref 376), (.bool .true), (.int 181 0), (.ref 377), .none, .none, .none, (.ref 378), (.int 756 0), (.int 298 0), (.str z1 757)])) #[])
noncomputable def o380_8 : Params → Obj := fun P => (Obj.mk (.type "function") none (.func (.mk z141 z141 (fA (st 51)) (.stmts (fB (st 51))) (fS (st 51)) 3 [] .none .none .none (.str z121 671) none (.ref 379) .none 0)) #[])
noncomputable def o381_8 : Params → Obj := fun P => (Obj.mk (.type "tuple") none (.seq #[] 0) #[])
noncomputable def o382_8 : Params → Obj := fun P => (Obj.mk .none none (.fields #[]) #[])
noncomputable def o383_8 : Params → Obj := fun P => (Obj.mk .none none (.func (.mk z142 z142 (fA (st 52)) (.stmts (fB (st 52))) (fS (st 52)) 0 [] .none .none .none .none none .none .none 0)) #[])
noncomputable def o384_8 : Params → Obj := fun P => (Obj.mk (.type "code") none (.fields (la [(.str z142 759), (.str z142 760), (.str z1 761), (.int 318 0), (.int 1 0), (.int 0 0), (.int 0 0), (.int 3 0), (.ref 381), (.bool .true), (.int 181 0), (.ref 382), .none, .none, .none, (.ref 383), (.int 762 0), (.int 318 0), (.str z1 763)])) #[])
noncomputable def o385_8 : Params → Obj := fun P => (Obj.mk (.type "function") none (.func (.mk z142 z142 (fA (st 52)) (.stmts (fB (st 52))) (fS (st 52)) 3 [] .none .none .none (.str z121 671) none (.ref 384) .none 0)) #[])
noncomputable def t8 : Params → BT := fun P => (.node (boot_o_0 P) (.node (boot_o_1 P) (.node (o3_8 P) (.node (boot_o_7 P) (.node (o15_1 P) (.node (o31_1 P) (.node (o63_2 P) (.node (o127_3 P) (.node (o255_6 P) .nil .nil) (.node (o383_8 P) .nil .nil)) (.node (o191_4 P) (.node (o319_7 P) .nil .nil) .nil)) (.node (o95_3 P) (.node (o159_4 P) (.node (o287_7 P) .nil .nil) .nil) (.node (o223_5 P) (.node (o351_8 P) .nil .nil) .nil))) (.node (o47_2 P) (.node (o79_3 P) (.node (o143_4 P) (.node (o271_6 P) .nil .nil) .nil) (.node (o207_5 P) (.node (o335_8 P) .nil .nil) .nil)) (.node (o111_3 P) (.node (o175_4 P) (.node (o303_7 P) .nil .nil) .nil) (.node (o239_6 P) (.node (o367_8 P) .nil .nil) .nil)))) (.node (o23_1 P) (.node (o39_2 P) (.node (o71_3 P) (.node (o135_3 P) (.node (o263_6 P) .nil .nil) .nil) (.node (o199_5 P) (.node (o327_7 P) .nil .nil) .nil)) (.node (o103_3 P) (.node (o167_4 P) (.node (o295_7 P) .nil .nil) .nil) (.node (o231_6 P) (.node (o359_8 P) .nil .nil) .nil))) (.node (o55_2 P) (.node (o87_3 P) (.node (o151_4 P) (.node (o279_7 P) .nil .nil) .nil) (.node (o215_5 P) (.node (o343_8 P) .nil .nil) .nil)) (.node (o119_3 P) (.node (o183_4 P) (.node (o311_7 P) .nil .nil) .nil) (.node (o247_6 P) (.node (o375_8 P) .nil .nil) .nil))))) (.node (o11_0 P) (.node (o19_1 P) (.node (o35_1 P) (.node (o67_2 P) (.node (o131_3 P) (.node (o259_6 P) .nil .nil) .nil) (.node (o195_4 P) (.node (o323_7 P) .nil .nil) .nil)) (.node (o99_3 P) (.node (o163_4 P) (.node (o291_7 P) .nil .nil) .nil) (.node (o227_6 P) (.node (o355_8 P) .nil .nil) .nil))) (.node (o51_2 P) (.node (o83_3 P) (.node (o147_4 P) (.node (o275_6 P) .nil .nil) .nil) (.node (o211_5 P) (.node (o339_8 P) .nil .nil) .nil)) (.node (o115_3 P) (.node (o179_4 P) (.node (o307_7 P) .nil .nil) .nil) (.node (o243_6 P) (.node (o371_8 P) .nil .nil) .nil)))) (.node (o27_1 P) (.node (o43_2 P) (.node (o75_3 P) (.node (o139_4 P) (.node (o267_6 P) .nil .nil) .nil) (.node (o203_5 P) (.node (o331_7 P) .nil .nil) .nil)) (.node (o107_3 P) (.node (o171_4 P) (.node (o299_7 P) .nil .nil) .nil) (.node (o235_6 P) (.node (o363_8 P) .nil .nil) .nil))) (.node (o59_2 P) (.node (o91_3 P) (.node (o155_4 P) (.node (o283_7 P) .nil .nil) .nil) (.node (o219_5 P) (.node (o347_8 P) .nil .nil) .nil)) (.node (o123_3 P) (.node (o187_4 P) (.node (o315_7 P) .nil .nil) .nil) (.node (o251_6 P) (.node (o379_8 P) .nil .nil) .nil)))))) (.node (boot_o_5 P) (.node (boot_o_9 P) (.node (o17_1 P) (.node (o33_1 P) (.node (o65_2 P) (.node (o129_3 P) (.node (o257_6 P) .nil .nil) (.node (o385_8 P) .nil .nil)) (.node (o193_4 P) (.node (o321_7 P) .nil .nil) .nil)) (.node (o97_3 P) (.node (o161_4 P) (.node (o289_7 P) .nil .nil) .nil) (.node (o225_6 P) (.node (o353_8 P) .nil .nil) .nil))) (.node (o49_2 P) (.node (o81_3 P) (.node (o145_4 P) (.node (o273_6 P) .nil .nil) .nil) (.node (o209_5 P) (.node (o337_8 P) .nil .nil) .nil)) (.node (o113_3 P) (.node (o177_4 P) (.node (o305_7 P) .nil .nil) .nil) (.node (o241_6 P) (.node (o369_8 P) .nil .nil) .nil)))) (.node (o25_1 P) (.node (o41_1 P) (.node (o73_3 P) (.node (o137_3 P) (.node (o265_6 P) .nil .nil) .nil) (.node (o201_5 P) (.node (o329_7 P) .nil .nil) .nil)) (.node (o105_3 P) (.node (o169_4 P) (.node (o297_7 P) .nil .nil) .nil) (.node (o233_6 P) (.node (o361_8 P) .nil .nil) .nil))) (.node (o57_2 P) (.node (o89_3 P) (.node (o153_4 P) (.node (o281_7 P) .nil .nil) .nil) (.node (o217_5 P) (.node (o345_8 P) .nil .nil) .nil)) (.node (o121_3 P) (.node (o185_4 P) (.node (o313_7 P) .nil .nil) .nil) (.node (o249_6 P) (.node (o377_8 P) .nil .nil) .nil))))) (.node (o13_0 P) (.node (o21_1 P) (.node (o37_1 P) (.node (o69_3 P) (.node (o133_3 P) (.node (o261_6 P) .nil .nil) .nil) (.node (o197_5 P) (.node (o325_7 P) .nil .nil) .nil)) (.node (o101_3 P) (.node (o165_4 P) (.node (o293_7 P) .nil .nil) .nil) (.node (o229_6 P) (.node (o357_8 P) .nil .nil) .nil))) (.node (o53_2 P) (.node (o85_3 P) (.node (o149_4 P) (.node (o277_6 P) .nil .nil) .nil) (.node (o213_5 P) (.node (o341_8 P) .nil .nil) .nil)) (.node (o117_3 P) (.node (o181_4 P) (.node (o309_7 P) .nil .nil) .nil) (.node (o245_6 P) (.node (o373_8 P) .nil .nil) .nil)))) (.node (o29_1 P) (.node (o45_2 P) (.node (o77_3 P) (.node (o141_4 P) (.node (o269_6 P) .nil .nil) .nil) (.node (o205_5 P) (.node (o333_7 P) .nil .nil) .nil)) (.node (o109_3 P) (.node (o173_4 P) (.node (o301_7 P) .nil .nil) .nil) (.node (o237_6 P) (.node (o365_8 P) .nil .nil) .nil))) (.node (o61_2 P) (.node (o93_3 P) (.node (o157_4 P) (.node (o285_7 P) .nil .nil) .nil) (.node (o221_5 P) (.node (o349_8 P) .nil .nil) .nil)) (.node (o125_3 P) (.node (o189_4 P) (.node (o317_7 P) .nil .nil) .nil) (.node (o253_6 P) (.node (o381_8 P) .nil .nil) .nil))))))) (.node (o2_1 P) (.node (boot_o_4 P) (.node (boot_o_8 P) (.node (o16_1 P) (.node (o32_1 P) (.node (o64_2 P) (.node (o128_3 P) (.node (o256_6 P) .nil .nil) (.node (o384_8 P) .nil .nil)) (.node (o192_4 P) (.node (o320_7 P) .nil .nil) .nil)) (.node (o96_3 P) (.node (o160_4 P) (.node (o288_7 P) .nil .nil) .nil) (.node (o224_5 P) (.node (o352_8 P) .nil .nil) .nil))) (.node (o48_2 P) (.node (o80_3 P) (.node (o144_4 P) (.node (o272_6 P) .nil .nil) .nil) (.node (o208_5 P) (.node (o336_8 P) .nil .nil) .nil)) (.node (o112_3 P) (.node (o176_4 P) (.node (o304_7 P) .nil .nil) .nil) (.node (o240_6 P) (.node (o368_8 P) .nil .nil) .nil)))) (.node (o24_1 P) (.node (o40_1 P) (.node (o72_3 P) (.node (o136_3 P) (.node (o264_6 P) .nil .nil) .nil) (.node (o200_5 P) (.node (o328_7 P) .nil .nil) .nil)) (.node (o104_3 P) (.node (o168_4 P) (.node (o296_7 P) .nil .nil) .nil) (.node (o232_6 P) (.node (o360_8 P) .nil .nil) .nil))) (.node (o56_2 P) (.node (o88_3 P) (.node (o152_4 P) (.node (o280_7 P) .nil .nil) .nil) (.node (o216_5 P) (.node (o344_8 P) .nil .nil) .nil)) (.node (o120_3 P) (.node (o184_4 P) (.node (o312_7 P) .nil .nil) .nil) (.node (o248_6 P) (.node (o376_8 P) .nil .nil) .nil))))) (.node (o12_8 P) (.node (o20_1 P) (.node (o36_1 P) (.node (o68_2 P) (.node (o132_3 P) (.node (o260_6 P) .nil .nil) .nil) (.node (o196_5 P) (.node (o324_7 P) .nil .nil) .nil)) (.node (o100_3 P) (.node (o164_4 P) (.node (o292_7 P) .nil .nil) .nil) (.node (o228_6 P) (.node (o356_8 P) .nil .nil) .nil))) (.node (o52_2 P) (.node (o84_3 P) (.node (o148_4 P) (.node (o276_6 P) .nil .nil) .nil) (.node (o212_5 P) (.node (o340_8 P) .nil .nil) .nil)) (.node (o116_3 P) (.node (o180_4 P) (.node (o308_7 P) .nil .nil) .nil) (.node (o244_6 P) (.node (o372_8 P) .nil .nil) .nil)))) (.node (o28_1 P) (.node (o44_2 P) (.node (o76_3 P) (.node (o140_4 P) (.node (o268_6 P) .nil .nil) .nil) (.node (o204_5 P) (.node (o332_7 P) .nil .nil) .nil)) (.node (o108_3 P) (.node (o172_4 P) (.node (o300_7 P) .nil .nil) .nil) (.node (o236_6 P) (.node (o364_8 P) .nil .nil) .nil))) (.node (o60_2 P) (.node (o92_3 P) (.node (o156_4 P) (.node (o284_7 P) .nil .nil) .nil) (.node (o220_5 P) (.node (o348_8 P) .nil .nil) .nil)) (.node (o124_3 P) (.node (o188_4 P) (.node (o316_7 P) .nil .nil) .nil) (.node (o252_6 P) (.node (o380_8 P) .nil .nil) .nil)))))) (.node (boot_o_6 P) (.node (boot_o_10 P) (.node (o18_1 P) (.node (o34_1 P) (.node (o66_2 P) (.node (o130_3 P) (.node (o258_6 P) .nil .nil) .nil) (.node (o194_4 P) (.node (o322_7 P) .nil .nil) .nil)) (.node (o98_3 P) (.node (o162_4 P) (.node (o290_7 P) .nil .nil) .nil) (.node (o226_6 P) (.node (o354_8 P) .nil .nil) .nil))) (.node (o50_2 P) (.node (o82_3 P) (.node (o146_4 P) (.node (o274_6 P) .nil .nil) .nil) (.node (o210_5 P) (.node (o338_8 P) .nil .nil) .nil)) (.node (o114_3 P) (.node (o178_4 P) (.node (o306_7 P) .nil .nil) .nil) (.node (o242_6 P) (.node (o370_8 P) .nil .nil) .nil)))) (.node (o26_1 P) (.node (o42_1 P) (.node (o74_3 P) (.node (o138_4 P) (.node (o266_6 P) .nil .nil) .nil) (.node (o202_5 P) (.node (o330_7 P) .nil .nil) .nil)) (.node (o106_3 P) (.node (o170_4 P) (.node (o298_7 P) .nil .nil) .nil) (.node (o234_6 P) (.node (o362_8 P) .nil .nil) .nil))) (.node (o58_2 P) (.node (o90_3 P) (.node (o154_4 P) (.node (o282_7 P) .nil .nil) .nil) (.node (o218_5 P) (.node (o346_8 P) .nil .nil) .nil)) (.node (o122_3 P) (.node (o186_4 P) (.node (o314_7 P) .nil .nil) .nil) (.node (o250_6 P) (.node (o378_8 P) .nil .nil) .nil))))) (.node (o14_0 P) (.node (o22_1 P) (.node (o38_1 P) (.node (o70_3 P) (.node (o134_3 P) (.node (o262_6 P) .nil .nil) .nil) (.node (o198_5 P) (.node (o326_7 P) .nil .nil) .nil)) (.node (o102_3 P) (.node (o166_4 P) (.node (o294_7 P) .nil .nil) .nil) (.node (o230_6 P) (.node (o358_8 P) .nil .nil) .nil))) (.node (o54_2 P) (.node (o86_3 P) (.node (o150_4 P) (.node (o278_6 P) .nil .nil) .nil) (.node (o214_5 P) (.node (o342_8 P) .nil .nil) .nil)) (.node (o118_3 P) (.node (o182_4 P) (.node (o310_7 P) .nil .nil) .nil) (.node (o246_6 P) (.node (o374_8 P) .nil .nil) .nil)))) (.node (o30_1 P) (.node (o46_2 P) (.node (o78_3 P) (.node (o142_4 P) (.node (o270_6 P) .nil .nil) .nil) (.node (o206_5 P) (.node (o334_7 P) .nil .nil) .nil)) (.node (o110_3 P) (.node (o174_4 P) (.node (o302_7 P) .nil .nil) .nil) (.node (o238_6 P) (.node (o366_8 P) .nil .nil) .nil))) (.node (o62_2 P) (.node (o94_3 P) (.node (o158_4 P) (.node (o286_7 P) .nil .nil) .nil) (.node (o222_5 P) (.node (o350_8 P) .nil .nil) .nil)) (.node (o126_3 P) (.node (o190_4 P) (.node (o318_7 P) .nil .nil) .nil) (.node (o254_6 P) (.node (o382_8 P) .nil .nil) .nil))))))))
noncomputable def s8 (w : World) (os : OsState) : SharedT := ⟨t8 w.params, 386, lf, #[], (Drawn.mk 0 0 0 0), 765, os⟩
noncomputable def KA : List Nat := [1, 2, 3, 15, 17, 18, 20, 21, 22, 29, 30, 32, 33, 35, 36, 37, 38, 39, 40, 43, 50, 51, 52, 55, 57, 58, 60, 61, 62, 64, 65, 67, 68, 69, 71, 72, 74, 75, 76, 78, 79, 81, 82, 83, 85, 86, 88, 89, 90, 92, 93, 95, 96, 97, 99, 100, 102, 103, 104, 106, 107, 109, 110, 111, 114, 115, 116, 117, 119, 120, 122, 123, 124, 126, 127, 129, 130, 131, 133, 134, 136, 137, 145, 147, 148, 150, 151, 152, 154, 155, 157, 158, 159, 161, 162, 164, 165, 166, 167, 168, 169, 170, 173, 174, 176, 177, 179, 180, 181, 182, 184, 185, 187, 188, 189, 191, 192, 194, 195, 196, 198, 199, 201, 202, 203, 205, 206, 208, 209, 210, 211, 213, 214, 216, 217, 218, 220, 221, 223, 224, 232, 234, 235, 237, 238, 239, 241, 242, 244, 245, 246, 248, 249, 251, 252, 253, 256, 257, 258, 260, 261, 263, 264, 265, 266, 267, 268, 269, 272, 274, 275, 277, 278, 279, 281, 282, 284, 285, 293, 295, 296, 298, 299, 300, 302, 303, 305, 306, 307, 309, 310, 312, 313, 314, 316, 317, 319, 320, 321, 322, 323, 324, 325, 328, 330, 331, 333, 334, 335, 336, 338, 339, 341, 342, 343, 346, 347, 348, 350, 351, 353, 354, 355, 357, 358, 360, 361, 362, 364, 365, 367, 368, 369, 371, 372, 374, 375, 376, 379, 380, 381, 384, 385]
noncomputable def KK : Params → Frag := fun P => [(1, boot_o_1 P), (2, o2_1 P), (3, o3_8 P), (15, o15_1 P), (17, o17_1 P), (18, o18_1 P), (20, o20_1 P), (21, o21_1 P), (22, o22_1 P), (29, o29_1 P), (30, o30_1 P), (32, o32_1 P), (33, o33_1 P), (35, o35_1 P), (36, o36_1 P), (37, o37_1 P), (38, o38_1 P), (39, o39_2 P), (40, o40_1 P), (43, o43_2 P), (50, o50_2 P), (51, o51_2 P), (52, o52_2 P), (55, o55_2 P), (57, o57_2 P), (58, o58_2 P), (60, o60_2 P), (61, o61_2 P), (62, o62_2 P), (64, o64_2 P), (65, o65_2 P), (67, o67_2 P), (68, o68_2 P), (69, o69_3 P), (71, o71_3 P), (72, o72_3 P), (74, o74_3 P), (75, o75_3 P), (76, o76_3 P), (78, o78_3 P), (79, o79_3 P), (81, o81_3 P), (82, o82_3 P), (83, o83_3 P), (85, o85_3 P), (86, o86_3 P), (88, o88_3 P), (89, o89_3 P), (90, o90_3 P), (92, o92_3 P), (93, o93_3 P), (95, o95_3 P), (96, o96_3 P), (97, o97_3 P), (99, o99_3 P), (100, o100_3 P), (102, o102_3 P), (103, o103_3 P), (104, o104_3 P), (106, o106_3 P), (107, o107_3 P), (109, o109_3 P), (110, o110_3 P), (111, o111_3 P), (114, o114_3 P), (115, o115_3 P), (116, o116_3 P), (117, o117_3 P), (119, o119_3 P), (120, o120_3 P), (122, o122_3 P), (123, o123_3 P), (124, o124_3 P), (126, o126_3 P), (127, o127_3 P), (129, o129_3 P), (130, o130_3 P), (131, o131_3 P), (133, o133_3 P), (134, o134_3 P), (136, o136_3 P), (137, o137_3 P), (145, o145_4 P), (147, o147_4 P), (148, o148_4 P), (150, o150_4 P), (151, o151_4 P), (152, o152_4 P), (154, o154_4 P), (155, o155_4 P), (157, o157_4 P), (158, o158_4 P), (159, o159_4 P), (161, o161_4 P), (162, o162_4 P), (164, o164_4 P), (165, o165_4 P), (166, o166_4 P), (167, o167_4 P), (168, o168_4 P), (169, o169_4 P), (170, o170_4 P), (173, o173_4 P), (174, o174_4 P), (176, o176_4 P), (177, o177_4 P), (179, o179_4 P), (180, o180_4 P), (181, o181_4 P), (182, o182_4 P), (184, o184_4 P), (185, o185_4 P), (187, o187_4 P), (188, o188_4 P), (189, o189_4 P), (191, o191_4 P), (192, o192_4 P), (194, o194_4 P), (195, o195_4 P), (196, o196_5 P), (198, o198_5 P), (199, o199_5 P), (201, o201_5 P), (202, o202_5 P), (203, o203_5 P), (205, o205_5 P), (206, o206_5 P), (208, o208_5 P), (209, o209_5 P), (210, o210_5 P), (211, o211_5 P), (213, o213_5 P), (214, o214_5 P), (216, o216_5 P), (217, o217_5 P), (218, o218_5 P), (220, o220_5 P), (221, o221_5 P), (223, o223_5 P), (224, o224_5 P), (232, o232_6 P), (234, o234_6 P), (235, o235_6 P), (237, o237_6 P), (238, o238_6 P), (239, o239_6 P), (241, o241_6 P), (242, o242_6 P), (244, o244_6 P), (245, o245_6 P), (246, o246_6 P), (248, o248_6 P), (249, o249_6 P), (251, o251_6 P), (252, o252_6 P), (253, o253_6 P), (256, o256_6 P), (257, o257_6 P), (258, o258_6 P), (260, o260_6 P), (261, o261_6 P), (263, o263_6 P), (264, o264_6 P), (265, o265_6 P), (266, o266_6 P), (267, o267_6 P), (268, o268_6 P), (269, o269_6 P), (272, o272_6 P), (274, o274_6 P), (275, o275_6 P), (277, o277_6 P), (278, o278_6 P), (279, o279_7 P), (281, o281_7 P), (282, o282_7 P), (284, o284_7 P), (285, o285_7 P), (293, o293_7 P), (295, o295_7 P), (296, o296_7 P), (298, o298_7 P), (299, o299_7 P), (300, o300_7 P), (302, o302_7 P), (303, o303_7 P), (305, o305_7 P), (306, o306_7 P), (307, o307_7 P), (309, o309_7 P), (310, o310_7 P), (312, o312_7 P), (313, o313_7 P), (314, o314_7 P), (316, o316_7 P), (317, o317_7 P), (319, o319_7 P), (320, o320_7 P), (321, o321_7 P), (322, o322_7 P), (323, o323_7 P), (324, o324_7 P), (325, o325_7 P), (328, o328_7 P), (330, o330_7 P), (331, o331_7 P), (333, o333_7 P), (334, o334_7 P), (335, o335_8 P), (336, o336_8 P), (338, o338_8 P), (339, o339_8 P), (341, o341_8 P), (342, o342_8 P), (343, o343_8 P), (346, o346_8 P), (347, o347_8 P), (348, o348_8 P), (350, o350_8 P), (351, o351_8 P), (353, o353_8 P), (354, o354_8 P), (355, o355_8 P), (357, o357_8 P), (358, o358_8 P), (360, o360_8 P), (361, o361_8 P), (362, o362_8 P), (364, o364_8 P), (365, o365_8 P), (367, o367_8 P), (368, o368_8 P), (369, o369_8 P), (371, o371_8 P), (372, o372_8 P), (374, o374_8 P), (375, o375_8 P), (376, o376_8 P), (379, o379_8 P), (380, o380_8 P), (381, o381_8 P), (384, o384_8 P), (385, o385_8 P)]
end Lw.Internal
namespace Lw.Internal
noncomputable def sts (p : Program) (a n : Nat) : List Stmt := ((behindTheImports p).drop a).take n
noncomputable def env0 (p : Program) : Env := { scope := p.main.scope, locals := mainNs, globals := mainNs, cells := [], code := .ref 13, frame := some 14 }
noncomputable def cE (p : Program) : Code := .body (behindTheImports p) (env0 p)
noncomputable def q0 : Pos := ⟨0, 0, 0, 0⟩
noncomputable abbrev aN : Option Value := some (.ref 6)
theorem pc0 (w : World) (os : OsState) : segRunT treeTable PySem.Challenge.pw_on0373_01 w 11 aN 1 277 (s0 w os) (piecesOf (sts PySem.Challenge.pw_on0373_01 0 4) (env0 PySem.Challenge.pw_on0373_01) (cE PySem.Challenge.pw_on0373_01) ⟨0, 0, 0, 0⟩ [topFrame q0]) = some (.next, s1 w os, cE PySem.Challenge.pw_on0373_01, ⟨6, 0, 9, 24⟩) := by
  rw [PW_eq, PySem.W.Fast.te10110043849684766642, PySem.W.Fast.te14364793385576792824]
  kernel_rfl
theorem pc1 (w : World) (os : OsState) : segRunT treeTable PySem.Challenge.pw_on0373_01 w 11 aN 1 372 (s1 w os) (piecesOf (sts PySem.Challenge.pw_on0373_01 4 12) (env0 PySem.Challenge.pw_on0373_01) (cE PySem.Challenge.pw_on0373_01) ⟨6, 0, 9, 24⟩ [topFrame q0]) = some (.next, s2 w os, cE PySem.Challenge.pw_on0373_01, ⟨31, 0, 32, 49⟩) := by
  rw [PW_eq, PySem.W.Fast.te10110043849684766642, PySem.W.Fast.te14364793385576792824]
  kernel_rfl
theorem pc2 (w : World) (os : OsState) : segRunT treeTable PySem.Challenge.pw_on0373_01 w 11 aN 1 333 (s2 w os) (piecesOf (sts PySem.Challenge.pw_on0373_01 16 11) (env0 PySem.Challenge.pw_on0373_01) (cE PySem.Challenge.pw_on0373_01) ⟨31, 0, 32, 49⟩ [topFrame q0]) = some (.next, s3 w os, cE PySem.Challenge.pw_on0373_01, ⟨107, 0, 110, 72⟩) := by
  rw [PW_eq, PySem.W.Fast.te10110043849684766642, PySem.W.Fast.te14364793385576792824]
  kernel_rfl
theorem pc3 (w : World) (os : OsState) : segRunT treeTable PySem.Challenge.pw_on0373_01 w 11 aN 1 394 (s3 w os) (piecesOf (sts PySem.Challenge.pw_on0373_01 27 4) (env0 PySem.Challenge.pw_on0373_01) (cE PySem.Challenge.pw_on0373_01) ⟨107, 0, 110, 72⟩ [topFrame q0]) = some (.next, s4 w os, cE PySem.Challenge.pw_on0373_01, ⟨144, 0, 145, 37⟩) := by
  rw [PW_eq, PySem.W.Fast.te10110043849684766642, PySem.W.Fast.te14364793385576792824]
  kernel_rfl
theorem pc4 (w : World) (os : OsState) : segRunT treeTable PySem.Challenge.pw_on0373_01 w 11 aN 1 156 (s4 w os) (piecesOf (sts PySem.Challenge.pw_on0373_01 31 6) (env0 PySem.Challenge.pw_on0373_01) (cE PySem.Challenge.pw_on0373_01) ⟨144, 0, 145, 37⟩ [topFrame q0]) = some (.next, s5 w os, cE PySem.Challenge.pw_on0373_01, ⟨181, 0, 182, 76⟩) := by
  rw [PW_eq, PySem.W.Fast.te10110043849684766642, PySem.W.Fast.te14364793385576792824]
  kernel_rfl
theorem pc5 (w : World) (os : OsState) : segRunT treeTable PySem.Challenge.pw_on0373_01 w 11 aN 1 399 (s5 w os) (piecesOf (sts PySem.Challenge.pw_on0373_01 37 3) (env0 PySem.Challenge.pw_on0373_01) (cE PySem.Challenge.pw_on0373_01) ⟨181, 0, 182, 76⟩ [topFrame q0]) = some (.next, s6 w os, cE PySem.Challenge.pw_on0373_01, ⟨219, 0, 219, 8⟩) := by
  rw [PW_eq, PySem.W.Fast.te10110043849684766642, PySem.W.Fast.te14364793385576792824]
  kernel_rfl
theorem pc6 (w : World) (os : OsState) : segRunT treeTable PySem.Challenge.pw_on0373_01 w 11 aN 1 392 (s6 w os) (piecesOf (sts PySem.Challenge.pw_on0373_01 40 4) (env0 PySem.Challenge.pw_on0373_01) (cE PySem.Challenge.pw_on0373_01) ⟨219, 0, 219, 8⟩ [topFrame q0]) = some (.next, s7 w os, cE PySem.Challenge.pw_on0373_01, ⟨253, 0, 254, 415⟩) := by
  rw [PW_eq, PySem.W.Fast.te10110043849684766642, PySem.W.Fast.te14364793385576792824]
  kernel_rfl
theorem pc7 (w : World) (os : OsState) : segRunT treeTable PySem.Challenge.pw_on0373_01 w 11 aN 1 266 (s7 w os) (piecesOf (sts PySem.Challenge.pw_on0373_01 44 9) (env0 PySem.Challenge.pw_on0373_01) (cE PySem.Challenge.pw_on0373_01) ⟨253, 0, 254, 415⟩ [topFrame q0]) = some (.next, s8 w os, cE PySem.Challenge.pw_on0373_01, ⟨318, 0, 340, 53⟩) := by
  rw [PW_eq, PySem.W.Fast.te10110043849684766642, PySem.W.Fast.te14364793385576792824]
  kernel_rfl
theorem pre0 (w : World) (os : OsState) : topGo treeTable PySem.Challenge.pw_on0373_01 w 11 aN 12 ⟨boot_heap w.params, #[], boot_drawn, boot_toks, os⟩ (topStub PySem.Challenge.pw_on0373_01) = some ((s0 w os).abs, ⟨denote treeTable (cE PySem.Challenge.pw_on0373_01), cE PySem.Challenge.pw_on0373_01, q0, [topFrame q0]⟩) := by
  rw [PW_eq, PySem.W.Fast.te15667345088766844465, PySem.W.Fast.te14364793385576792824, PySem.W.Fast.te11892475500146522536]
  kernel_rfl
theorem block0 (w : World) (os : OsState) : segRun treeTable PySem.Challenge.pw_on0373_01 w 11 aN 1 1 (s0 w os).abs (blockOf (behindTheImports PySem.Challenge.pw_on0373_01) (env0 PySem.Challenge.pw_on0373_01) (cE PySem.Challenge.pw_on0373_01) q0 [topFrame q0]) = some (.next, (s0 w os).abs, cE PySem.Challenge.pw_on0373_01, q0) := by
  rw [PW_eq, PySem.W.Fast.te14374325043358763698, PySem.W.Fast.te14364793385576792824]
  kernel_rfl
theorem fin0 (w : World) (os : OsState) : topRun treeTable PySem.Challenge.pw_on0373_01 w 11 aN 2 (s8 w os).abs (restOf [] (env0 PySem.Challenge.pw_on0373_01) (cE PySem.Challenge.pw_on0373_01) ⟨318, 0, 340, 53⟩ [topFrame q0]) = some (s8 w os).abs := by
  refine piece_nil ?_
  rw [PW_eq, PySem.W.Fast.te14082659384304107361, PySem.W.Fast.te14364793385576792824]
  kernel_rfl
theorem body0 : behindTheImports PySem.Challenge.pw_on0373_01 = sts PySem.Challenge.pw_on0373_01 0 4 ++ (sts PySem.Challenge.pw_on0373_01 4 12 ++ (sts PySem.Challenge.pw_on0373_01 16 11 ++ (sts PySem.Challenge.pw_on0373_01 27 4 ++ (sts PySem.Challenge.pw_on0373_01 31 6 ++ (sts PySem.Challenge.pw_on0373_01 37 3 ++ (sts PySem.Challenge.pw_on0373_01 40 4 ++ (sts PySem.Challenge.pw_on0373_01 44 9 ++ []))))))) := by
  rw [PW_eq]
  kernel_rfl
theorem run0 (w : World) (os : OsState) : topRun treeTable PySem.Challenge.pw_on0373_01 w 11 aN (12 + (1 + (277 + (372 + (333 + (394 + (156 + (399 + (392 + (266 + 2)))))))))) ⟨boot_heap w.params, #[], boot_drawn, boot_toks, os⟩ (topStub PySem.Challenge.pw_on0373_01) = some (s8 w os).abs := by
  refine go_top (pre0 w os) (piece_block (b := behindTheImports PySem.Challenge.pw_on0373_01) (env := env0 PySem.Challenge.pw_on0373_01) (block0 w os) ?_)
  rw [body0]
  exact (piece_app (segRun_of (pc0 w os)) (piece_app (segRun_of (pc1 w os)) (piece_app (segRun_of (pc2 w os)) (piece_app (segRun_of (pc3 w os)) (piece_app (segRun_of (pc4 w os)) (piece_app (segRun_of (pc5 w os)) (piece_app (segRun_of (pc6 w os)) (piece_app (segRun_of (pc7 w os)) (fin0 w os)))))))))
end Lw.Internal
namespace Lw.Internal
noncomputable def QV : Program := view PySem.Challenge.pw_on0373_01 [52]
noncomputable def QF : Program := view PF [52]
theorem QV_eq : QV = QF := congrArg (fun p => view p [52]) PW_eq
noncomputable def loose0 (p : Program) : List Str := p.boundNames.filter fun x => !(x == (⟨#[108, 97, 119]⟩ : Str))
noncomputable def hk : Hook := kmHook KK KA (fun _ => by kernel_rfl) [112]
theorem size0 (w : World) : ((boot_heap w.params).isNs mainGlobals && (#[] : Array GenState).size == 0, (boot_heap w.params).objs.size, (boot_heap w.params).nsMap mainGlobals "__annotations__") = (true, 11, aN) := by
  rw [PySem.W.Fast.te8920871248978507458]
  kernel_rfl
theorem open0 : ∀ w : World, (fencedOpening treeTable PySem.Challenge.pw_on0373_01 w 3000).map (fun s => (s.heap, s.gens, s.drawn, s.toks)) = some (boot_heap w.params, Array.mk [], boot_drawn, boot_toks) :=
  boot_open (by kernel_rfl) (by rfl) (fun s => by kernel_rfl)
theorem left0 : LeftO PySem.Challenge.pw_on0373_01 QV (loose0 PySem.Challenge.pw_on0373_01) (fun s => xlAt QV [] s && recOk [] s) hk.obs hk.val 3000 := by
  refine LeftO.of_pieces (H₁ := fun P => absHeap (t8 P) 386 lf) (gs₁ := #[]) open0 size0 (fun w os => run0 w os) (by kernel_rfl) (fun w => funext fun os => looks_pair ?_ (looks_pair ?_ ?_))
  · rw [PW_eq, PySem.W.Fast.te5923862056798008813]
    kernel_rfl
  · rw [QV_eq, PW_eq, PySem.W.Fast.te5923862056798008813, PySem.W.Fast.te4187177175401517315]
    kernel_rfl
  · kernel_rfl
end Lw.Internal
namespace Lw.Internal
section
variable {prog : Program} {w : World} {B : Base} {d : Nat} {Γ : Fn} {A : Around} {env : Env} {FA : List Nat} {l l' : List (Option V)} {own own' own'' : Own} {s s' s'' : Shared} {C : Ct} {P : Params}
theorem len1 {α : Type} {xs : List α} (h : xs.length = 1) : ∃ a, xs = [a] := by
  match xs, h with | [a], _ => exact ⟨a, rfl⟩
theorem len2 {α : Type} {xs : List α} (h : xs.length = 2) : ∃ a b, xs = [a, b] := by
  match xs, h with | [a, b], _ => exact ⟨a, b, rfl⟩
theorem len3 {α : Type} {xs : List α} (h : xs.length = 3) : ∃ a b c, xs = [a, b, c] := by
  match xs, h with | [a, b, c], _ => exact ⟨a, b, c, rfl⟩
theorem len4 {α : Type} {xs : List α} (h : xs.length = 4) : ∃ a b c d, xs = [a, b, c, d] := by
  match xs, h with | [a, b, c, d], _ => exact ⟨a, b, c, d, rfl⟩
theorem len5 {α : Type} {xs : List α} (h : xs.length = 5) : ∃ a b c d e, xs = [a, b, c, d, e] := by
  match xs, h with | [a, b, c, d, e], _ => exact ⟨a, b, c, d, e, rfl⟩
noncomputable def fdOf : Option Obj → FuncData
  | some ⟨_, _, .func fd, _⟩ => fd
  | _ => default
noncomputable def fdK (P : Params) (a : Nat) : FuncData := fdOf ((KK P).lookup a)
noncomputable def isFunc : Option Obj → Bool
  | some ⟨_, _, .func _, _⟩ => true
  | _ => false
theorem isFunc_at {o : Option Obj} (h : isFunc o = true) : ∃ oc od osl, o = some ⟨oc, od, .func (fdOf o), osl⟩ := by
  unfold isFunc at h
  split at h
  · exact ⟨_, _, _, rfl⟩
  · cases h
noncomputable def fnGood (K : Frag) (a : Nat) : Bool :=
  isFunc (K.lookup a) && codeIn K (fdOf (K.lookup a)).code (fdOf (K.lookup a)).qualname && Nat.beq (fdOf (K.lookup a)).globals mainGlobals && Nat.beq (fdOf (K.lookup a)).builtins builtinsNs && (fdOf (K.lookup a)).closure.isEmpty &&
    !(fdOf (K.lookup a)).scope.isCoroutine && !(fdOf (K.lookup a)).scope.isGenerator && (match (fdOf (K.lookup a)).scope.kind with | .function => true | _ => false)
theorem defOk_of {a n : Nat} (body : List Stmt) {ps : List Str} {ds : List Value} (hB : B.K = KK P) (h : fnGood (KK P) a = true) (hb : (fdK P a).body = .stmts body)
    (bind : ∀ s : Shared, B.K.In s.heap → ∀ xs : List Value, xs.length = n → BindsTo s (fdK P a) ⟨xs, []⟩ (ps.zip (xs ++ ds))) : DefOk B a (fdK P a) body n ps ds := by
  unfold fnGood at h
  simp only [Bool.and_eq_true, Bool.not_eq_true'] at h
  obtain ⟨⟨⟨⟨⟨⟨⟨h1, h2⟩, h3⟩, h4⟩, h5⟩, h6⟩, h7⟩, h8⟩ := h
  obtain ⟨oc, od, osl, e⟩ := isFunc_at h1
  refine ⟨⟨oc, od, osl, by rw [hB]; exact e⟩, hb, by rw [hB]; exact h2, Nat.eq_of_beq_eq_true h3, Nat.eq_of_beq_eq_true h4, List.isEmpty_iff.mp h5, h6, h7, ?_, bind⟩
  show (fdOf ((KK P).lookup a)).scope.kind = .function
  revert h8
  cases (fdOf ((KK P).lookup a)).scope.kind <;> simp
theorem defOkC_of {a n : Nat} (body : List Stmt) {ps : List Str} (hB : B.K = KK P) (h : fnGood (KK P) a = true) (hb : (fdK P a).body = .stmts body)
    (bind : ∀ xs : List Value, xs.length = n → bindArgs (fdK P a) ⟨xs, []⟩ = pure (ps.zip xs)) : DefOkC B a (fdK P a) body n ps := by
  unfold fnGood at h
  simp only [Bool.and_eq_true, Bool.not_eq_true'] at h
  obtain ⟨⟨⟨⟨⟨⟨⟨h1, h2⟩, h3⟩, h4⟩, h5⟩, h6⟩, h7⟩, h8⟩ := h
  obtain ⟨oc, od, osl, e⟩ := isFunc_at h1
  refine ⟨⟨oc, od, osl, by rw [hB]; exact e⟩, hb, by rw [hB]; exact h2, Nat.eq_of_beq_eq_true h3, Nat.eq_of_beq_eq_true h4, List.isEmpty_iff.mp h5, h6, h7, ?_, bind⟩
  show (fdOf ((KK P).lookup a)).scope.kind = .function
  revert h8
  cases (fdOf ((KK P).lookup a)).scope.kind <;> simp
noncomputable def dflT (P : Params) (a : Nat) : Nat := match (fdK P a).defaults with
  | .ref T => T
  | _ => 0
noncomputable def dflO (P : Params) (a : Nat) : Obj := ((KK P).lookup (dflT P a)).getD default
noncomputable def dflI (P : Params) (a : Nat) : Array Value := match (dflO P a).data with
  | .seq xs _ => xs
  | _ => #[]
noncomputable def eqL (x : List Nat) : List Nat → Bool := Fast.lEq x
theorem eqL_iff {x y : List Nat} : eqL x y = true ↔ x = y := Fast.lEq_iff
noncomputable def eqS (x y : Str) : Bool := eqL x.cps.toList y.cps.toList
theorem eqS_iff {x y : Str} : eqS x y = true ↔ x = y := by
  unfold eqS
  rw [eqL_iff]
  constructor
  · intro h
    cases x; cases y
    simp only [Str.mk.injEq]
    exact Array.toList_inj.mp h
  · rintro rfl; rfl
noncomputable def dbgS : Str := ⟨#[95, 95, 100, 101, 98, 117, 103, 95, 95]⟩
theorem dbgS_eq : dbgS = ("__debug__" : Str) := by decide +kernel
noncomputable def lookK (x : Str) : List (Str × NameKind) → Option NameKind
  | [] => none
  | (y, k) :: r => match eqS x y with
    | true => some k
    | false => lookK x r
theorem lookK_eq (x : Str) : ∀ l, lookK x l = l.lookup x
  | [] => rfl
  | (y, k) :: r => by
    rw [lookK, List.lookup_cons]
    by_cases h : x = y
    · subst h
      rw [eqS_iff.mpr rfl]; simp
    · have : (x == y) = false := by simpa using h
      have h2 : eqS x y = false := by
        cases q : eqS x y with
        | false => rfl
        | true => exact absurd (eqS_iff.mp q) h
      rw [h2, this]; exact lookK_eq x r
noncomputable def memS (x : Str) : List Str → Bool
  | [] => false
  | y :: r => match eqS x y with
    | true => true
    | false => memS x r
theorem memS_iff {x : Str} : ∀ {l}, memS x l = true → x ∈ l
  | [], h => by cases h
  | y :: r, h => by
    rw [memS] at h
    cases q : eqS x y with
    | true => rw [eqS_iff.mp q]; exact List.mem_cons_self
    | false => rw [q] at h; exact List.mem_cons_of_mem _ (memS_iff h)
theorem memS_not {x : Str} : ∀ {l}, memS x l = false → x ∉ l
  | [], _ => by simp
  | y :: r, h => by
    rw [memS] at h
    cases q : eqS x y with
    | true => rw [q] at h; cases h
    | false =>
      rw [q] at h
      have h2 := memS_not h
      intro hm
      rcases List.mem_cons.mp hm with e | e
      · rw [eqS_iff.mpr e] at q; cases q
      · exact h2 e
noncomputable def nodS : List Str → Bool
  | [] => true
  | y :: r => match memS y r with
    | true => false
    | false => nodS r
theorem nodS_nodup : ∀ {l}, nodS l = true → l.Nodup
  | [], _ => List.nodup_nil
  | y :: r, h => by
    rw [nodS] at h
    cases q : memS y r with
    | true => rw [q] at h; cases h
    | false => rw [q] at h; exact List.nodup_cons.mpr ⟨memS_not q, nodS_nodup h⟩
noncomputable def isLoc : Option NameKind → Bool | some .local => true | _ => false
noncomputable def isCell : Option NameKind → Bool | some .cell => true | _ => false
noncomputable def isGlb : Option NameKind → Bool | some .globalImplicit => true | _ => false
theorem isLoc_iff {o : Option NameKind} (h : isLoc o = true) : o = some .local := by unfold isLoc at h; split at h <;> first | rfl | cases h
theorem isCell_iff {o : Option NameKind} (h : isCell o = true) : o = some .cell := by unfold isCell at h; split at h <;> first | rfl | cases h
theorem isGlb_iff {o : Option NameKind} (h : isGlb o = true) : o = some .globalImplicit := by unfold isGlb at h; split at h <;> first | rfl | cases h
noncomputable def eqSs : List Str → List Str → Bool
  | [], [] => true
  | x :: r, y :: t => match eqS x y with
    | true => eqSs r t
    | false => false
  | _, _ => false
theorem eqSs_iff : ∀ {l r}, eqSs l r = true → l = r
  | [], [], _ => rfl
  | x :: r, y :: t, h => by
    have h : (match eqS x y with | true => eqSs r t | false => false) = true := h
    cases q : eqS x y with
    | true => rw [q] at h; rw [eqS_iff.mp q, eqSs_iff h]
    | false => rw [q] at h; cases h
  | [], _ :: _, h => by cases h
  | _ :: _, [], h => by cases h
noncomputable def fnOkB (Γ : Fn) (sc : Scope) (ps : List Str) : Bool :=
  Γ.loc.all (fun q => !q.2 && isLoc (lookK q.1 sc.names)) && nodS (Γ.loc.map (·.1)) && Γ.glb.all (fun x => isGlb (lookK x sc.names)) && sc.names.all (fun x => !(isCell (some x.2))) && ps.all (fun x => isLoc (lookK x sc.names)) && eqSs ((Γ.loc.map (·.1)).take ps.length) ps
theorem fnOk_of {Γ : Fn} {sc : Scope} {ps : List Str} (h : fnOkB Γ sc ps = true) : FnOk Γ sc ps := by
  unfold fnOkB at h
  simp only [Bool.and_eq_true, List.all_eq_true, Bool.not_eq_true'] at h
  obtain ⟨⟨⟨⟨⟨h1, h2⟩, h3⟩, h4⟩, h5⟩, h6⟩ := h
  exact ⟨fun x b hx => ⟨(h1 _ hx).1, by rw [← lookK_eq]; exact isLoc_iff (h1 _ hx).2⟩, nodS_nodup h2, fun x hx => by rw [← lookK_eq]; exact isGlb_iff (h3 x hx),
    fun x hx e => (by have := h4 x hx; rw [e] at this; cases this), fun x hx => by rw [← lookK_eq]; exact isLoc_iff (h5 x hx), eqSs_iff h6⟩
noncomputable def fnOkCB (Γ : Fn) (sc : Scope) (ps : List Str) : Bool :=
  Γ.loc.all (fun q => match q.2 with | true => isCell (lookK q.1 sc.names) | false => isLoc (lookK q.1 sc.names)) && nodS (Γ.loc.map (·.1)) && Γ.glb.all (fun x => isGlb (lookK x sc.names)) && eqSs ((Γ.loc.map (·.1)).take ps.length) ps
theorem fnOkC_of {Γ : Fn} {sc : Scope} {ps : List Str} (h : fnOkCB Γ sc ps = true) : FnOkC Γ sc ps := by
  unfold fnOkCB at h
  simp only [Bool.and_eq_true, List.all_eq_true] at h
  obtain ⟨⟨⟨h1, h2⟩, h3⟩, h4⟩ := h
  refine ⟨fun x hx => ?_, nodS_nodup h2, fun x hx => by rw [← lookK_eq]; exact isGlb_iff (h3 x hx), eqSs_iff h4⟩
  have := h1 x hx
  rw [← lookK_eq]
  cases q : x.2 with
  | true => rw [q] at this; exact isCell_iff this
  | false => rw [q] at this; exact isLoc_iff this
noncomputable def isRefTo (a : Nat) : Option (Option Value) → Bool
  | some (some (.ref b)) => Nat.beq b a
  | _ => false
theorem isRefTo_iff {a : Nat} {o : Option (Option Value)} (h : isRefTo a o = true) : o = some (some (.ref a)) := by
  unfold isRefTo at h
  split at h
  · rw [Nat.eq_of_beq_eq_true h]
  · cases h
noncomputable def gTok (K : Frag) (l : List (Str × Nat)) : Bool := l.all fun q => !(eqS q.1 dbgS) && isRefTo q.2 (nsIn K mainGlobals q.1) && keepIn K (.ref q.2)
end
end Lw.Internal
namespace Lw.Internal
section
variable {P : Params}
noncomputable def y0 : PySem.Str := ⟨#[108, 101, 110]⟩
noncomputable def y1 : PySem.Str := ⟨#[115, 111, 114, 116, 101, 100]⟩
noncomputable def y2 : PySem.Str := ⟨#[114, 97, 110, 103, 101]⟩
noncomputable def y3 : PySem.Str := ⟨#[109, 97, 120]⟩
noncomputable def y4 : PySem.Str := ⟨#[108, 105, 115, 116]⟩
noncomputable def y5 : PySem.Str := ⟨#[105, 115, 105, 110, 115, 116, 97, 110, 99, 101]⟩
noncomputable def y6 : PySem.Str := ⟨#[98, 111, 111, 108]⟩
noncomputable def y7 : PySem.Str := ⟨#[101, 110, 117, 109, 101, 114, 97, 116, 101]⟩
noncomputable def y8 : PySem.Str := ⟨#[115, 99, 114, 105, 112, 116]⟩
noncomputable def y9 : PySem.Str := ⟨#[97, 112, 97, 114, 116]⟩
noncomputable def y10 : PySem.Str := ⟨#[103, 114, 111, 117, 112, 115]⟩
noncomputable def y11 : PySem.Str := ⟨#[105, 115, 95, 102, 114, 101, 101]⟩
noncomputable def y12 : PySem.Str := ⟨#[119, 104, 111, 108, 101]⟩
noncomputable def y13 : PySem.Str := ⟨#[108, 101, 116, 116, 101, 114]⟩
noncomputable def y14 : PySem.Str := ⟨#[109, 97, 114, 107, 115]⟩
noncomputable def y15 : PySem.Str := ⟨#[97, 110, 121]⟩
noncomputable def y16 : PySem.Str := ⟨#[119, 97, 115]⟩
noncomputable def y17 : PySem.Str := ⟨#[109, 97, 112, 112, 101, 100]⟩
noncomputable def y18 : PySem.Str := ⟨#[105, 115, 95, 98, 97, 100]⟩
noncomputable def y19 : PySem.Str := ⟨#[100, 117, 101]⟩
noncomputable def y20 : PySem.Str := ⟨#[102, 97, 117, 108, 116, 115, 95, 116, 111, 108, 100]⟩
noncomputable def y21 : PySem.Str := ⟨#[97, 103, 97, 105, 110]⟩
noncomputable def G_place_by_half : Fn := ⟨[(z40, false), (z41, false), (z42, false), (z43, false), (z44, false)], [y0], false, none⟩
theorem D_place_by_half {B : Base} (hB : B.K = KK P) : DefOk B 61 (fdK P 61) (fB (st 5)) 2 [z40, z41] [] := defOk_of (fB (st 5)) hB (by kernel_rfl) (by kernel_rfl) fun s hs xs h => BindsTo.of_eq (by
  obtain ⟨x0, x1, rfl⟩ := len2 h; kernel_rfl)
theorem F_place_by_half : FnOk G_place_by_half (fdK P 61).scope [z40, z41] := fnOk_of (by kernel_rfl)
noncomputable def G_is_hangul_syllable : Fn := ⟨[(z45, false)], [z31, z38], false, none⟩
theorem D_is_hangul_syllable {B : Base} (hB : B.K = KK P) : DefOk B 68 (fdK P 68) (fB (st 15)) 1 [z45] [] := defOk_of (fB (st 15)) hB (by kernel_rfl) (by kernel_rfl) fun s hs xs h => BindsTo.of_eq (by
  obtain ⟨x0, rfl⟩ := len1 h; kernel_rfl)
theorem F_is_hangul_syllable : FnOk G_is_hangul_syllable (fdK P 68).scope [z45] := fnOk_of (by kernel_rfl)
noncomputable def G_hangul_parts : Fn := ⟨[(z45, false), (z57, false), (z58, false), (z59, false)], [z39, z47, z32, z33, z34], false, none⟩
theorem D_hangul_parts {B : Base} (hB : B.K = KK P) : DefOk B 82 (fdK P 82) (fB (st 17)) 1 [z45] [] := defOk_of (fB (st 17)) hB (by kernel_rfl) (by kernel_rfl) fun s hs xs h => BindsTo.of_eq (by
  obtain ⟨x0, rfl⟩ := len1 h; kernel_rfl)
theorem F_hangul_parts : FnOk G_hangul_parts (fdK P 82).scope [z45] := fnOk_of (by kernel_rfl)
noncomputable def G_hangul_pair : Fn := ⟨[(z60, false), (z61, false), (z57, false), (z58, false)], [z32, z33, z35, z36, z31, z37, z39, z34], false, none⟩
theorem D_hangul_pair {B : Base} (hB : B.K = KK P) : DefOk B 89 (fdK P 89) (fB (st 18)) 2 [z60, z61] [] := defOk_of (fB (st 18)) hB (by kernel_rfl) (by kernel_rfl) fun s hs xs h => BindsTo.of_eq (by
  obtain ⟨x0, x1, rfl⟩ := len2 h; kernel_rfl)
theorem F_hangul_pair : FnOk G_hangul_pair (fdK P 89).scope [z60, z61] := fnOk_of (by kernel_rfl)
noncomputable def G_form_mapping : Fn := ⟨[(z45, false), (z62, false), (z63, false), (z64, false), (z25, false)], [z48], false, none⟩
theorem D_form_mapping {B : Base} (hB : B.K = KK P) : DefOk B 96 (fdK P 96) (fB (st 20)) 3 [z45, z62, z63] [] := defOk_of (fB (st 20)) hB (by kernel_rfl) (by kernel_rfl) fun s hs xs h => BindsTo.of_eq (by
  obtain ⟨x0, x1, x2, rfl⟩ := len3 h; kernel_rfl)
theorem F_form_mapping : FnOk G_form_mapping (fdK P 96).scope [z45, z62, z63] := fnOk_of (by kernel_rfl)
noncomputable def G_form_expanded : Fn := ⟨[(z45, false), (z62, false), (z63, false), (z65, false), (z66, false), (z67, false), (z68, false), (z64, false), (z69, false)], [z50, z29], false, none⟩
theorem D_form_expanded {B : Base} (hB : B.K = KK P) : DefOk B 103 (fdK P 103) (fB (st 21)) 3 [z45, z62, z63] [] := defOk_of (fB (st 21)) hB (by kernel_rfl) (by kernel_rfl) fun s hs xs h => BindsTo.of_eq (by
  obtain ⟨x0, x1, x2, rfl⟩ := len3 h; kernel_rfl)
theorem F_form_expanded : FnOk G_form_expanded (fdK P 103).scope [z45, z62, z63] := fnOk_of (by kernel_rfl)
noncomputable def G_ordered : Fn := ⟨[(z70, false), (z62, false), (z65, false), (z71, false), (z45, false), (z72, false)], [z53], false, none⟩
theorem D_ordered {B : Base} (hB : B.K = KK P) : DefOk B 110 (fdK P 110) (fB (st 22)) 2 [z70, z62] [] := defOk_of (fB (st 22)) hB (by kernel_rfl) (by kernel_rfl) fun s hs xs h => BindsTo.of_eq (by
  obtain ⟨x0, x1, rfl⟩ := len2 h; kernel_rfl)
theorem F_ordered : FnOk G_ordered (fdK P 110).scope [z70, z62] := fnOk_of (by kernel_rfl)
noncomputable def G_form_sorted : Fn := ⟨[(z71, false)], [y1], false, some (.ref 114, ⟨#[102, 111, 114, 109, 95, 115, 111, 114, 116, 101, 100, 46, 60, 108, 111, 99, 97, 108, 115, 62, 46]⟩)⟩
theorem D_form_sorted {B : Base} (hB : B.K = KK P) : DefOk B 115 (fdK P 115) (fB (st 23)) 1 [z71] [] := defOk_of (fB (st 23)) hB (by kernel_rfl) (by kernel_rfl) fun s hs xs h => BindsTo.of_eq (by
  obtain ⟨x0, rfl⟩ := len1 h; kernel_rfl)
theorem F_form_sorted : FnOk G_form_sorted (fdK P 115).scope [z71] := fnOk_of (by kernel_rfl)
noncomputable def G_decomposed : Fn := ⟨[(z70, false), (z62, false), (z63, false), (z65, false), (z45, false)], [z51, z52], false, none⟩
theorem D_decomposed_all {B : Base} (hB : B.K = KK P) : DefOk B 123 (fdK P 123) (fB (st 24)) 3 [z70, z62, z63] [] := defOk_of (fB (st 24)) hB (by kernel_rfl) (by kernel_rfl) fun s hs xs h => by
  obtain ⟨x0, x1, x2, rfl⟩ := len3 h; exact binds_K (hB ▸ hs) (T := dflT P 123) (o := dflO P 123) (items := dflI P 123) (n := 0) (by kernel_rfl) (by kernel_rfl) (by kernel_rfl) rfl (by kernel_rfl)
theorem F_decomposed : FnOk G_decomposed (fdK P 123).scope [z70, z62, z63] := fnOk_of (by kernel_rfl)
noncomputable def G_primary_composites : Fn := ⟨[(z62, false), (z65, false), (z73, false), (z74, false), (z25, false), (z45, false)], [y0, y2, z56], false, none⟩
theorem D_primary_composites {B : Base} (hB : B.K = KK P) : DefOk B 130 (fdK P 130) (fB (st 25)) 1 [z62] [] := defOk_of (fB (st 25)) hB (by kernel_rfl) (by kernel_rfl) fun s hs xs h => BindsTo.of_eq (by
  obtain ⟨x0, rfl⟩ := len1 h; kernel_rfl)
theorem F_primary_composites : FnOk G_primary_composites (fdK P 130).scope [z62] := fnOk_of (by kernel_rfl)
noncomputable def G_form_is_primary : Fn := ⟨[(z45, false), (z64, false), (z62, false)], [z48], false, none⟩
theorem D_form_is_primary {B : Base} (hB : B.K = KK P) : DefOk B 137 (fdK P 137) (fB (st 26)) 3 [z45, z64, z62] [] := defOk_of (fB (st 26)) hB (by kernel_rfl) (by kernel_rfl) fun s hs xs h => BindsTo.of_eq (by
  obtain ⟨x0, x1, x2, rfl⟩ := len3 h; kernel_rfl)
theorem F_form_is_primary : FnOk G_form_is_primary (fdK P 137).scope [z45, z64, z62] := fnOk_of (by kernel_rfl)
noncomputable def G_Composer_init : Fn := ⟨[(z24, false), (z62, false), (z60, false), (z61, false)], [z55], false, none⟩
theorem D_Composer_init {B : Base} (hB : B.K = KK P) : DefOk B 151 (fdK P 151) (fB (st2 27 0)) 2 [z24, z62] [] := defOk_of (fB (st2 27 0)) hB (by kernel_rfl) (by kernel_rfl) fun s hs xs h => BindsTo.of_eq (by
  obtain ⟨x0, x1, rfl⟩ := len2 h; kernel_rfl)
theorem F_Composer_init : FnOk G_Composer_init (fdK P 151).scope [z24, z62] := fnOk_of (by kernel_rfl)
noncomputable def G_Composer_pair : Fn := ⟨[(z24, false), (z60, false), (z61, false), (z65, false)], [z49], false, none⟩
theorem D_Composer_pair {B : Base} (hB : B.K = KK P) : DefOk B 158 (fdK P 158) (fB (st2 27 1)) 3 [z24, z60, z61] [] := defOk_of (fB (st2 27 1)) hB (by kernel_rfl) (by kernel_rfl) fun s hs xs h => BindsTo.of_eq (by
  obtain ⟨x0, x1, x2, rfl⟩ := len3 h; kernel_rfl)
theorem F_Composer_pair : FnOk G_Composer_pair (fdK P 158).scope [z24, z60, z61] := fnOk_of (by kernel_rfl)
noncomputable def G_composed : Fn := ⟨[(z70, false), (z62, false), (z87, false), (z65, false), (z88, false), (z89, false), (z45, false), (z72, false), (z79, false)], [z75, y0, y3], false, none⟩
theorem D_composed_all {B : Base} (hB : B.K = KK P) : DefOk B 180 (fdK P 180) (fB (st 28)) 3 [z70, z62, z87] [] := defOk_of (fB (st 28)) hB (by kernel_rfl) (by kernel_rfl) fun s hs xs h => by
  obtain ⟨x0, x1, x2, rfl⟩ := len3 h; exact binds_K (hB ▸ hs) (T := dflT P 180) (o := dflO P 180) (items := dflI P 180) (n := 0) (by kernel_rfl) (by kernel_rfl) (by kernel_rfl) rfl (by kernel_rfl)
theorem F_composed : FnOk G_composed (fdK P 180).scope [z70, z62, z87] := fnOk_of (by kernel_rfl)
noncomputable def G_form_of : Fn := ⟨[(z70, false), (z62, false), (z90, false), (z87, false), (z65, false)], [z54, z76], false, none⟩
theorem D_form_of {B : Base} (hB : B.K = KK P) : DefOk B 188 (fdK P 188) (fB (st 29)) 3 [z70, z62, z90, z87] [.none] := defOk_of (fB (st 29)) hB (by kernel_rfl) (by kernel_rfl) fun s hs xs h => by
  obtain ⟨x0, x1, x2, rfl⟩ := len3 h; exact binds_K (hB ▸ hs) (T := dflT P 188) (o := dflO P 188) (items := dflI P 188) (n := 0) (by kernel_rfl) (by kernel_rfl) (by kernel_rfl) rfl (by kernel_rfl)
theorem F_form_of : FnOk G_form_of (fdK P 188).scope [z70, z62, z90, z87] := fnOk_of (by kernel_rfl)
noncomputable def G_nfc : Fn := ⟨[(z70, false), (z62, false)], [z77], false, none⟩
theorem D_nfc {B : Base} (hB : B.K = KK P) : DefOk B 195 (fdK P 195) (fB (st 30)) 2 [z70, z62] [] := defOk_of (fB (st 30)) hB (by kernel_rfl) (by kernel_rfl) fun s hs xs h => BindsTo.of_eq (by
  obtain ⟨x0, x1, rfl⟩ := len2 h; kernel_rfl)
theorem F_nfc : FnOk G_nfc (fdK P 195).scope [z70, z62] := fnOk_of (by kernel_rfl)
noncomputable def G_idna_status : Fn := ⟨[(z45, false), (z62, false), (z96, false), (z97, false), (z25, false)], [], false, none⟩
theorem D_idna_status {B : Base} (hB : B.K = KK P) : DefOk B 202 (fdK P 202) (fB (st 32)) 3 [z45, z62, z96] [] := defOk_of (fB (st 32)) hB (by kernel_rfl) (by kernel_rfl) fun s hs xs h => BindsTo.of_eq (by
  obtain ⟨x0, x1, x2, rfl⟩ := len3 h; kernel_rfl)
theorem F_idna_status : FnOk G_idna_status (fdK P 202).scope [z45, z62, z96] := fnOk_of (by kernel_rfl)
noncomputable def G_idna_mapped : Fn := ⟨[(z45, false), (z62, false), (z99, false), (z96, false), (z97, false), (z25, false), (z65, false), (z61, false), (z100, false)], [z92, y4], false, none⟩
theorem D_idna_mapped {B : Base} (hB : B.K = KK P) : DefOk B 209 (fdK P 209) (fB (st 33)) 4 [z45, z62, z99, z96] [] := defOk_of (fB (st 33)) hB (by kernel_rfl) (by kernel_rfl) fun s hs xs h => BindsTo.of_eq (by
  obtain ⟨x0, x1, x2, x3, rfl⟩ := len4 h; kernel_rfl)
theorem F_idna_mapped : FnOk G_idna_mapped (fdK P 209).scope [z45, z62, z99, z96] := fnOk_of (by kernel_rfl)
noncomputable def G_map_label : Fn := ⟨[(z70, false), (z62, false), (z99, false), (z96, false), (z65, false), (z101, false), (z45, false), (z25, false)], [z93, z78], false, none⟩
theorem D_map_label_all {B : Base} (hB : B.K = KK P) : DefOk B 217 (fdK P 217) (fB (st 34)) 4 [z70, z62, z99, z96] [] := defOk_of (fB (st 34)) hB (by kernel_rfl) (by kernel_rfl) fun s hs xs h => by
  obtain ⟨x0, x1, x2, x3, rfl⟩ := len4 h; exact binds_K (hB ▸ hs) (T := dflT P 217) (o := dflO P 217) (items := dflI P 217) (n := 0) (by kernel_rfl) (by kernel_rfl) (by kernel_rfl) rfl (by kernel_rfl)
theorem F_map_label : FnOk G_map_label (fdK P 217).scope [z70, z62, z99, z96] := fnOk_of (by kernel_rfl)
noncomputable def G_range_are_like : Fn := ⟨[(z60, false), (z61, false)], [y5, y6], false, none⟩
theorem D_range_are_like {B : Base} (hB : B.K = KK P) : DefOk B 224 (fdK P 224) (fB (st 36)) 2 [z60, z61] [] := defOk_of (fB (st 36)) hB (by kernel_rfl) (by kernel_rfl) fun s hs xs h => BindsTo.of_eq (by
  obtain ⟨x0, x1, rfl⟩ := len2 h; kernel_rfl)
theorem F_range_are_like : FnOk G_range_are_like (fdK P 224).scope [z60, z61] := fnOk_of (by kernel_rfl)
noncomputable def G_RangeMap_init : Fn := ⟨[(z24, false), (z109, false)], [], false, none⟩
theorem D_RangeMap_init {B : Base} (hB : B.K = KK P) : DefOk B 238 (fdK P 238) (fB (st2 37 0)) 2 [z24, z109] [] := defOk_of (fB (st2 37 0)) hB (by kernel_rfl) (by kernel_rfl) fun s hs xs h => BindsTo.of_eq (by
  obtain ⟨x0, x1, rfl⟩ := len2 h; kernel_rfl)
theorem F_RangeMap_init : FnOk G_RangeMap_init (fdK P 238).scope [z24, z109] := fnOk_of (by kernel_rfl)
noncomputable def G_RangeMap_get : Fn := ⟨[(z24, false), (z45, false)], [z30], false, none⟩
theorem D_RangeMap_get {B : Base} (hB : B.K = KK P) : DefOk B 245 (fdK P 245) (fB (st2 37 1)) 2 [z24, z45] [] := defOk_of (fB (st2 37 1)) hB (by kernel_rfl) (by kernel_rfl) fun s hs xs h => BindsTo.of_eq (by
  obtain ⟨x0, x1, rfl⟩ := len2 h; kernel_rfl)
theorem F_RangeMap_get : FnOk G_RangeMap_get (fdK P 245).scope [z24, z45] := fnOk_of (by kernel_rfl)
noncomputable def G_RangeMap_put : Fn := ⟨[(z24, false), (z73, false), (z74, false), (z112, false), (z42, false), (z43, false), (z113, false), (z114, false), (z115, false)], [z30, z16, z95], false, none⟩
theorem D_RangeMap_put {B : Base} (hB : B.K = KK P) : DefOk B 252 (fdK P 252) (fB (st2 37 2)) 4 [z24, z73, z74, z112] [] := defOk_of (fB (st2 37 2)) hB (by kernel_rfl) (by kernel_rfl) fun s hs xs h => BindsTo.of_eq (by
  obtain ⟨x0, x1, x2, x3, rfl⟩ := len4 h; kernel_rfl)
theorem F_RangeMap_put : FnOk G_RangeMap_put (fdK P 252).scope [z24, z73, z74, z112] := fnOk_of (by kernel_rfl)
noncomputable def G_RangeMap_ranges : Fn := ⟨[(z24, true)], [z104], false, none⟩
theorem D_RangeMap_ranges {B : Base} (hB : B.K = KK P) : DefOkC B 257 (fdK P 257) (fB (st2 37 3)) 1 [z24] := defOkC_of (fB (st2 37 3)) hB (by kernel_rfl) (by kernel_rfl) fun xs h => by
  obtain ⟨x0, rfl⟩ := len1 h; kernel_rfl
theorem F_RangeMap_ranges : FnOkC G_RangeMap_ranges (fdK P 257).scope [z24] := fnOkC_of (by kernel_rfl)
noncomputable def G_range_rows : Fn := ⟨[(z119, false), (z114, false), (z65, false), (z120, false), (z112, false), (z74, false)], [y7, y0, z16], false, none⟩
theorem D_range_rows {B : Base} (hB : B.K = KK P) : DefOk B 278 (fdK P 278) (fB (st 38)) 1 [z119] [] := defOk_of (fB (st 38)) hB (by kernel_rfl) (by kernel_rfl) fun s hs xs h => BindsTo.of_eq (by
  obtain ⟨x0, rfl⟩ := len1 h; kernel_rfl)
theorem F_range_rows : FnOk G_range_rows (fdK P 278).scope [z119] := fnOk_of (by kernel_rfl)
noncomputable def G_data_defaults : Fn := ⟨[(z65, false), (z125, false)], [], false, none⟩
theorem D_data_defaults {B : Base} (hB : B.K = KK P) : DefOk B 285 (fdK P 285) (fB (st 40)) 0 [] [] := defOk_of (fB (st 40)) hB (by kernel_rfl) (by kernel_rfl) fun s hs xs h => BindsTo.of_eq (by
  obtain rfl := List.length_eq_zero_iff.mp h; kernel_rfl)
theorem F_data_defaults : FnOk G_data_defaults (fdK P 285).scope [] := fnOk_of (by kernel_rfl)
noncomputable def G_Data_init : Fn := ⟨[(z24, false)], [z122], false, none⟩
theorem D_Data_init {B : Base} (hB : B.K = KK P) : DefOk B 299 (fdK P 299) (fB (st2 41 0)) 1 [z24] [] := defOk_of (fB (st2 41 0)) hB (by kernel_rfl) (by kernel_rfl) fun s hs xs h => BindsTo.of_eq (by
  obtain ⟨x0, rfl⟩ := len1 h; kernel_rfl)
theorem F_Data_init : FnOk G_Data_init (fdK P 299).scope [z24] := fnOk_of (by kernel_rfl)
noncomputable def G_Data_put : Fn := ⟨[(z24, false), (z125, false), (z73, false), (z74, false), (z112, false)], [], false, none⟩
theorem D_Data_put {B : Base} (hB : B.K = KK P) : DefOk B 306 (fdK P 306) (fB (st2 41 1)) 5 [z24, z125, z73, z74, z112] [] := defOk_of (fB (st2 41 1)) hB (by kernel_rfl) (by kernel_rfl) fun s hs xs h => BindsTo.of_eq (by
  obtain ⟨x0, x1, x2, x3, x4, rfl⟩ := len5 h; kernel_rfl)
theorem F_Data_put : FnOk G_Data_put (fdK P 306).scope [z24, z125, z73, z74, z112] := fnOk_of (by kernel_rfl)
noncomputable def G_Data_get : Fn := ⟨[(z24, false), (z125, false), (z45, false)], [], false, none⟩
theorem D_Data_get {B : Base} (hB : B.K = KK P) : DefOk B 313 (fdK P 313) (fB (st2 41 2)) 3 [z24, z125, z45] [] := defOk_of (fB (st2 41 2)) hB (by kernel_rfl) (by kernel_rfl) fun s hs xs h => BindsTo.of_eq (by
  obtain ⟨x0, x1, x2, rfl⟩ := len3 h; kernel_rfl)
theorem F_Data_get : FnOk G_Data_get (fdK P 313).scope [z24, z125, z45] := fnOk_of (by kernel_rfl)
noncomputable def G_Data_map_of : Fn := ⟨[(z24, false), (z125, false)], [z103], false, none⟩
theorem D_Data_map_of {B : Base} (hB : B.K = KK P) : DefOk B 320 (fdK P 320) (fB (st2 41 3)) 2 [z24, z125] [] := defOk_of (fB (st2 41 3)) hB (by kernel_rfl) (by kernel_rfl) fun s hs xs h => BindsTo.of_eq (by
  obtain ⟨x0, x1, rfl⟩ := len2 h; kernel_rfl)
theorem F_Data_map_of : FnOk G_Data_map_of (fdK P 320).scope [z24, z125] := fnOk_of (by kernel_rfl)
noncomputable def G_law_statuses : Fn := ⟨[], [], false, none⟩
theorem D_law_statuses {B : Base} (hB : B.K = KK P) : DefOk B 334 (fdK P 334) (fB (st 43)) 0 [] [] := defOk_of (fB (st 43)) hB (by kernel_rfl) (by kernel_rfl) fun s hs xs h => BindsTo.of_eq (by
  obtain rfl := List.length_eq_zero_iff.mp h; kernel_rfl)
theorem F_law_statuses : FnOk G_law_statuses (fdK P 334).scope [] := fnOk_of (by kernel_rfl)
noncomputable def G_law_classes : Fn := ⟨[], [], false, none⟩
theorem D_law_classes {B : Base} (hB : B.K = KK P) : DefOk B 342 (fdK P 342) (fB (st 45)) 0 [] [] := defOk_of (fB (st 45)) hB (by kernel_rfl) (by kernel_rfl) fun s hs xs h => BindsTo.of_eq (by
  obtain rfl := List.length_eq_zero_iff.mp h; kernel_rfl)
theorem F_law_classes : FnOk G_law_classes (fdK P 342).scope [] := fnOk_of (by kernel_rfl)
noncomputable def G_law_deck : Fn := ⟨[(y8, false)], [], false, none⟩
theorem D_law_deck {B : Base} (hB : B.K = KK P) : DefOk B 347 (fdK P 347) (fB (st 46)) 1 [y8] [] := defOk_of (fB (st 46)) hB (by kernel_rfl) (by kernel_rfl) fun s hs xs h => BindsTo.of_eq (by
  obtain ⟨x0, rfl⟩ := len1 h; kernel_rfl)
theorem F_law_deck : FnOk G_law_deck (fdK P 347).scope [y8] := fnOk_of (by kernel_rfl)
noncomputable def G_law_draw : Fn := ⟨[(z143, false), (z144, false), (z120, false), (z145, false)], [y0], false, none⟩
theorem D_law_draw {B : Base} (hB : B.K = KK P) : DefOk B 354 (fdK P 354) (fB (st 47)) 2 [z143, z144] [] := defOk_of (fB (st 47)) hB (by kernel_rfl) (by kernel_rfl) fun s hs xs h => BindsTo.of_eq (by
  obtain ⟨x0, x1, rfl⟩ := len2 h; kernel_rfl)
theorem F_law_draw : FnOk G_law_draw (fdK P 354).scope [z143, z144] := fnOk_of (by kernel_rfl)
noncomputable def G_law_data : Fn := ⟨[(z64, false), (z146, false), (z45, false)], [z123, z124, z135], false, none⟩
theorem D_law_data {B : Base} (hB : B.K = KK P) : DefOk B 361 (fdK P 361) (fB (st 48)) 1 [z64] [] := defOk_of (fB (st 48)) hB (by kernel_rfl) (by kernel_rfl) fun s hs xs h => BindsTo.of_eq (by
  obtain ⟨x0, rfl⟩ := len1 h; kernel_rfl)
theorem F_law_data : FnOk G_law_data (fdK P 361).scope [z64] := fnOk_of (by kernel_rfl)
noncomputable def G_law_one : Fn := ⟨[(z45, false), (z147, false), (z148, false), (z97, false), (z149, false), (z65, false), (z61, false), (z150, false)], [z124, y4], false, none⟩
theorem D_law_one {B : Base} (hB : B.K = KK P) : DefOk B 368 (fdK P 368) (fB (st 49)) 3 [z45, z147, z148] [] := defOk_of (fB (st 49)) hB (by kernel_rfl) (by kernel_rfl) fun s hs xs h => BindsTo.of_eq (by
  obtain ⟨x0, x1, x2, rfl⟩ := len3 h; kernel_rfl)
theorem F_law_one : FnOk G_law_one (fdK P 368).scope [z45, z147, z148] := fnOk_of (by kernel_rfl)
noncomputable def G_law_ordered : Fn := ⟨[(z151, false), (z65, false), (z45, false), (z120, false), (z152, false)], [y0, z135], false, none⟩
theorem D_law_ordered {B : Base} (hB : B.K = KK P) : DefOk B 375 (fdK P 375) (fB (st 50)) 1 [z151] [] := defOk_of (fB (st 50)) hB (by kernel_rfl) (by kernel_rfl) fun s hs xs h => BindsTo.of_eq (by
  obtain ⟨x0, rfl⟩ := len1 h; kernel_rfl)
theorem F_law_ordered : FnOk G_law_ordered (fdK P 375).scope [z151] := fnOk_of (by kernel_rfl)
noncomputable def G_law_composed : Fn := ⟨[(z151, false), (z64, true), (y9, false), (z45, true), (y10, false), (z152, true), (z74, true), (y11, false), (y12, false), (z65, false), (y13, false), (y14, false)], [y4, z140, z135, y15], false, none⟩
theorem D_law_composed {B : Base} (hB : B.K = KK P) : DefOkC B 380 (fdK P 380) (fB (st 51)) 2 [z151, z64] := defOkC_of (fB (st 51)) hB (by kernel_rfl) (by kernel_rfl) fun xs h => by
  obtain ⟨x0, x1, rfl⟩ := len2 h; kernel_rfl
theorem F_law_composed : FnOkC G_law_composed (fdK P 380).scope [z151, z64] := fnOkC_of (by kernel_rfl)
noncomputable def G_law : Fn := ⟨[(y8, false), (z143, true), (z147, false), (z148, false), (z64, false), (z146, false), (z151, false), (y16, false), (y17, false), (y18, false), (z45, false), (z25, false), (y19, false), (z70, false), (y20, false), (y21, false), (z100, false)], [z136, z137, z138, y2, y4, z93, z139, z141, z94], false, none⟩
theorem D_law {B : Base} (hB : B.K = KK P) : DefOkC B 385 (fdK P 385) (fB (st 52)) 1 [y8] := defOkC_of (fB (st 52)) hB (by kernel_rfl) (by kernel_rfl) fun xs h => by
  obtain ⟨x0, rfl⟩ := len1 h; kernel_rfl
theorem F_law : FnOkC G_law (fdK P 385).scope [y8] := fnOkC_of (by kernel_rfl)
noncomputable def gT : List (Str × Nat) := [(z15, 21), (z30, 61), (z39, 68), (z47, 75), (z48, 82), (z49, 89), (z50, 96), (z51, 103), (z52, 110), (z53, 115), (z54, 123), (z55, 130), (z56, 137), (z76, 180), (z77, 188), (z78, 195), (z92, 202), (z93, 209), (z94, 217), (z95, 224), (z104, 278), (z122, 285), (z124, 334), (z135, 342), (z136, 347), (z137, 354), (z138, 361), (z139, 368), (z140, 375), (z141, 380), (z142, 385), (z17, 39), (z29, 52), (z75, 168), (z103, 267), (z123, 323)]
theorem gT_ok : gTok (KK P) gT = true := by kernel_rfl
noncomputable def mT : List (Nat × Str × Nat) := [(39, z22, 36), (168, z22, 151), (168, z79, 158), (168, z80, 165), (267, z22, 238), (267, z105, 245), (267, z106, 252), (267, z107, 257), (267, z108, 264), (323, z22, 299), (323, z106, 306), (323, z105, 313), (323, z126, 320)]
noncomputable def iT : List (Str × Int) := [(z16, 1114111), (z31, 44032), (z32, 4352), (z33, 4449), (z34, 4519), (z35, 19), (z36, 21), (z37, 28), (z38, 11172)]
end
end Lw.Internal
namespace Lw.Internal
section
variable {prog : Program} {w : World} {B : Base} {d : Nat} {Γ : Fn} {A : Around} {env : Env} {FA : List Nat} {l l' : List (Option V)} {own own' own'' : Own} {s s' s'' : Shared} {C : Ct} {P : Params}
noncomputable def nameS : Str := ⟨#[95, 95, 110, 97, 109, 101, 95, 95]⟩
noncomputable def intS : Str := ⟨#[105, 110, 116]⟩
noncomputable def findLoc (x : Str) : List (Str × Bool) → List (Option V) → Option V
  | q :: g, o :: l => match eqS x q.1 with
    | true => o
    | false => findLoc x g l
  | _, _ => none
theorem findLoc_spec {x : Str} {v : V} : ∀ {g : List (Str × Bool)} {l : List (Option V)}, findLoc x g l = some v → ∃ (i : Nat) (b : Bool), g[i]? = some (x, b) ∧ l[i]? = some (some v)
  | [], _, h => by simp [findLoc] at h
  | _ :: _, [], h => by simp [findLoc] at h
  | (y, b) :: g, o :: l, h => by
    rw [findLoc] at h
    cases q : eqS x y with
    | true =>
      simp only [q] at h
      rw [eqS_iff.mp q]
      exact ⟨0, b, rfl, by rw [h]; rfl⟩
    | false =>
      simp only [q] at h
      obtain ⟨i, b', e1, e2⟩ := findLoc_spec h
      exact ⟨i + 1, b', e1, e2⟩
theorem notDbg {x : Str} (h : eqS x dbgS = false) : (x == ("__debug__" : Str)) = false := by
  rw [← dbgS_eq]
  have : x ≠ dbgS := fun e => by rw [eqS_iff.mpr e] at h; cases h
  simpa using this
theorem TE.locf {x : Str} {pos : Pos} {v : V} {Q : V → Own → Prop} (hv : findLoc x Γ.loc l = some v) (hd : eqS x dbgS = false) (h : Q v own) : TE prog w B d Γ (.Name x pos) l own Q := by
  obtain ⟨i, b, e1, e2⟩ := findLoc_spec hv
  exact TE.loc e1 (notDbg hd) e2 h
noncomputable def findAt (x : Str) : List (Str × Bool) → Nat → Option (Nat × Bool)
  | [], _ => none
  | q :: g, n => match eqS x q.1 with
    | true => some (n, q.2)
    | false => findAt x g (n + 1)
theorem findAt_spec {x : Str} {i : Nat} {b : Bool} : ∀ {g : List (Str × Bool)} {n : Nat}, findAt x g n = some (i, b) → n ≤ i ∧ g[i - n]? = some (x, b) := by
  intro g
  induction g with
  | nil => intro n h; simp [findAt] at h
  | cons q g ih =>
    intro n h
    obtain ⟨y, c⟩ := q
    rw [findAt] at h
    cases q : eqS x y with
    | true =>
      simp only [q] at h
      cases h
      rw [eqS_iff.mp q]; simp
    | false =>
      simp only [q] at h
      obtain ⟨h1, h2⟩ := ih h
      refine ⟨by omega, ?_⟩
      rw [show i - n = (i - (n + 1)) + 1 by omega]
      simpa using h2
noncomputable def thenS (prog : Program) (w : World) (B : Base) (d : Nat) (Γ : Fn) (ss : List Stmt) (Q : Fl → List (Option V) → Own → Prop) : Fl → List (Option V) → Own → Prop := fun f l own => match f with
  | .next => TS prog w B d Γ ss l own Q
  | .brk => Q .brk l own
  | .cont => Q .cont l own
  | .ret v => Q (.ret v) l own
theorem thenS.next {ss : List Stmt} {Q : Fl → List (Option V) → Own → Prop} (h : TS prog w B d Γ ss l own Q) : thenS prog w B d Γ ss Q .next l own := h
theorem thenS.ret {ss : List Stmt} {v : V} {Q : Fl → List (Option V) → Own → Prop} (h : Q (.ret v) l own) : thenS prog w B d Γ ss Q (.ret v) l own := h
theorem thenS.cont {ss : List Stmt} {Q : Fl → List (Option V) → Own → Prop} (h : Q .cont l own) : thenS prog w B d Γ ss Q .cont l own := h
theorem TX.mono {st : Stmt} {Q Q' : Fl → List (Option V) → Own → Prop} (h : TX prog w B d Γ st l own Q) (k : ∀ f l o, Q f l o → Q' f l o) : TX prog w B d Γ st l own Q' :=
  fun A env FA s N R E p => h A env FA s N R E fun f x l' o' s' q => p f x l' o' s' (k f l' o' q)
theorem TS.conss {st : Stmt} {ss : List Stmt} {Q : Fl → List (Option V) → Own → Prop} (h : TX prog w B d Γ st l own (thenS prog w B d Γ ss Q)) : TS prog w B d Γ (st :: ss) l own Q :=
  TS.cons (h.mono fun f l o q => by cases f <;> exact q)
theorem TS.assignf {x : Str} {i : Nat} {b : Bool} {e : Expr} {np pos : Pos} {ss : List Stmt} {Q : Fl → List (Option V) → Own → Prop} (hi : findAt x Γ.loc 0 = some (i, b)) (hl : Nat.blt i l.length = true) (hb : (b && Γ.ro) = false)
    (hs : ∀ env FA, Cx Γ env FA → swapsWith e (some (.Name x np)) pos.line env = pure false)
    (h : TE prog w B d Γ e l own (fun v own₁ => TS prog w B d Γ ss (l.set i (some v)) own₁ Q)) : TS prog w B d Γ (.Assign [.Name x np] e pos :: ss) l own Q :=
  TS.conss (TX.assign (findAt_spec hi).2 (Nat.le_of_ble_eq_true hl) (fun q => by subst q; simpa using hb) hs h)
theorem TS.exprf {e : Expr} {pos : Pos} {ss : List Stmt} {Q : Fl → List (Option V) → Own → Prop} (hs : ∀ env : Env, swapsWith e none pos.line env = pure false)
    (h : TE prog w B d Γ e l own (fun _ own₁ => TS prog w B d Γ ss l own₁ Q)) : TS prog w B d Γ (.Expr e pos :: ss) l own Q :=
  TS.conss (TX.expr h hs)
theorem TS.retf {e : Expr} {pos : Pos} {ss : List Stmt} {Q : Fl → List (Option V) → Own → Prop} (h : TE prog w B d Γ e l own (fun v own₁ => Q (.ret v) l own₁)) : TS prog w B d Γ (.Return (some e) pos :: ss) l own Q :=
  TS.conss (TX.ret h)
theorem TS.contf {pos : Pos} {ss : List Stmt} {Q : Fl → List (Option V) → Own → Prop} (h : Q .cont l own) : TS prog w B d Γ (.Continue pos :: ss) l own Q :=
  TS.conss (TX.cont h)
theorem TT.mono {t : Expr} {Q Q2 : Bool → Own → Prop} (h : TT prog w B d Γ t l own Q) (k : ∀ v o, Q v o → Q2 v o) : TT prog w B d Γ t l own Q2 :=
  fun A env FA s N Q' E p => h A env FA s N Q' E fun v o s' q => p v o s' (k v o q)
theorem TE.mono {t : Expr} {Q Q2 : V → Own → Prop} (h : TE prog w B d Γ t l own Q) (k : ∀ v o, Q v o → Q2 v o) : TE prog w B d Γ t l own Q2 :=
  fun A env FA s N Q' E p => h A env FA s N Q' E fun v x o s' q => p v x o s' (k v o q)
theorem TS.mono {ss : List Stmt} {Q Q2 : Fl → List (Option V) → Own → Prop} (h : TS prog w B d Γ ss l own Q) (k : ∀ f l o, Q f l o → Q2 f l o) : TS prog w B d Γ ss l own Q2 :=
  fun A env FA s N R E p => h A env FA s N R E fun f x l' o' s' q => p f x l' o' s' (k f l' o' q)
theorem TS.iff {t : Expr} {a b : List Stmt} {pos : Pos} {ss : List Stmt} {Q : Fl → List (Option V) → Own → Prop} (h : TT prog w B d Γ t l own (fun c own₁ => (c = true → TS prog w B d Γ a l own₁ (thenS prog w B d Γ ss Q)) ∧ (c = false → TS prog w B d Γ b l own₁ (thenS prog w B d Γ ss Q)))) :
    TS prog w B d Γ (.If t a b pos :: ss) l own Q :=
  TS.conss (TX.if_ (h.mono fun c o q => by
    cases c with
    | true => exact q.1 rfl
    | false => exact q.2 rfl))
theorem TT.andf {e : Expr} {es : List Expr} {pos : Pos} {Q : Bool → Own → Prop} (h : TT prog w B d Γ e l own (fun b own' => (b = true → TT prog w B d Γ (.BoolOp .And es pos) l own' Q) ∧ (b = false → Q false own'))) : TT prog w B d Γ (.BoolOp .And (e :: es) pos) l own Q :=
  TT.and (h.mono fun c o q => by
    cases c with
    | true => exact q.1 rfl
    | false => exact q.2 rfl)
theorem TT.orf {e : Expr} {es : List Expr} {pos : Pos} {Q : Bool → Own → Prop} (h : TT prog w B d Γ e l own (fun b own' => (b = true → Q true own') ∧ (b = false → TT prog w B d Γ (.BoolOp .Or es pos) l own' Q))) : TT prog w B d Γ (.BoolOp .Or (e :: es) pos) l own Q :=
  TT.or (h.mono fun c o q => by
    cases c with
    | true => exact q.1 rfl
    | false => exact q.2 rfl)
theorem TE.ifef {t a b : Expr} {pos : Pos} {Q : V → Own → Prop} (h : TT prog w B d Γ t l own (fun c own₁ => (c = true → TE prog w B d Γ a l own₁ Q) ∧ (c = false → TE prog w B d Γ b l own₁ Q))) : TE prog w B d Γ (.IfExp t a b pos) l own Q :=
  TE.ife (h.mono fun c o q => by
    cases c with
    | true => exact q.1 rfl
    | false => exact q.2 rfl)
theorem TE.negc {i : Int} {k : Nat} {p1 pos : Pos} {Q : V → Own → Prop} (h : Q (.int (-i)) own) : TE prog w B d Γ (.UnaryOp .USub (.Constant (.int i) k p1) pos) l own Q := TE.neg (TE.int h)
theorem TE.orb {e e2 : Expr} {pos : Pos} {Q : V → Own → Prop} (h : TE prog w B d Γ e l own (fun v own₁ => ∃ b, v = .bool b ∧ (b = true → Q (.bool true) own₁) ∧ (b = false → TE prog w B d Γ e2 l own₁ Q))) : TE prog w B d Γ (.BoolOp .Or [e, e2] pos) l own Q :=
  TE.boolop (TBo.or (h.mono fun v o q => by
    obtain ⟨b, rfl, q1, q2⟩ := q
    refine T1B.bool ?_
    cases b with
    | true => exact q1 rfl
    | false => exact TBo.one (q2 rfl)))
theorem TE.andb {e e2 : Expr} {pos : Pos} {Q : V → Own → Prop} (h : TE prog w B d Γ e l own (fun v own₁ => ∃ b, v = .bool b ∧ (b = false → Q (.bool false) own₁) ∧ (b = true → TE prog w B d Γ e2 l own₁ Q))) : TE prog w B d Γ (.BoolOp .And [e, e2] pos) l own Q :=
  TE.boolop (TBo.and (h.mono fun v o q => by
    obtain ⟨b, rfl, q1, q2⟩ := q
    refine T1B.bool ?_
    cases b with
    | false => exact q1 rfl
    | true => exact TBo.one (q2 rfl)))
structure FlowK (N C : List (Option V) → Own → Prop) (R : V → List (Option V) → Own → Prop) (K : Fl → List (Option V) → Own → Prop) : Prop where
  nx : ∀ l o, N l o → K .next l o
  ct : ∀ l o, C l o → K .cont l o
  rt : ∀ v l o, R v l o → K (.ret v) l o
theorem FlowK.next {N C : List (Option V) → Own → Prop} {R : V → List (Option V) → Own → Prop} {K : Fl → List (Option V) → Own → Prop} (h : FlowK N C R K) (k : N l own) : K .next l own := h.nx _ _ k
theorem FlowK.cont {N C : List (Option V) → Own → Prop} {R : V → List (Option V) → Own → Prop} {K : Fl → List (Option V) → Own → Prop} (h : FlowK N C R K) (k : C l own) : K .cont l own := h.ct _ _ k
theorem FlowK.ret {N C : List (Option V) → Own → Prop} {R : V → List (Option V) → Own → Prop} {K : Fl → List (Option V) → Own → Prop} {v : V} (h : FlowK N C R K) (k : R v l own) : K (.ret v) l own := h.rt _ _ _ k
theorem TX.whilef {t : Expr} {body : List Stmt} {pos : Pos} {Q : Fl → List (Option V) → Own → Prop} (I : Nat → List (Option V) → Own → Prop)
    (step : ∀ n l own, I n l own → TT prog w B d Γ t l own (fun b own₁ => (b = false → Q .next l own₁) ∧ (b = true → ∀ K, FlowK (fun l o => ∃ m, m < n ∧ I m l o) (fun l o => ∃ m, m < n ∧ I m l o) (fun v => Q (.ret v)) K → TS prog w B d Γ body l own₁ K))) (n : Nat) (h : I n l own) : TX prog w B d Γ (.While t body [] pos) l own Q :=
  TX.while_ I (fun n l own h => (step n l own h).mono fun b o q => by
    cases b with
    | false => exact q.1 rfl
    | true => exact q.2 rfl _ ⟨fun _ _ h => h, fun _ _ h => h, fun _ _ _ h => h⟩) n h
noncomputable def findG (x : Str) : List (Str × Nat) → Option Nat
  | [] => none
  | (y, c) :: g => match eqS x y with
    | true => some c
    | false => findG x g
theorem findG_spec {x : Str} {a : Nat} : ∀ {g : List (Str × Nat)}, findG x g = some a → (x, a) ∈ g
  | [], h => by simp [findG] at h
  | (y, c) :: g, h => by
    rw [findG] at h
    cases q : eqS x y with
    | true =>
      simp only [q] at h
      cases h
      rw [eqS_iff.mp q]; exact List.mem_cons_self
    | false =>
      simp only [q] at h
      exact List.mem_cons_of_mem _ (findG_spec h)
theorem gT_at {x : Str} {a : Nat} (hB : B.K = KK P) (h : findG x gT = some a) : (x == ("__debug__" : Str)) = false ∧ nsIn B.K mainGlobals x = some (some (.ref a)) ∧ keepIn B.K (.ref a) = true := by
  have h2 : gTok (KK P) gT = true := gT_ok
  unfold gTok at h2
  have := List.all_eq_true.mp h2 _ (findG_spec h)
  simp only [Bool.and_eq_true, Bool.not_eq_true'] at this
  obtain ⟨⟨h3, h4⟩, h5⟩ := this
  rw [hB]
  exact ⟨notDbg h3, isRefTo_iff h4, h5⟩
theorem TE.callf {x : Str} {np pos : Pos} {a : Nat} {e0 : Expr} {es : List Expr} {Q : V → Own → Prop} (hB : B.K = KK P) (ha : findG x gT = some a) (hx : memS x Γ.glb = true) (hs : noStar (e0 :: es) = true)
    (h : TA prog w B d Γ (e0 :: es) l own (fun vs own₁ => TC prog w B d (.ref a) vs own₁ Q)) : TE prog w B d Γ (.Call (.Name x np) (e0 :: es) [] pos) l own Q :=
  TE.call (memS_iff hx) (gT_at hB ha).1 (gT_at hB ha).2.1 (gT_at hB ha).2.2 hs h
theorem TE.callf0 {x : Str} {np pos : Pos} {a : Nat} {Q : V → Own → Prop} (hB : B.K = KK P) (ha : findG x gT = some a) (hx : memS x Γ.glb = true)
    (h : TC prog w B d (.ref a) [] own Q) : TE prog w B d Γ (.Call (.Name x np) [] [] pos) l own Q :=
  TE.call0 (memS_iff hx) (gT_at hB ha).1 (gT_at hB ha).2.1 (gT_at hB ha).2.2 h
noncomputable def isIntAt : Option (Option Value) → Option Int
  | some (some (.int i _)) => some i
  | _ => none
theorem isIntAt_iff {o : Option (Option Value)} {i : Int} (h : isIntAt o = some i) : ∃ t, o = some (some (.int i t)) := by
  unfold isIntAt at h
  split at h
  · cases h; exact ⟨_, rfl⟩
  · cases h
noncomputable def findI (x : Str) : List (Str × Int) → Option Int
  | [] => none
  | (y, c) :: g => match eqS x y with
    | true => some c
    | false => findI x g
theorem findI_spec {x : Str} {a : Int} : ∀ {g : List (Str × Int)}, findI x g = some a → (x, a) ∈ g
  | [], h => by simp [findI] at h
  | (y, c) :: g, h => by
    rw [findI] at h
    cases q : eqS x y with
    | true =>
      simp only [q] at h
      cases h
      rw [eqS_iff.mp q]; exact List.mem_cons_self
    | false =>
      simp only [q] at h
      exact List.mem_cons_of_mem _ (findI_spec h)
noncomputable def iTok (K : Frag) (l : List (Str × Int)) : Bool := l.all fun q => !(eqS q.1 dbgS) && (match isIntAt (nsIn K mainGlobals q.1) with | some i => decide (i = q.2) | none => false)
theorem iT_ok : iTok (KK P) iT = true := by kernel_rfl
theorem TE.globi {x : Str} {pos : Pos} {i : Int} {Q : V → Own → Prop} (hB : B.K = KK P) (ha : findI x iT = some i) (hx : memS x Γ.glb = true) (h : Q (.int i) own) : TE prog w B d Γ (.Name x pos) l own Q := by
  have h2 : iTok (KK P) iT = true := iT_ok
  unfold iTok at h2
  have := List.all_eq_true.mp h2 _ (findI_spec ha)
  simp only [Bool.and_eq_true, Bool.not_eq_true'] at this
  obtain ⟨h3, h4⟩ := this
  cases q : isIntAt (nsIn (KK P) mainGlobals x) with
  | none => rw [q] at h4; cases h4
  | some j =>
    rw [q] at h4
    have : j = i := of_decide_eq_true h4
    subst this
    obtain ⟨t, e⟩ := isIntAt_iff q
    exact TE.glob (v := .int j) (xv := .int j t) (memS_iff hx) (notDbg h3) (by rw [hB]; exact e) (fun h' => ⟨t, rfl⟩) h
structure BName (P : Params) (x : Str) (v : Value) : Prop where
  hd : eqS x dbgS = false
  en : nsIn (KK P) mainGlobals x = some none
  hv : bootBuiltins x = some v
  hn : eqS x nameS = false
theorem nameS_eq : nameS = ("__name__" : Str) := by decide +kernel
theorem BName.ne {x : Str} {v : Value} (h : BName P x v) : x ≠ ("__name__" : Str) := by
  rw [← nameS_eq]
  intro e
  have := h.hn
  rw [eqS_iff.mpr e] at this; cases this
theorem bn_len : BName P y0 (.builtin "len") := ⟨by kernel_rfl, by kernel_rfl, by kernel_rfl, by kernel_rfl⟩
theorem bn_sorted : BName P y1 (.builtin "sorted") := ⟨by kernel_rfl, by kernel_rfl, by kernel_rfl, by kernel_rfl⟩
theorem bn_range : BName P y2 (.type "range") := ⟨by kernel_rfl, by kernel_rfl, by kernel_rfl, by kernel_rfl⟩
theorem bn_max : BName P y3 (.builtin "max") := ⟨by kernel_rfl, by kernel_rfl, by kernel_rfl, by kernel_rfl⟩
theorem bn_list : BName P y4 (.type "list") := ⟨by kernel_rfl, by kernel_rfl, by kernel_rfl, by kernel_rfl⟩
theorem bn_isinstance : BName P y5 (.builtin "isinstance") := ⟨by kernel_rfl, by kernel_rfl, by kernel_rfl, by kernel_rfl⟩
theorem bn_bool : BName P y6 (.type "bool") := ⟨by kernel_rfl, by kernel_rfl, by kernel_rfl, by kernel_rfl⟩
theorem bn_enumerate : BName P y7 (.type "enumerate") := ⟨by kernel_rfl, by kernel_rfl, by kernel_rfl, by kernel_rfl⟩
theorem bn_any : BName P y15 (.builtin "any") := ⟨by kernel_rfl, by kernel_rfl, by kernel_rfl, by kernel_rfl⟩
theorem bn_int : BName P intS (.type "int") := ⟨by kernel_rfl, by kernel_rfl, by kernel_rfl, by kernel_rfl⟩
theorem TE.bcallf {x : Str} {np pos : Pos} {id : String} {e0 : Expr} {es : List Expr} {y : Str} {Q : V → Own → Prop} (hB : B.K = KK P) (b : BName P y (.builtin id)) (e : eqS x y = true) (hx : memS x Γ.glb = true) (hs : noStar (e0 :: es) = true)
    (h : TA prog w B d Γ (e0 :: es) l own (fun vs own₁ => TN prog w B (fun xs => PySem.call (.builtin id) xs) vs own₁ Q)) : TE prog w B d Γ (.Call (.Name x np) (e0 :: es) [] pos) l own Q := by
  have e := eqS_iff.mp e
  subst e
  exact TE.bcall (memS_iff hx) (notDbg b.hd) (by rw [hB]; exact b.en) b.hv b.ne hs h
theorem TE.tcallf {x : Str} {np pos : Pos} {id : String} {e0 : Expr} {es : List Expr} {y : Str} {Q : V → Own → Prop} (hB : B.K = KK P) (b : BName P y (.type id)) (e : eqS x y = true) (hx : memS x Γ.glb = true) (hs : noStar (e0 :: es) = true)
    (h : TA prog w B d Γ (e0 :: es) l own (fun vs own₁ => TN prog w B (fun xs => PySem.call (.type id) xs) vs own₁ Q)) : TE prog w B d Γ (.Call (.Name x np) (e0 :: es) [] pos) l own Q := by
  have e := eqS_iff.mp e
  subst e
  exact TE.tcall (memS_iff hx) (notDbg b.hd) (by rw [hB]; exact b.en) b.hv b.ne hs h
theorem TE.methf {o : Expr} {name nm : Str} {apos pos : Pos} {e0 : Expr} {es : List Expr} {T id : String} {Q : V → Own → Prop} (pa : PlainAttrs T) (slot : Slot T nm id) (hty : typeOf (.builtin id) = pure (.type "method_descriptor")) (e : eqS name nm = true)
    (hb : PlainBase o name) (hs : noStar (e0 :: es) = true) (hn : Nat.blt (e0 :: es).length 30 = true) (hl : (apos.endLine == pos.line) = true)
    (h : TE prog w B d Γ o l own (fun x own₁ => HasT own₁ T x ∧ TA prog w B d Γ (e0 :: es) l own₁ (fun vs own₂ => TN prog w B (fun xs => PySem.call (.builtin id) xs) (x :: vs) own₂ Q))) :
    TE prog w B d Γ (.Call (.Attribute o name apos) (e0 :: es) [] pos) l own Q := by
  have e := eqS_iff.mp e
  subst e
  exact TE.method hb hs (Nat.le_of_ble_eq_true hn) hl pa slot hty h
theorem TE.methf0 {o : Expr} {name nm : Str} {apos pos : Pos} {T id : String} {Q : V → Own → Prop} (pa : PlainAttrs T) (slot : Slot T nm id) (hty : typeOf (.builtin id) = pure (.type "method_descriptor")) (e : eqS name nm = true)
    (hb : PlainBase o name) (hl : (apos.endLine == pos.line) = true)
    (h : TE prog w B d Γ o l own (fun x own₁ => HasT own₁ T x ∧ TN prog w B (fun xs => PySem.call (.builtin id) xs) [x] own₁ Q)) :
    TE prog w B d Γ (.Call (.Attribute o name apos) [] [] pos) l own Q := by
  have e := eqS_iff.mp e
  subst e
  exact TE.method0 hb hl pa slot hty h
noncomputable def mAppend : Str := ⟨#[97, 112, 112, 101, 110, 100]⟩
noncomputable def mExtend : Str := ⟨#[101, 120, 116, 101, 110, 100]⟩
noncomputable def mInsert : Str := ⟨#[105, 110, 115, 101, 114, 116]⟩
noncomputable def mPop : Str := ⟨#[112, 111, 112]⟩
noncomputable def mGet : Str := ⟨#[103, 101, 116]⟩
theorem sl_append : Slot "list" mAppend "list.append" := (show mAppend = ("append" : Str) by decide +kernel) ▸ PySem.F.slot_list_append
theorem sl_extend : Slot "list" mExtend "list.extend" := (show mExtend = ("extend" : Str) by decide +kernel) ▸ PySem.F.slot_list_extend
theorem sl_insert : Slot "list" mInsert "list.insert" := (show mInsert = ("insert" : Str) by decide +kernel) ▸ PySem.F.slot_list_insert
theorem sl_pop : Slot "list" mPop "list.pop" := (show mPop = ("pop" : Str) by decide +kernel) ▸ PySem.F.slot_list_pop
theorem sl_get : Slot "dict" mGet "dict.get" := (show mGet = ("get" : Str) by decide +kernel) ▸ PySem.F.slot_dict_get
noncomputable def Sub (own own' : Own) : Prop := ∀ a o, own a = some o → own' a = some o
noncomputable def Fresh (own : Own) (a : Nat) : Prop := own a = none
theorem Sub.refl {own : Own} : Sub own own := fun _ _ h => h
theorem Sub.trans {o1 o2 o3 : Own} (h : Sub o1 o2) (k : Sub o2 o3) : Sub o1 o3 := fun a o e => k a o (h a o e)
theorem Sub.trans' {o1 o2 o3 : Own} (k : Sub o2 o3) (h : Sub o1 o2) : Sub o1 o3 := h.trans k
theorem Sub.put {own₀ own : Own} {a : Nat} {o : O} (h : Sub own₀ own) (n : Fresh own₀ a) : Sub own₀ (own.put a o) := fun b ob e => by
  have : b ≠ a := fun q => by
    have n : own₀ a = none := n
    rw [q, n] at e; cases e
  rw [Own.put_ne _ _ this]; exact h b ob e
theorem Sub.none {own own' : Own} {a : Nat} (n : Fresh own' a) (h : Sub own own') : Fresh own a := by
  have n : own' a = .none := n
  show own a = _
  cases q : own a with
  | none => rfl
  | some o => rw [h a o q] at n; cases n
theorem Sub.alloc {own₀ own : Own} {a : Nat} {o : O} (n : Fresh own a) (h : Sub own₀ own) : Sub own₀ (own.put a o) := h.put (Sub.none n h)
theorem Sub.get {own own' : Own} {a : Nat} {o : O} (h : Sub own own') (e : own a = some o) : own' a = some o := h a o e
theorem ne_base {own : Own} {a b : Nat} {o : O} (hb : Fresh own b) (ha : own a = some o) : a ≠ b := fun q => by
  have hb : own b = .none := hb
  rw [q, hb] at ha; cases ha
theorem put_none {own : Own} {a b : Nat} {o : O} (hb : Fresh own b) (n : b ≠ a) : Fresh (own.put a o) b := by
  show own.put a o b = none
  rw [Own.put_ne _ _ n]; exact hb
theorem put_keep {own : Own} {a b : Nat} {o x : O} (ha : Fresh own a) (hb : own b = some x) : own.put a o b = some x := by
  rw [Own.put_ne _ _ (ne_base ha hb)]; exact hb
theorem ne_base2 {own : Own} {a b : Nat} {o : O} (hb : Fresh own b) (ha : own a = some o) : b ≠ a := (ne_base hb ha).symm
theorem put_ne2 {own : Own} {a b : Nat} {o : O} {x : Option O} (h : b ≠ a) (e : own b = x) : own.put a o b = x := (Own.put_ne own o h).trans e
noncomputable def Gr (own own' : Own) : Prop := ∀ a o, own a = some o → ∃ o', own' a = some o'
theorem Gr.refl {own : Own} : Gr own own := fun _ o h => ⟨o, h⟩
theorem Gr.of_sub {own own' : Own} (h : Sub own own') : Gr own own' := fun a o e => ⟨o, h a o e⟩
theorem Gr.put {own₀ own : Own} {a : Nat} {o : O} (h : Gr own₀ own) : Gr own₀ (own.put a o) := fun b ob e => by
  by_cases q : b = a
  · exact ⟨o, by rw [q, Own.put_self]⟩
  · rw [Own.put_ne _ _ q]; exact h b ob e
theorem Gr.trans' {o1 o2 o3 : Own} (k : Gr o2 o3) (h : Gr o1 o2) : Gr o1 o3 := fun a o e => by
  obtain ⟨x, e⟩ := h a o e
  exact k a x e
theorem Gr.trans2 {o1 o2 o3 : Own} (k : Sub o2 o3) (h : Gr o1 o2) : Gr o1 o3 := Gr.trans' (Gr.of_sub k) h
theorem Gr.none {own own' : Own} {a : Nat} (n : Fresh own' a) (h : Gr own own') : Fresh own a := by
  have n : own' a = .none := n
  show own a = _
  cases q : own a with
  | none => rfl
  | some o => obtain ⟨o', e⟩ := h a o q; rw [e] at n; cases n
end
end Lw.Internal
namespace Lw.Internal
section
variable {prog : Program} {w : World} {B : Base} {d : Nat} {Γ : Fn} {A : Around} {env : Env} {FA : List Nat} {l l' : List (Option V)} {own own' own'' : Own} {s s' s'' : Shared} {C : Ct} {P : Params}
theorem eqS_false {x y : Str} (h : eqS x y = false) : x ≠ y := fun e => by rw [eqS_iff.mpr e] at h; cases h
noncomputable def lookA (x : Str) : List (Str × V) → Option V
  | [] => none
  | q :: r => match eqS x q.1 with
    | true => some q.2
    | false => lookA x r
theorem lookA_eq (x : Str) : ∀ kvs : List (Str × V), lookA x kvs = kvs.lookup x
  | [] => rfl
  | (y, v) :: r => by
    rw [lookA, List.lookup_cons]
    cases q : eqS x y with
    | true => rw [eqS_iff.mp q]; simp
    | false =>
      have : (x == y) = false := by simpa using eqS_false q
      rw [this]; exact lookA_eq x r
noncomputable def aputS (x : Str) (v : V) : List (Str × V) → List (Str × V)
  | [] => [(x, v)]
  | q :: r => match eqS q.1 x with
    | true => (q.1, v) :: r
    | false => q :: aputS x v r
theorem aputS_eq (x : Str) (v : V) : ∀ kvs : List (Str × V), aputS x v kvs = aput x v kvs
  | [] => rfl
  | (y, u) :: r => by
    rw [aputS, aput]
    cases q : eqS y x with
    | true => rw [eqS_iff.mp q]; simp
    | false =>
      have : (y == x) = false := by simpa using eqS_false q
      rw [this, aputS_eq x v r]; rfl
noncomputable def isBi (s : String) : Option (Option Value) → Bool
  | some (some (.builtin t)) => t == s
  | _ => false
theorem isBi_iff {s : String} {o : Option (Option Value)} (h : isBi s o = true) : o = some (some (.builtin s)) := by
  unfold isBi at h
  split at h
  · rw [beq_iff_eq.mp h]
  · cases h
noncomputable def okCls (K : Frag) (c : Nat) : Bool := plainGet K c ⟨#[]⟩ && hasDictIn K c && isBi "object.__setattr__" (findIn K (.ref c) "__setattr__") && plainOver K c && (clsIn K c).any (·.hasDict)
theorem okCls_iff {c : Nat} (hB : B.K = KK P) (h : okCls (KK P) c = true) : ClsOk B c := by
  unfold okCls at h
  simp only [Bool.and_eq_true] at h
  obtain ⟨⟨⟨⟨h1, h2⟩, h3⟩, h4⟩, h5⟩ := h
  exact ⟨fun _ => by rw [hB]; exact h1, by rw [hB]; exact h2, by rw [hB]; exact isBi_iff h3, by rw [hB]; exact h4, by rw [hB]; exact h5⟩
noncomputable def AttrOf (P : Params) (name : Str) (x : V) (own : Own) (Q : V → Prop) : Prop :=
  ∃ a c da kvs v, x = .obj a ∧ own a = some (.inst c da) ∧ own da = some (.dicta kvs) ∧ okCls (KK P) c = true ∧ findIn (KK P) (.ref c) name = some none ∧ lookA name kvs = some v ∧ Q v
theorem AttrOf.mk {name : Str} {a c da : Nat} {kvs : List (Str × V)} {v : V} {Q : V → Prop} (h1 : own a = some (.inst c da)) (h2 : own da = some (.dicta kvs)) (h3 : okCls (KK P) c = true) (h4 : findIn (KK P) (.ref c) name = some none) (h5 : lookA name kvs = some v) (h : Q v) : AttrOf P name (.obj a) own Q :=
  ⟨a, c, da, kvs, v, rfl, h1, h2, h3, h4, h5, h⟩
theorem TE.attrf {o : Expr} {name : Str} {pos : Pos} {Q : V → Own → Prop} (hB : B.K = KK P) (hb : PlainBase o name) (h : TE prog w B d Γ o l own (fun x own₁ => AttrOf P name x own₁ (fun v => Q v own₁))) : TE prog w B d Γ (.Attribute o name pos) l own Q :=
  TE.attr hb (h.mono fun x o q => by
    obtain ⟨a, c, da, kvs, v, rfl, h1, h2, h3, h4, h5, q⟩ := q
    exact T1A.ofOwn (okCls_iff hB h3) ⟨h1, h2⟩ (by rw [hB]; exact h4) (by rw [← lookA_eq]; exact h5) q)
noncomputable def findM (c : Nat) (x : Str) : List (Nat × Str × Nat) → Option Nat
  | [] => none
  | q :: r => match Nat.beq c q.1 with
    | true => (match eqS x q.2.1 with
      | true => some q.2.2
      | false => findM c x r)
    | false => findM c x r
theorem findM_spec {c f : Nat} {x : Str} : ∀ {g : List (Nat × Str × Nat)}, findM c x g = some f → (c, x, f) ∈ g
  | [], h => by simp [findM] at h
  | (c', y, f') :: g, h => by
    rw [findM] at h
    cases q : Nat.beq c c' with
    | true =>
      cases q2 : eqS x y with
      | true =>
        simp only [q, q2] at h
        cases h
        rw [eqS_iff.mp q2, Nat.eq_of_beq_eq_true q]; exact List.mem_cons_self
      | false =>
        simp only [q, q2] at h
        exact List.mem_cons_of_mem _ (findM_spec h)
    | false =>
      simp only [q] at h
      exact List.mem_cons_of_mem _ (findM_spec h)
noncomputable def mTok (K : Frag) (l : List (Nat × Str × Nat)) : Bool := l.all fun q => isRefTo q.2.2 (findIn K (.ref q.1) q.2.1) && isFn K (.ref q.2.2) && keepIn K (.ref q.2.2)
theorem mT_ok : mTok (KK P) mT = true := by kernel_rfl
noncomputable def MethOf (P : Params) (name : Str) (x : V) (own : Own) (Q : Nat → Prop) : Prop :=
  ∃ a c da kvs f, x = .obj a ∧ own a = some (.inst c da) ∧ own da = some (.dicta kvs) ∧ okCls (KK P) c = true ∧ findM c name mT = some f ∧ lookA name kvs = none ∧ Q f
theorem MethOf.mk {name : Str} {a c da f : Nat} {kvs : List (Str × V)} {Q : Nat → Prop} (h1 : own a = some (.inst c da)) (h2 : own da = some (.dicta kvs)) (h3 : okCls (KK P) c = true) (h4 : findM c name mT = some f) (h5 : lookA name kvs = none) (h : Q f) : MethOf P name (.obj a) own Q :=
  ⟨a, c, da, kvs, f, rfl, h1, h2, h3, h4, h5, h⟩
theorem mT_at {c f : Nat} {x : Str} (hB : B.K = KK P) (h : findM c x mT = some f) : findIn B.K (.ref c) x = some (some (.ref f)) ∧ isFn B.K (.ref f) = true ∧ keepIn B.K (.ref f) = true := by
  have h2 : mTok (KK P) mT = true := mT_ok
  unfold mTok at h2
  have := List.all_eq_true.mp h2 _ (findM_spec h)
  simp only [Bool.and_eq_true] at this
  rw [hB]
  exact ⟨isRefTo_iff this.1.1, this.1.2, this.2⟩
theorem TE.imethf {o : Expr} {name : Str} {apos pos : Pos} {e0 : Expr} {es : List Expr} {Q : V → Own → Prop} (hB : B.K = KK P) (hb : PlainBase o name) (hs : noStar (e0 :: es) = true) (hn : Nat.blt (e0 :: es).length 30 = true) (hl : (apos.endLine == pos.line) = true)
    (h : TE prog w B d Γ o l own (fun x own₁ => MethOf P name x own₁ (fun f => TA prog w B d Γ (e0 :: es) l own₁ (fun vs own₂ => TC prog w B d (.ref f) (x :: vs) own₂ Q)))) :
    TE prog w B d Γ (.Call (.Attribute o name apos) (e0 :: es) [] pos) l own Q :=
  TE.imethod hb hs (Nat.le_of_ble_eq_true hn) hl (h.mono fun x o q => by
    obtain ⟨a, c, da, kvs, f, rfl, h1, h2, h3, h4, h5, q⟩ := q
    obtain ⟨k1, k2, k3⟩ := mT_at hB h4
    exact ⟨a, c, da, kvs, f, rfl, ⟨h1, h2⟩, okCls_iff hB h3, k1, k2, k3, by rw [← lookA_eq]; exact h5, q⟩)
theorem TE.imethf0 {o : Expr} {name : Str} {apos pos : Pos} {Q : V → Own → Prop} (hB : B.K = KK P) (hb : PlainBase o name) (hl : (apos.endLine == pos.line) = true)
    (h : TE prog w B d Γ o l own (fun x own₁ => MethOf P name x own₁ (fun f => TC prog w B d (.ref f) [x] own₁ Q))) :
    TE prog w B d Γ (.Call (.Attribute o name apos) [] [] pos) l own Q :=
  TE.imethod0 hb hl (h.mono fun x o q => by
    obtain ⟨a, c, da, kvs, f, rfl, h1, h2, h3, h4, h5, q⟩ := q
    obtain ⟨k1, k2, k3⟩ := mT_at hB h4
    exact ⟨a, c, da, kvs, f, rfl, ⟨h1, h2⟩, okCls_iff hB h3, k1, k2, k3, by rw [← lookA_eq]; exact h5, q⟩)
noncomputable def SetOf (P : Params) (name : Str) (x v : V) (own : Own) (Q : Own → Prop) : Prop :=
  ∃ a c da kvs, x = .obj a ∧ own a = some (.inst c da) ∧ own da = some (.dicta kvs) ∧ okCls (KK P) c = true ∧ takerIn (KK P) c name = some none ∧ Nat.ble kvs.length 100 = true ∧ Q (own.put da (.dicta (aputS name v kvs)))
theorem SetOf.mk {name : Str} {a c da : Nat} {kvs : List (Str × V)} {v : V} {Q : Own → Prop} (h1 : own a = some (.inst c da)) (h2 : own da = some (.dicta kvs)) (h3 : okCls (KK P) c = true) (h4 : takerIn (KK P) c name = some none) (h5 : Nat.ble kvs.length 100 = true) (h : Q (own.put da (.dicta (aputS name v kvs)))) : SetOf P name (.obj a) v own Q :=
  ⟨a, c, da, kvs, rfl, h1, h2, h3, h4, h5, h⟩
theorem TS.setattrf {o e : Expr} {name : Str} {pos' pos : Pos} {ss : List Stmt} {Q : Fl → List (Option V) → Own → Prop} (hB : B.K = KK P) (hs : ∀ env : Env, swapsWith e (some (.Attribute o name pos')) pos.line env = pure false)
    (h : TE prog w B d Γ e l own (fun v own₁ => TE prog w B d Γ o l own₁ (fun ov own₂ => SetOf P name ov v own₂ (fun own₃ => TS prog w B d Γ ss l own₃ Q)))) :
    TS prog w B d Γ (.Assign [.Attribute o name pos'] e pos :: ss) l own Q :=
  TS.conss (TX.setattr hs (h.mono fun v o1 q1 => q1.mono fun ov o2 q => by
    obtain ⟨a, c, da, kvs, rfl, h1, h2, h3, h4, h5, q⟩ := q
    exact ⟨a, c, da, kvs, rfl, ⟨h1, h2⟩, okCls_iff hB h3, by rw [hB]; exact h4, Nat.le_of_ble_eq_true h5, by rw [← aputS_eq]; exact q⟩))
noncomputable def initS : Str := ⟨#[95, 95, 105, 110, 105, 116, 95, 95]⟩
theorem initS_eq : initS = ("__init__" : Str) := by decide +kernel
noncomputable def isFnT : Option Value → Bool
  | some (.type t) => t == "function"
  | _ => false
theorem isFnT_iff {o : Option Value} (h : isFnT o = true) : o = some (.type "function") := by
  unfold isFnT at h
  split at h
  · rw [beq_iff_eq.mp h]
  · cases h
theorem TC.makef {c fI : Nat} {args : List V} {Q : V → Own → Prop} (hB : B.K = KK P) (hm : makesIn (KK P) c = true) (hi : findM c initS mT = some fI) (hf : isFnT (typeIn (KK P) (.ref fI)) = true)
    (h : ∀ a da, own da = none → own a = none → a ≠ da → TC prog w B d (.ref fI) (.obj a :: args) ((own.put da (.dicta [])).put a (.inst c da)) (fun v own' => v = .none ∧ Q (.obj a) own')) : TC prog w B (d + 1) (.ref c) args own Q :=
  TC.make (by rw [hB]; exact hm) (by rw [← initS_eq]; exact (mT_at hB hi).1) (by rw [hB]; exact isFnT_iff hf) h
theorem TS.setsubf {o i e : Expr} {pos' pos : Pos} {ss : List Stmt} {Q : Fl → List (Option V) → Own → Prop} (hs : ∀ env : Env, swapsWith e (some (.Subscript o i pos')) pos.line env = pure false)
    (h : TE prog w B d Γ e l own (fun v own₁ => TE prog w B d Γ o l own₁ (fun ov own₂ => TE prog w B d Γ i l own₂ (fun iv own₃ => TSI prog w B ov iv v own₃ (fun own₄ => TS prog w B d Γ ss l own₄ Q))))) :
    TS prog w B d Γ (.Assign [.Subscript o i pos'] e pos :: ss) l own Q := TS.conss (TX.setsub hs h)
theorem TG.namef {x : Str} {i : Nat} {b : Bool} {pos : Pos} {v : V} {Q : List (Option V) → Own → Prop} (hi : findAt x Γ.loc 0 = some (i, b)) (hl : Nat.blt i l.length = true) (hb : (b && Γ.ro) = false) (h : Q (l.set i (some v)) own) : TG prog w B d Γ (.Name x pos) v l own Q :=
  TG.name (by simpa using (findAt_spec hi).2) (Nat.le_of_ble_eq_true hl) (fun q => by subst q; simpa using hb) h
theorem TS.assigntf {es : List Expr} {k : Nat} {tp pos : Pos} {e : Expr} {ss : List Stmt} {Q : Fl → List (Option V) → Own → Prop} (hs : ∀ env : Env, swapsWithSole [.Tuple es k tp] e pos.line env = pure false)
    (hw : ∀ env FA, Cx Γ env FA → swappedStores [.Tuple es k tp] e env = pure none)
    (h : TE prog w B d Γ e l own (fun v own₁ => TG prog w B d Γ (.Tuple es k tp) v l own₁ (fun l₂ own₂ => TS prog w B d Γ ss l₂ own₂ Q))) : TS prog w B d Γ (.Assign [.Tuple es k tp] e pos :: ss) l own Q := TS.conss (TX.assignt hs hw h)
theorem TS.assign2f {x y : Str} {i j : Nat} {px py tp vp pos : Pos} {k k' : Nat} {v1 v2 : Expr} {ss : List Stmt} {Q : Fl → List (Option V) → Own → Prop} (hi : findAt x Γ.loc 0 = some (i, false)) (hj : findAt y Γ.loc 0 = some (j, false)) (hil : Nat.blt i l.length = true) (hjl : Nat.blt j l.length = true) (hxy : eqS x y = false) (hl : (py.line == px.line) = true)
    (h1 : noStar [v1, v2] = true) (hf : ([v1, v2].all (foldedForSure 8)) = false) (hc : ([v1, v2].all (constantsAlone 8)) = false)
    (h : TE prog w B d Γ v1 l own (fun v own₁ => TE prog w B d Γ v2 l own₁ (fun u own₂ => TS prog w B d Γ ss ((l.set j (some u)).set i (some v)) own₂ Q))) :
    TS prog w B d Γ (.Assign [.Tuple [.Name x px, .Name y py] k tp] (.Tuple [v1, v2] k' vp) pos :: ss) l own Q :=
  TS.conss (TX.assign2 (by simpa using (findAt_spec hi).2) (by simpa using (findAt_spec hj).2) (Nat.le_of_ble_eq_true hil) (Nat.le_of_ble_eq_true hjl) (by simpa using eqS_false hxy) hl h1 hf hc h)
theorem TS.assign3f {x y z : Str} {i j m : Nat} {px py pz tp vp pos : Pos} {k k' : Nat} {v1 v2 v3 : Expr} {ss : List Stmt} {Q : Fl → List (Option V) → Own → Prop} (hi : findAt x Γ.loc 0 = some (i, false)) (hj : findAt y Γ.loc 0 = some (j, false)) (hm : findAt z Γ.loc 0 = some (m, false)) (hil : Nat.blt i l.length = true) (hjl : Nat.blt j l.length = true) (hml : Nat.blt m l.length = true) (hxy : eqS x y = false) (hxz : eqS x z = false) (hyz : eqS y z = false) (hl : (py.line == px.line) = true) (hl3 : (pz.line == px.line) = true)
    (h1 : noStar [v1, v2, v3] = true) (hf : ([v1, v2, v3].all (foldedForSure 8)) = false) (hc : ([v1, v2, v3].all (constantsAlone 8)) = false)
    (h : TE prog w B d Γ v1 l own (fun v own₁ => TE prog w B d Γ v2 l own₁ (fun u own₂ => TE prog w B d Γ v3 l own₂ (fun t own₃ => TS prog w B d Γ ss (((l.set m (some t)).set j (some u)).set i (some v)) own₃ Q)))) :
    TS prog w B d Γ (.Assign [.Tuple [.Name x px, .Name y py, .Name z pz] k tp] (.Tuple [v1, v2, v3] k' vp) pos :: ss) l own Q :=
  TS.conss (TX.assign3 (by simpa using (findAt_spec hi).2) (by simpa using (findAt_spec hj).2) (by simpa using (findAt_spec hm).2) (Nat.le_of_ble_eq_true hil) (Nat.le_of_ble_eq_true hjl) (Nat.le_of_ble_eq_true hml) (by simpa using eqS_false hxy) (by simpa using eqS_false hxz) (by simpa using eqS_false hyz) hl hl3 h1 hf hc h)
theorem TS.forf {target iter : Expr} {body : List Stmt} {pos : Pos} {ss : List Stmt} {Q : Fl → List (Option V) → Own → Prop} (hs : ∀ env x, foldedSetIterable iter env x = pure x)
    (h : TI prog w B d Γ target iter l own (fun G vs own₁ => TFL prog w B d Γ G target body vs l own₁ (thenS prog w B d Γ ss Q))) : TS prog w B d Γ (.For target iter body [] pos :: ss) l own Q := TS.conss (TX.for_ hs h)
theorem TFL.inv {G : Own → Prop} {target : Expr} {body : List Stmt} {Q : Fl → List (Option V) → Own → Prop} (I : List V → List (Option V) → Own → Prop)
    (hG : ∀ vs l own, I vs l own → G own) (h0 : ∀ l own, I [] l own → Q .next l own)
    (step : ∀ v vs l own, I (v :: vs) l own → TG prog w B d Γ target v l own (fun l₁ own₁ => TS prog w B d Γ body l₁ own₁ (fun f l₂ own₂ => match f with
      | .next => I vs l₂ own₂
      | .cont => I vs l₂ own₂
      | .brk => Q .next l₂ own₂
      | .ret x => Q (.ret x) l₂ own₂))) : ∀ {vs : List V} {l : List (Option V)} {own : Own}, I vs l own → TFL prog w B d Γ G target body vs l own Q
  | [], l, own, h => ⟨hG _ _ _ h, h0 _ _ h⟩
  | v :: vs, l, own, h => by
    refine ⟨hG _ _ _ h, fun A env FA s N x hx R E p => step v vs l own h A env FA s N x hx R E fun l1 o1 s1 q N1 S1 => p l1 o1 s1 (q.mono fun f l2 o2 r => ?_) N1 S1⟩
    cases f with
    | next => exact TFL.inv I hG h0 step r
    | cont => exact TFL.inv I hG h0 step r
    | brk => exact r
    | ret x => exact r
theorem TS.ifj (J : List (Option V) → Own → Prop) {t : Expr} {a b : List Stmt} {pos : Pos} {ss : List Stmt} {Q : Fl → List (Option V) → Own → Prop}
    (h : ∀ K, FlowK J (Q .cont) (fun v => Q (.ret v)) K → TT prog w B d Γ t l own (fun c own₁ => (c = true → TS prog w B d Γ a l own₁ K) ∧ (c = false → TS prog w B d Γ b l own₁ K))) (k : ∀ l o, J l o → TS prog w B d Γ ss l o Q) : TS prog w B d Γ (.If t a b pos :: ss) l own Q :=
  TS.iff ((h (fun f l o => match f with | .next => J l o | f => Q f l o) ⟨fun _ _ h => h, fun _ _ h => h, fun _ _ _ h => h⟩).mono fun c o q => ⟨fun e => (q.1 e).mono fun f l o r => by cases f <;> first | exact k _ _ r | exact r, fun e => (q.2 e).mono fun f l o r => by cases f <;> first | exact k _ _ r | exact r⟩)
theorem TS.forI {target iter : Expr} {body : List Stmt} {pos : Pos} {ss : List Stmt} {Q : Fl → List (Option V) → Own → Prop} (hs : ∀ env x, foldedSetIterable iter env x = pure x)
    (h : TI prog w B d Γ target iter l own (fun G vs own₁ => ∃ I : List V → List (Option V) → Own → Prop, I vs l own₁ ∧ (∀ vs l own, I vs l own → G own) ∧ (∀ l own, I [] l own → TS prog w B d Γ ss l own Q) ∧
      ∀ v vs l own, I (v :: vs) l own → ∀ K, FlowK (I vs) (I vs) (fun x => Q (.ret x)) K → TG prog w B d Γ target v l own (fun l₁ own₁ => TS prog w B d Γ body l₁ own₁ K))) : TS prog w B d Γ (.For target iter body [] pos :: ss) l own Q :=
  TS.forf hs fun A env FA s N Q' E p => h A env FA s N Q' E fun G vs own₁ s₁ s₂ it W P q => p G vs own₁ s₁ s₂ it W P (by
    obtain ⟨I, h1, h2, h3, h4⟩ := q
    exact TFL.inv I h2 h3 (fun v vs l own hI A env FA s N x hx R E p => h4 v vs l own hI (fun f l₂ own₂ => match f with | .next => I vs l₂ own₂ | .cont => I vs l₂ own₂ | .brk => thenS prog w B d Γ ss Q .next l₂ own₂ | .ret x => thenS prog w B d Γ ss Q (.ret x) l₂ own₂) ⟨fun _ _ h => h, fun _ _ h => h, fun _ _ _ h => h⟩ A env FA s N x hx R E fun l1 o1 s1 q => p l1 o1 s1 (q.mono fun f l2 o2 r => by cases f <;> exact r)) h1)
theorem TEo.nonef {Q : V → Own → Prop} (h : Q .none own) : TEo prog w B d Γ none l own Q := h
theorem TEo.somef {e : Expr} {Q : V → Own → Prop} (h : TE prog w B d Γ e l own Q) : TEo prog w B d Γ (some e) l own Q := h
noncomputable def SliceOf (x a b : V) (own : Own) (Q : V → Own → Prop) : Prop := ∃ o vs pa pb, x = .obj o ∧ own o = some (.list vs) ∧ vs.length ≤ 1000 ∧ partOf a = some pa ∧ partOf b = some pb ∧ ∀ c, own c = none → Q (.obj c) (own.put c (.list (vpick vs pa pb)))
theorem SliceOf.mk {o : Nat} {vs : List V} {a b : V} {pa pb : Option Int} {Q : V → Own → Prop} (h1 : own o = some (.list vs)) (h2 : vs.length ≤ 1000) (h3 : partOf a = some pa) (h4 : partOf b = some pb) (h : ∀ c, own c = none → Q (.obj c) (own.put c (.list (vpick vs pa pb)))) : SliceOf (.obj o) a b own Q :=
  ⟨o, vs, pa, pb, rfl, h1, h2, h3, h4, h⟩
theorem TE.slicef {e : Expr} {lo hi : Option Expr} {p1 pos : Pos} {Q : V → Own → Prop} (hs : ∀ o i, subscripted (.Slice lo hi Option.none p1) false o i = operate [i, o] (getItem o i))
    (h : TE prog w B d Γ e l own (fun x own₁ => TEo prog w B d Γ lo l own₁ (fun a own₂ => TEo prog w B d Γ hi l own₂ (fun b own₃ => SliceOf x a b own₃ Q)))) :
    TE prog w B d Γ (.Subscript e (.Slice lo hi Option.none p1) pos) l own Q := TE.slice hs h
theorem fits_and {n : Nat} {p : Prop} (h : Nat.ble n 4000 = true) (k : p) : n ≤ sizeLine ∧ p :=
  ⟨Nat.le_trans (Nat.le_of_ble_eq_true h) (by rw [show sizeLine = 16777216 from rfl]; decide), k⟩
theorem TS.exp {ss : List Stmt} {Q : Fl → List (Option V) → Own → Prop} (h : TS prog w B d Γ ss l own Q) : TS prog w B d Γ ss l own Q := h
end
end Lw.Internal
namespace Lw.Internal
section
variable {prog : Program} {w : World} {B : Base} {d : Nat} {Γ Γc : Fn} {A : Around} {env : Env} {FA : List Nat} {l l' : List (Option V)} {own own' own'' : Own} {s s' s'' : Shared} {C : Ct} {P : Params}
noncomputable def isFree : Option NameKind → Bool | some .free => true | _ => false
theorem isFree_iff {o : Option NameKind} (h : isFree o = true) : o = some .free := by unfold isFree at h; split at h <;> first | rfl | cases h
noncomputable def memC (x : Str) : List (Str × Bool) → Bool
  | [] => false
  | (y, b) :: r => match eqS x y with
    | true => b
    | false => memC x r
theorem memC_iff {x : Str} : ∀ {l}, memC x l = true → (x, true) ∈ l
  | [], h => by cases h
  | (y, b) :: r, h => by
    rw [memC] at h
    cases q : eqS x y with
    | true => rw [q] at h; have h : b = true := h; rw [eqS_iff.mp q, h]; exact List.mem_cons_self
    | false => rw [q] at h; exact List.mem_cons_of_mem _ (memC_iff h)
noncomputable def isFun : ScopeKind → Bool | .function => true | _ => false
noncomputable def nameOkB (Γ : Fn) (names : List (Str × NameKind)) (q : Str × NameKind) : Bool := match q.2 with
  | .cell => false
  | .free => memC q.1 Γ.loc
  | .local => isLoc (lookK q.1 names)
  | _ => true
noncomputable def okCm (g : List (Str × Bool)) (j : Nat) (x : Str) : Bool := g[j]?.any fun q => q.2 && eqS x q.1
noncomputable def cmB (g : List (Str × Bool)) : List (Str × Bool) → List (Option Nat) → Bool
  | [], [] => true
  | (x, true) :: r, some j :: t => okCm g j x && cmB g r t
  | (_, false) :: r, none :: t => cmB g r t
  | _, _ => false
theorem okCm_iff {g : List (Str × Bool)} {j : Nat} {x : Str} (h : okCm g j x = true) : g[j]? = some (x, true) := by
  unfold okCm at h
  cases q : g[j]? with
  | none => rw [q] at h; cases h
  | some z =>
    rw [q] at h
    have h : (z.2 && eqS x z.1) = true := h
    obtain ⟨a, b⟩ := z
    cases b with
    | false => cases h
    | true => exact congrArg (fun a => some (a, true)) (eqS_iff.mp h).symm
theorem cmB_at {g : List (Str × Bool)} : ∀ {r : List (Str × Bool)} {t : List (Option Nat)}, cmB g r t = true → ∀ (i : Nat) x b, r[i]? = some (x, b) → match b with
    | true => ∃ j, t[i]? = some (some j) ∧ g[j]? = some (x, true)
    | false => t[i]? = some none
  | [], [], _, i, x, b, e => by cases i <;> cases e
  | (y, true) :: r, some j :: t, h, i, x, b, e => by
    have h : (okCm g j y && cmB g r t) = true := h
    rw [Bool.and_eq_true] at h
    cases i with
    | zero =>
      have e : some (y, true) = some (x, b) := e
      cases e
      exact ⟨j, rfl, okCm_iff h.1⟩
    | succ i => exact cmB_at h.2 i x b e
  | (y, false) :: r, none :: t, h, i, x, b, e => by
    have h : cmB g r t = true := h
    cases i with
    | zero =>
      have e : some (y, false) = some (x, b) := e
      cases e; rfl
    | succ i => exact cmB_at h i x b e
noncomputable def compOkB (Γ Γc : Fn) (sc : Scope) (cm : List (Option Nat)) : Bool :=
  isFun sc.kind && Γc.loc.all (fun q => match q.2 with | true => isFree (lookK q.1 sc.names) | false => isLoc (lookK q.1 sc.names)) && Γc.glb.all (fun x => isGlb (lookK x sc.names)) && nodS (Γc.loc.map (·.1)) && sc.names.all (nameOkB Γ sc.names) && cmB Γ.loc Γc.loc cm && Γc.ro && Γc.code.isNone
theorem compOk_of {sc : Scope} {cm : List (Option Nat)} (h : compOkB Γ Γc sc cm = true) : CompOk Γ Γc sc cm := by
  unfold compOkB at h
  simp only [Bool.and_eq_true, List.all_eq_true] at h
  obtain ⟨⟨⟨⟨⟨⟨⟨h1, h2⟩, h3⟩, h4⟩, h5⟩, h6⟩, h7⟩, h8⟩ := h
  refine ⟨?_, fun x hx => ?_, fun x hx => ?_, nodS_nodup h4, fun x hx e => ?_, fun x hx e => ?_, fun x hx e => ?_, h7, Option.isNone_iff_eq_none.mp h8, cmB_at h6⟩
  · revert h1; cases sc.kind <;> simp [isFun]
  · have := h2 x hx
    rw [← lookK_eq]
    cases q : x.2 with
    | true => rw [q] at this; exact .inr ⟨rfl, isFree_iff this⟩
    | false => rw [q] at this; exact .inl ⟨rfl, isLoc_iff this⟩
  · rw [← lookK_eq]; exact isGlb_iff (h3 x hx)
  · have := h5 x hx; unfold nameOkB at this; rw [e] at this; cases this
  · have := h5 x hx; unfold nameOkB at this; rw [e] at this; exact memC_iff this
  · have := h5 x hx; unfold nameOkB at this; rw [e] at this; rw [← lookK_eq]; exact isLoc_iff this
theorem TIfs.mono {ifs : List Expr} {Q Q2 : Bool → Own → Prop} (h : TIfs prog w B d Γ ifs l own Q) (k : ∀ v o, Q v o → Q2 v o) : TIfs prog w B d Γ ifs l own Q2 := by
  match ifs, h with
  | [], h => exact k _ _ h
  | [c], h => exact TT.mono h k
theorem TIfs.one {c : Expr} {Q : Bool → Own → Prop} (h : TT prog w B d Γ c l own Q) : TIfs prog w B d Γ [c] l own Q := h
theorem TIfs.none {Q : Bool → Own → Prop} (h : Q true own) : TIfs prog w B d Γ [] l own Q := h
theorem TG.mono {t : Expr} {v : V} {Q Q2 : List (Option V) → Own → Prop} (h : TG prog w B d Γ t v l own Q) (k : ∀ l o, Q l o → Q2 l o) : TG prog w B d Γ t v l own Q2 :=
  fun A env FA s N x hx R E p => h A env FA s N x hx R E fun l1 o1 s1 q => p l1 o1 s1 (k l1 o1 q)
theorem TCL.inv {G : Own → Prop} {a : Nat} {target elt : Expr} {ifs : List Expr} {Q : Own → Prop} (I : List V → List (Option V) → Own → Prop)
    (hG : ∀ vs l own, I vs l own → G own) (h0 : ∀ l own, I [] l own → Q own)
    (step : ∀ v vs l own, I (v :: vs) l own → TG prog w B d Γ target v l own (fun l₁ own₁ => TIfs prog w B d Γ ifs l₁ own₁ (fun ok own₂ => (ok = false → I vs l₁ own₂) ∧ (ok = true → TE prog w B d Γ elt l₁ own₂ (fun y own₃ => ∃ acc, own₃ a = some (.list acc) ∧ acc.length ≤ 1000 ∧ I vs l₁ (own₃.put a (.list (acc ++ [y]))))))))
    : ∀ {vs : List V} {l : List (Option V)} {own : Own}, I vs l own → TCL prog w B d Γ G a target ifs elt vs l own Q
  | [], l, own, h => ⟨hG _ _ _ h, h0 _ _ h⟩
  | v :: vs, l, own, h => by
    refine ⟨hG _ _ _ h, ?_⟩
    refine (step v vs l own h).mono fun l1 o1 q => ?_
    refine q.mono fun ok o2 r => ?_
    cases ok with
    | false => exact TCL.inv I hG h0 step (r.1 rfl)
    | true =>
      refine (r.2 rfl).mono fun y o3 z => ?_
      obtain ⟨acc, e1, e2, e3⟩ := z
      exact ⟨acc, e1, e2, TCL.inv I hG h0 step e3⟩
structure CompK (I : List V → List (Option V) → Own → Prop) (vs : List V) (a : Nat) (K : List (Option V) → Own → Prop) (K' : List (Option V) → V → Own → Prop) : Prop where
  no : ∀ l o, I vs l o → K l o
  yes : ∀ l y o acc, o a = some (.list acc) → acc.length ≤ 1000 → I vs l (o.put a (.list (acc ++ [y]))) → K' l y o
theorem CompK.put {I : List V → List (Option V) → Own → Prop} {vs : List V} {a : Nat} {K : List (Option V) → Own → Prop} {K' : List (Option V) → V → Own → Prop} {y : V} (h : CompK I vs a K K') (k : ∃ acc, own a = some (.list acc) ∧ acc.length ≤ 1000 ∧ I vs l (own.put a (.list (acc ++ [y])))) : K' l y own := k.elim fun _ q => h.yes _ _ _ _ q.1 q.2.1 q.2.2
theorem CompK.not {I : List V → List (Option V) → Own → Prop} {vs : List V} {a : Nat} {K : List (Option V) → Own → Prop} {K' : List (Option V) → V → Own → Prop} (h : CompK I vs a K K') (k : I vs l own) : K l own := h.no _ _ k
noncomputable def CompI (prog : Program) (w : World) (B : Base) (d : Nat) (Γc : Fn) (target elt : Expr) (ifs : List Expr) (l : List (Option V)) (G : Own → Prop) (vs : List V) (own : Own) (Q : V → Own → Prop) : Prop :=
  ∀ a, Fresh own a → ∃ I : List V → List (Option V) → Own → Prop, I vs l (own.put a (.list [])) ∧ (∀ vs l own, I vs l own → G own) ∧ (∀ l own, I [] l own → Q (.obj a) own) ∧
    ∀ v vs l own, I (v :: vs) l own → ∀ K K', CompK I vs a K K' → TG prog w B d Γc target v l own (fun l₁ own₁ => TIfs prog w B d Γc ifs l₁ own₁ (fun ok own₂ => (ok = false → K l₁ own₂) ∧ (ok = true → TE prog w B d Γc elt l₁ own₂ (K' l₁))))
theorem CompI.run {target elt : Expr} {ifs : List Expr} {l : List (Option V)} {G : Own → Prop} {vs : List V} {a : Nat} {Q : V → Own → Prop} (q : CompI prog w B d Γc target elt ifs l G vs own Q) (ha : Fresh own a) : TCL prog w B d Γc G a target ifs elt vs l (own.put a (.list [])) (fun own' => Q (.obj a) own') := by
  obtain ⟨I, h1, h2, h3, h4⟩ := q a ha
  exact TCL.inv I h2 h3 (fun v vs l own h => h4 v vs l own h _ (fun l y o => ∃ acc, o a = some (.list acc) ∧ acc.length ≤ 1000 ∧ I vs l (o.put a (.list (acc ++ [y])))) ⟨fun _ _ h => h, fun _ _ _ acc e1 e2 e3 => ⟨acc, e1, e2, e3⟩⟩) h1
theorem TI.mono {target iter : Expr} {Q Q2 : (Own → Prop) → List V → Own → Prop} (h : TI prog w B d Γ target iter l own Q) (k : ∀ G vs o, Q G vs o → Q2 G vs o) : TI prog w B d Γ target iter l own Q2 :=
  fun A env FA s N Q' E p => h A env FA s N Q' E fun G vs own₁ s₁ s₂ it W P q => p G vs own₁ s₁ s₂ it W P (k G vs own₁ q)
theorem TE.compI (Γc : Fn) (cm : List (Option Nat)) {target elt iter : Expr} {ifs : List Expr} {sc : Scope} {pos : Pos} {Q : V → Own → Prop} (hs : ∀ env x, foldedSetIterable iter env x = pure x) (K : compOkB Γ Γc sc cm = true)
    (h : TI prog w B d Γ target iter l own (fun G vs own₁ => CompI prog w B d Γc target elt ifs (compL cm l) G vs own₁ Q)) : TE prog w B d Γ (.ListComp elt [⟨target, iter, ifs, 0⟩] sc pos) l own Q :=
  TE.comp hs (compOk_of K) (h.mono fun G vs o q a ha => CompI.run q ha)
theorem TS.assigncI (Γc : Fn) (cm : List (Option Nat)) {target elt iter : Expr} {ifs : List Expr} {sc : Scope} {pos spos : Pos} {i : Nat} {y : Str} {py : Pos} {ss : List Stmt} {Q : Fl → List (Option V) → Own → Prop} (hs : ∀ env x, foldedSetIterable iter env x = pure x) (K : compOkB Γ Γc sc cm = true)
    (hi : findAt y Γ.loc 0 = some (i, false)) (hl : Nat.blt i l.length = true)
    (hsw : ∀ env FA, Cx Γ env FA → swapsWith (.ListComp elt [⟨target, iter, ifs, 0⟩] sc pos) (some (.Name y py)) spos.line env = pure true)
    (h : TI prog w B d Γ target iter l own (fun G vs own₁ => CompI prog w B d Γc target elt ifs (compL cm l) G vs own₁ (fun v own' => TS prog w B d Γ ss (l.set i (some v)) own' Q))) :
    TS prog w B d Γ (.Assign [.Name y py] (.ListComp elt [⟨target, iter, ifs, 0⟩] sc pos) spos :: ss) l own Q :=
  TS.conss (TX.assignc hs (compOk_of K) (by simpa using (findAt_spec hi).2) (Nat.le_of_ble_eq_true hl) hsw (h.mono fun G vs o q a ha => CompI.run q ha))
theorem exE2 {α0 α1 : Type} {P : α0 → α1 → Prop} {X : Prop} (h : ∃ a0 a1, P a0 a1) (k : ∀ a0 a1, P a0 a1 → X) : X := by
  obtain ⟨a0, a1, h⟩ := h; exact k _ _ h
theorem exE3 {α0 α1 α2 : Type} {P : α0 → α1 → α2 → Prop} {X : Prop} (h : ∃ a0 a1 a2, P a0 a1 a2) (k : ∀ a0 a1 a2, P a0 a1 a2 → X) : X := by
  obtain ⟨a0, a1, a2, h⟩ := h; exact k _ _ _ h
theorem exE4 {α0 α1 α2 α3 : Type} {P : α0 → α1 → α2 → α3 → Prop} {X : Prop} (h : ∃ a0 a1 a2 a3, P a0 a1 a2 a3) (k : ∀ a0 a1 a2 a3, P a0 a1 a2 a3 → X) : X := by
  obtain ⟨a0, a1, a2, a3, h⟩ := h; exact k _ _ _ _ h
theorem exE5 {α0 α1 α2 α3 α4 : Type} {P : α0 → α1 → α2 → α3 → α4 → Prop} {X : Prop} (h : ∃ a0 a1 a2 a3 a4, P a0 a1 a2 a3 a4) (k : ∀ a0 a1 a2 a3 a4, P a0 a1 a2 a3 a4 → X) : X := by
  obtain ⟨a0, a1, a2, a3, a4, h⟩ := h; exact k _ _ _ _ _ h
theorem exE6 {α0 α1 α2 α3 α4 α5 : Type} {P : α0 → α1 → α2 → α3 → α4 → α5 → Prop} {X : Prop} (h : ∃ a0 a1 a2 a3 a4 a5, P a0 a1 a2 a3 a4 a5) (k : ∀ a0 a1 a2 a3 a4 a5, P a0 a1 a2 a3 a4 a5 → X) : X := by
  obtain ⟨a0, a1, a2, a3, a4, a5, h⟩ := h; exact k _ _ _ _ _ _ h
theorem exE7 {α0 α1 α2 α3 α4 α5 α6 : Type} {P : α0 → α1 → α2 → α3 → α4 → α5 → α6 → Prop} {X : Prop} (h : ∃ a0 a1 a2 a3 a4 a5 a6, P a0 a1 a2 a3 a4 a5 a6) (k : ∀ a0 a1 a2 a3 a4 a5 a6, P a0 a1 a2 a3 a4 a5 a6 → X) : X := by
  obtain ⟨a0, a1, a2, a3, a4, a5, a6, h⟩ := h; exact k _ _ _ _ _ _ _ h
theorem exE11 {α0 α1 α2 α3 α4 α5 α6 α7 α8 α9 α10 : Type} {P : α0 → α1 → α2 → α3 → α4 → α5 → α6 → α7 → α8 → α9 → α10 → Prop} {X : Prop} (h : ∃ a0 a1 a2 a3 a4 a5 a6 a7 a8 a9 a10, P a0 a1 a2 a3 a4 a5 a6 a7 a8 a9 a10) (k : ∀ a0 a1 a2 a3 a4 a5 a6 a7 a8 a9 a10, P a0 a1 a2 a3 a4 a5 a6 a7 a8 a9 a10 → X) : X := by
  obtain ⟨a0, a1, a2, a3, a4, a5, a6, a7, a8, a9, a10, h⟩ := h; exact k _ _ _ _ _ _ _ _ _ _ _ h
theorem aE4 {A0 A1 A2 A3 X : Prop} (h : A0 ∧ A1 ∧ A2 ∧ A3) (k : A0 → A1 → A2 → A3 → X) : X := by
  obtain ⟨h0, h1, h2, h3⟩ := h; exact k h0 h1 h2 h3
theorem aE5 {A0 A1 A2 A3 A4 X : Prop} (h : A0 ∧ A1 ∧ A2 ∧ A3 ∧ A4) (k : A0 → A1 → A2 → A3 → A4 → X) : X := by
  obtain ⟨h0, h1, h2, h3, h4⟩ := h; exact k h0 h1 h2 h3 h4
theorem aE6 {A0 A1 A2 A3 A4 A5 X : Prop} (h : A0 ∧ A1 ∧ A2 ∧ A3 ∧ A4 ∧ A5) (k : A0 → A1 → A2 → A3 → A4 → A5 → X) : X := by
  obtain ⟨h0, h1, h2, h3, h4, h5⟩ := h; exact k h0 h1 h2 h3 h4 h5
theorem aE7 {A0 A1 A2 A3 A4 A5 A6 X : Prop} (h : A0 ∧ A1 ∧ A2 ∧ A3 ∧ A4 ∧ A5 ∧ A6) (k : A0 → A1 → A2 → A3 → A4 → A5 → A6 → X) : X := by
  obtain ⟨h0, h1, h2, h3, h4, h5, h6⟩ := h; exact k h0 h1 h2 h3 h4 h5 h6
theorem aE8 {A0 A1 A2 A3 A4 A5 A6 A7 X : Prop} (h : A0 ∧ A1 ∧ A2 ∧ A3 ∧ A4 ∧ A5 ∧ A6 ∧ A7) (k : A0 → A1 → A2 → A3 → A4 → A5 → A6 → A7 → X) : X := by
  obtain ⟨h0, h1, h2, h3, h4, h5, h6, h7⟩ := h; exact k h0 h1 h2 h3 h4 h5 h6 h7
theorem aE9 {A0 A1 A2 A3 A4 A5 A6 A7 A8 X : Prop} (h : A0 ∧ A1 ∧ A2 ∧ A3 ∧ A4 ∧ A5 ∧ A6 ∧ A7 ∧ A8) (k : A0 → A1 → A2 → A3 → A4 → A5 → A6 → A7 → A8 → X) : X := by
  obtain ⟨h0, h1, h2, h3, h4, h5, h6, h7, h8⟩ := h; exact k h0 h1 h2 h3 h4 h5 h6 h7 h8
theorem aE10 {A0 A1 A2 A3 A4 A5 A6 A7 A8 A9 X : Prop} (h : A0 ∧ A1 ∧ A2 ∧ A3 ∧ A4 ∧ A5 ∧ A6 ∧ A7 ∧ A8 ∧ A9) (k : A0 → A1 → A2 → A3 → A4 → A5 → A6 → A7 → A8 → A9 → X) : X := by
  obtain ⟨h0, h1, h2, h3, h4, h5, h6, h7, h8, h9⟩ := h; exact k h0 h1 h2 h3 h4 h5 h6 h7 h8 h9
theorem aE11 {A0 A1 A2 A3 A4 A5 A6 A7 A8 A9 A10 X : Prop} (h : A0 ∧ A1 ∧ A2 ∧ A3 ∧ A4 ∧ A5 ∧ A6 ∧ A7 ∧ A8 ∧ A9 ∧ A10) (k : A0 → A1 → A2 → A3 → A4 → A5 → A6 → A7 → A8 → A9 → A10 → X) : X := by
  obtain ⟨h0, h1, h2, h3, h4, h5, h6, h7, h8, h9, h10⟩ := h; exact k h0 h1 h2 h3 h4 h5 h6 h7 h8 h9 h10
theorem tf {X : Prop} (e : true = false) : X := nomatch e
theorem ft {X : Prop} (e : false = true) : X := nomatch e
theorem all_nil {α : Type} {p : α → Prop} : ∀ m ∈ ([] : List α), p m := fun _ h => nomatch h
noncomputable def isStar : Expr → Bool
  | .Starred .. => true
  | _ => false
theorem isStar_ne {e : Expr} (h : isStar e = false) : ∀ x p, e ≠ .Starred x p := fun x p q => by rw [q] at h; cases h
theorem TA.consb {e : Expr} {es : List Expr} {Q : List V → Own → Prop} (hs : isStar e = false) (h : TE prog w B d Γ e l own (fun v own₁ => TA prog w B d Γ es l own₁ (fun vs own₂ => Q (v :: vs) own₂))) : TA prog w B d Γ (e :: es) l own Q := TA.cons (isStar_ne hs) h
theorem TGo.consb {e : Expr} {es : List Expr} {v : V} {vs : List V} {Q : List (Option V) → Own → Prop} (hs : isStar e = false) (h : TG prog w B d Γ e v l own (fun l₁ own₁ => TGo prog w B d Γ es vs l₁ own₁ Q)) : TGo prog w B d Γ (e :: es) (v :: vs) l own Q := TGo.cons (isStar_ne hs) h
noncomputable abbrev RetK (Q : V → Own → Prop) (K : Fl → List (Option V) → Own → Prop) : Prop := FlowK (fun _ o => Q .none o) (fun _ o => Q .none o) (fun v _ o => Q v o) K
noncomputable def retQ (Q : V → Own → Prop) : Fl → List (Option V) → Own → Prop := fun f _ own' => match f with | .ret v => Q v own' | _ => Q .none own'
theorem retQ.k (Q : V → Own → Prop) : RetK Q (retQ Q) := ⟨fun _ _ h => h, fun _ _ h => h, fun _ _ _ h => h⟩
theorem TC.deff {a : Nat} {fd : FuncData} {body : List Stmt} {n : Nat} {ps : List Str} {ds : List Value} {dv args : List V} {Q : V → Own → Prop} (D : DefOk B a fd body n ps ds) (G : FnOk Γ fd.scope ps) (hn : args.length = n) (hp : ps.length = n + ds.length)
    (hds : ∀ h, VRs h dv ds) (hcd : ∀ q, Γ.code = some q → fd.code = q.1 ∧ fd.qualname ++ (".<locals>." : Str) = q.2)
    (h : ∀ K, RetK Q K → TS prog w B d Γ body ((args ++ dv).map some ++ List.replicate (Γ.loc.length - ps.length) none) own K) : TC prog w B (d + 1) (.ref a) args own Q :=
  TC.def D G hn hp hds hcd (h (retQ Q) (retQ.k Q))
theorem TC.deffc {a : Nat} {fd : FuncData} {body : List Stmt} {n : Nat} {ps : List Str} {args : List V} {Q : V → Own → Prop} (D : DefOkC B a fd body n ps) (G : FnOkC Γ fd.scope ps) (hn : args.length = n) (hp : ps.length = n) (hcd : Γ.code = none)
    (h : ∀ K, RetK Q K → TS prog w B d Γ body (args.map some ++ List.replicate (Γ.loc.length - ps.length) none) own K) : TC prog w B (d + 1) (.ref a) args own Q :=
  TC.defc D G hn hp hcd (h (retQ Q) (retQ.k Q))
noncomputable def intOf : V → Option Int
  | .int i => some i
  | _ => none
theorem intOf_eq {v : V} {i : Int} (h : intOf v = some i) : v = .int i := by
  cases v <;> first | (cases h; rfl) | cases h
noncomputable def cmpI (op : CmpOp) (a b : Int) : Option V := match op with
  | .Lt => some (.bool (decide (a < b)))
  | .LtE => some (.bool (decide (a ≤ b)))
  | .Gt => some (.bool (decide (b < a)))
  | .GtE => some (.bool (decide (b ≤ a)))
  | .Eq => some (.bool (a == b))
  | .NotEq => some (.bool (a != b))
  | _ => none
theorem cmpI_ok {op : CmpOp} {a b : Int} {v : V} (h : cmpI op a b = some v) {Q : V → Own → Prop} (k : Q v own) : T2 prog w B (compareOp op) (.int a) (.int b) own Q := by
  cases op <;> first | (cases h; done) | (cases h; first | exact T2.lt k | exact T2.le k | exact T2.gt k | exact T2.ge k | exact T2.eqi k | exact T2.nei k)
noncomputable def addI (op : Operator) (a b : Int) : Option V := match op with
  | .Add => some (.int (a + b))
  | .Sub => some (.int (a - b))
  | _ => none
theorem addI_ok {op : Operator} {a b : Int} {v : V} (h : addI op a b = some v) {Q : V → Own → Prop} (k : Q v own) : T2 prog w B (binaryOp op) (.int a) (.int b) own Q := by
  cases op <;> first | (cases h; done) | (cases h; first | exact T2.add k | exact T2.sub k)
noncomputable def two (p q : Option Int) (f : Int → Int → Option V) : Option V := match p with
  | none => none
  | some x => (match q with
    | none => none
    | some y => f x y)
theorem two_of {p q : Option Int} {f : Int → Int → Option V} {v : V} (h : two p q f = some v) : ∃ x y, p = some x ∧ q = some y ∧ f x y = some v := by
  cases p with
  | none => cases h
  | some x => cases q with
    | none => cases h
    | some y => exact ⟨x, y, rfl, rfl, h⟩
theorem int_of {o : Option V} {i : Int} (h : o.bind intOf = some i) : o = some (.int i) := by
  cases o with
  | none => cases h
  | some v => rw [intOf_eq (v := v) h]
noncomputable def constV : Const → Option V
  | .int i => some (.int i)
  | .none => some .none
  | .bool b => some (.bool b)
  | .str x => some (.str x.cps.toList)
  | _ => none
theorem constV_ok {c : Const} {n : Nat} {pos : Pos} {v : V} (h : constV c = some v) {Q : V → Own → Prop} (k : Q v own) : TE prog w B d Γ (.Constant c n pos) l own Q := by
  cases c <;> first | (cases h; done) | (cases h; first | exact TE.int k | exact TE.none k | exact TE.bool k | exact TE.str k)
noncomputable def pureL (f : Expr → Option V) : List Expr → Option (List V)
  | [] => some []
  | e :: es => match f e with
    | none => none
    | some v => (match pureL f es with
      | none => none
      | some vs => some (v :: vs))
inductive Vw
  | no
  | nm (x : Str)
  | cn (c : Const)
  | tp (es : List Expr)
  | cm (a : Expr) (op : CmpOp) (b : Expr)
  | bn (a : Expr) (op : Operator) (b : Expr)
noncomputable def vwC (a : Expr) : List CmpOp → List Expr → Vw
  | [op], [b] => .cm a op b
  | _, _ => .no
noncomputable def vw : Expr → Vw
  | .Name x _ => .nm x
  | .Constant c _ _ => .cn c
  | .Tuple es _ _ => .tp es
  | .Compare a ops bs _ => vwC a ops bs
  | .BinOp a op b _ => .bn a op b
  | _ => .no
noncomputable def VwIs (e : Expr) : Vw → Prop
  | .no => True
  | .nm x => ∃ p, e = .Name x p
  | .cn c => ∃ n p, e = .Constant c n p
  | .tp es => ∃ n p, e = .Tuple es n p
  | .cm a op b => ∃ p, e = .Compare a [op] [b] p
  | .bn a op b => ∃ p, e = .BinOp a op b p
set_option tactic.hygienic true in
theorem vw_ok (e : Expr) : VwIs e (vw e) := by
  cases e <;> first | exact trivial | exact ⟨_, rfl⟩ | exact ⟨_, _, rfl⟩ | skip
  rename_i a ops bs p
  cases ops with
  | nil => exact trivial
  | cons o os =>
    cases os with
    | cons _ _ => cases bs <;> exact trivial
    | nil =>
      cases bs with
      | nil => exact trivial
      | cons b bs => cases bs with
        | nil => exact ⟨p, rfl⟩
        | cons _ _ => exact trivial
noncomputable def pureV (g : List (Str × Bool)) (l : List (Option V)) (f : Expr → Option V) : Vw → Option V
  | .no => none
  | .nm x => (match eqS x dbgS with | true => none | false => findLoc x g l)
  | .cn c => constV c
  | .tp es => (match Nat.ble es.length 4000 with
    | true => (match pureL f es with | some vs => some (.tup vs) | none => none)
    | false => none)
  | .cm a op b => (match behindInMarks op b with
    | true => none
    | false => two ((f a).bind intOf) ((f b).bind intOf) (cmpI op))
  | .bn a op b => two ((f a).bind intOf) ((f b).bind intOf) (addI op)
noncomputable def pureE (g : List (Str × Bool)) (l : List (Option V)) : Nat → Expr → Option V
  | 0, _ => none
  | n + 1, e => pureV g l (pureE g l n) (vw e)
theorem pureL_ok {f : Expr → Option V} (ok : ∀ e v, f e = some v → (∀ x p, e ≠ .Starred x p) ∧ ∀ Q : V → Own → Prop, Q v own → TE prog w B d Γ e l own Q) : ∀ {es : List Expr} {vs : List V}, pureL f es = some vs → vs.length = es.length ∧ ∀ Q : List V → Own → Prop, Q vs own → TA prog w B d Γ es l own Q
  | [], vs, h => by cases h; exact ⟨rfl, fun Q k => TA.nil k⟩
  | e :: es, vs, h => by
    rw [pureL] at h
    cases h1 : f e with
    | none => rw [h1] at h; cases h
    | some v =>
      rw [h1] at h
      cases h2 : pureL f es with
      | none => simp only [h2] at h; cases h
      | some ws =>
        simp only [h2] at h
        cases h
        obtain ⟨n, k1⟩ := ok e v h1
        obtain ⟨e2, k2⟩ := pureL_ok ok h2
        exact ⟨by rw [List.length_cons, List.length_cons, e2], fun Q k => TA.cons n (k1 _ (k2 _ k))⟩
theorem pureV_ok {f : Expr → Option V} (ok : ∀ e v, f e = some v → (∀ x p, e ≠ .Starred x p) ∧ ∀ Q : V → Own → Prop, Q v own → TE prog w B d Γ e l own Q) {e : Expr} {v : V} (h : pureV Γ.loc l f (vw e) = some v) : (∀ x p, e ≠ .Starred x p) ∧ ∀ Q : V → Own → Prop, Q v own → TE prog w B d Γ e l own Q := by
  have hv := vw_ok e
  generalize vw e = m at h hv
  cases m with
  | no => cases h
  | nm x =>
    obtain ⟨p, rfl⟩ := hv
    refine ⟨(fun x p q => by cases q), fun Q k => ?_⟩
    rw [pureV] at h
    cases hd : eqS x dbgS with
    | true => rw [hd] at h; cases h
    | false => rw [hd] at h; exact TE.locf h hd k
  | cn c =>
    obtain ⟨n, p, rfl⟩ := hv
    exact ⟨(fun x p q => by cases q), fun Q k => constV_ok h k⟩
  | tp es =>
    obtain ⟨n, p, rfl⟩ := hv
    refine ⟨(fun x p q => by cases q), fun Q k => ?_⟩
    rw [pureV] at h
    cases hn : Nat.ble es.length 4000 with
    | false => rw [hn] at h; cases h
    | true =>
      rw [hn] at h
      cases hp : pureL f es with
      | none => simp only [hp] at h; cases h
      | some vs =>
        simp only [hp] at h
        cases h
        obtain ⟨e1, k1⟩ := pureL_ok ok hp
        exact TE.tup (k1 _ (fits_and (by rw [e1]; exact hn) k))
  | cm a op b =>
    obtain ⟨p, rfl⟩ := hv
    refine ⟨(fun x p q => by cases q), fun Q k => ?_⟩
    rw [pureV] at h
    cases hm : behindInMarks op b with
    | true => rw [hm] at h; cases h
    | false =>
      rw [hm] at h
      obtain ⟨x, y, h1, h2, h0⟩ := two_of h
      exact TE.cmp hm ((ok a _ (int_of h1)).2 _ ((ok b _ (int_of h2)).2 _ (cmpI_ok h0 k)))
  | bn a op b =>
    obtain ⟨p, rfl⟩ := hv
    refine ⟨(fun x p q => by cases q), fun Q k => ?_⟩
    obtain ⟨x, y, h1, h2, h0⟩ := two_of h
    exact TE.binop ((ok a _ (int_of h1)).2 _ ((ok b _ (int_of h2)).2 _ (addI_ok h0 k)))
theorem pureE_ok : ∀ (n : Nat) (e : Expr) (v : V), pureE Γ.loc l n e = some v → (∀ x p, e ≠ .Starred x p) ∧ ∀ Q : V → Own → Prop, Q v own → TE prog w B d Γ e l own Q := by
  intro n
  induction n with
  | zero => intro e v h; cases h
  | succ n ih => exact fun e v h => pureV_ok ih h
theorem TE.pure {e : Expr} {v : V} {Q : V → Own → Prop} (h : pureE Γ.loc l 4 e = some v) (k : Q v own) : TE prog w B d Γ e l own Q := (pureE_ok 4 e v h).2 Q k
theorem TA.pure {es : List Expr} {vs : List V} {Q : List V → Own → Prop} (h : pureL (pureE Γ.loc l 4) es = some vs) (k : Q vs own) : TA prog w B d Γ es l own Q := (pureL_ok (pureE_ok 4) h).2 Q k
theorem TT.pure {a b : Expr} {op : CmpOp} {pos : Pos} {c : Bool} {Q : Bool → Own → Prop} (h : two ((pureE Γ.loc l 4 a).bind intOf) ((pureE Γ.loc l 4 b).bind intOf) (cmpI op) = some (.bool c)) (hm : behindInMarks op b = false) (k : Q c own) : TT prog w B d Γ (.Compare a [op] [b] pos) l own Q := by
  obtain ⟨x, y, h1, h2, h3⟩ := two_of h
  exact TT.cmp hm ((pureE_ok 4 a _ (int_of h1)).2 _ ((pureE_ok 4 b _ (int_of h2)).2 _ (cmpI_ok h3 (T1B.bool k))))
end
end Lw.Internal
set_option maxHeartbeats 4000000
namespace Lw.Internal
set_option compiler.extract_closed false
set_option hygiene false
local macro_rules | `(tactic| top_raise) => `(tactic| with_reducible first
  | assumption
  | apply Ne.symm; assumption
  | apply ne_base; assumption; tb_start
  | apply ne_base2; assumption; tb_start
  | fail)
local macro_rules | `(tactic| tb_start) => `(tactic| with_reducible first
  | assumption
  | exact Own.put_self _ _ _
  | apply put_keep; assumption; tb_start
  | apply put_ne2; top_raise; tb_start
  | apply Sub.get; assumption; tb_start
  | fail)
local macro_rules | `(tactic| top_raise0) => `(tactic| with_reducible first
  | assumption
  | exact Sub.refl
  | apply Sub.alloc; assumption; top_raise0
  | apply Sub.put; top_raise0; top_name
  | apply Sub.trans'; assumption; top_raise0
  | fail)
local macro_rules | `(tactic| top_name) => `(tactic| with_reducible first
  | assumption
  | apply Gr.none; assumption; k_caught0
  | apply put_none; top_name; top_raise
  | fail)
local macro_rules | `(tactic| k_caught0) => `(tactic| with_reducible first
  | assumption
  | exact Gr.refl
  | apply Gr.put; k_caught0
  | apply Gr.of_sub; assumption
  | apply Gr.trans2; assumption; k_caught0
  | apply Gr.trans'; assumption; k_caught0
  | fail)
local macro_rules | `(tactic| top_args) => `(tactic| first
  | tb_start
  | apply Eq.trans; tb_start; rfl
  | fail)
local macro_rules | `(tactic| tb_rel) => `(tactic| with_reducible first
  | refine TE.binop ?_
  | refine TEo.nonef ?_
  | refine TEo.somef ?_
  | refine TE.negc ?_
  | refine TE.tup ?_
  | refine TE.list ?_
  | refine TE.not ?_
  | refine TE.ifef ?_
  | refine TGo.nil ?_
  | refine TPr.cons ?_
  | refine TPr.nil ?_
  | refine T2.notin ?_
  | refine TT.not ?_
  | refine TT.and_nil ?_
  | refine TT.or_nil ?_
  | refine TT.andf ?_
  | refine TT.orf ?_
  | refine T1B.bool ?_
  | refine T2.add ?_
  | refine T2.sub ?_
  | refine T2.lt ?_
  | refine T2.le ?_
  | refine T2.gt ?_
  | refine T2.ge ?_
  | refine T2.eqi ?_
  | refine T2.nei ?_
  | refine T2.isn ?_
  | refine T2.isnn ?_
  | refine TS.retf ?_
  | refine TS.contf ?_
  | refine thenS.next ?_
  | refine thenS.ret ?_
  | refine thenS.cont ?_
  | refine TS.nil ?_
  | refine' TE.pure ?_ ?_; rotate_left; with_unfolding_all exact rfl
  | refine' TA.pure ?_ ?_; rotate_left; with_unfolding_all exact rfl
  | refine' TGo.consb ?_ ?_; with_unfolding_all exact rfl
  | refine' fits_and ?_ ?_; with_unfolding_all exact rfl
  | refine' TT.pure ?_ ?_ ?_; rotate_left; with_unfolding_all exact rfl; kernel_rfl
  | refine' TE.globi ?_ ?_ ?_ ?_; rotate_left 2; assumption; with_unfolding_all exact rfl; kernel_rfl
  | refine' TE.callf ?_ ?_ ?_ ?_ ?_; rotate_left 2; assumption; with_unfolding_all exact rfl; kernel_rfl; kernel_rfl
  | refine' TE.callf0 ?_ ?_ ?_ ?_; rotate_left 2; assumption; with_unfolding_all exact rfl; kernel_rfl
  | refine' TE.cmp ?_ ?_; kernel_rfl
  | refine' TE.chain ?_ ?_; kernel_rfl
  | refine' TT.cmp ?_ ?_; kernel_rfl
  | refine' TT.chain ?_ ?_; kernel_rfl
  | refine' TE.slicef ?_ ?_; with_unfolding_all exact fun _ _ => rfl
  | refine TE.sub ?_
  | refine' TE.attrf ?_ ?_ ?_; rotate_left; assumption; with_unfolding_all exact fun _ _ => rfl
  | refine' AttrOf.mk ?_ ?_ ?_ ?_ ?_ ?_; rotate_left 4; tb_start; tb_start; with_unfolding_all kernel_rfl; kernel_rfl; exact rfl
  | refine' MethOf.mk ?_ ?_ ?_ ?_ ?_ ?_; rotate_left 4; tb_start; tb_start; with_unfolding_all kernel_rfl; exact rfl; kernel_rfl
  | refine' SetOf.mk ?_ ?_ ?_ ?_ ?_ ?_; rotate_left 3; tb_start; tb_start; with_unfolding_all kernel_rfl; kernel_rfl; kernel_rfl
  | refine' TS.setattrf ?_ ?_ ?_; rotate_left; assumption; with_unfolding_all exact fun _ => rfl
  | refine' TS.setsubf ?_ ?_; with_unfolding_all exact fun _ => rfl
  | refine' TS.exprf ?_ ?_; with_unfolding_all exact fun _ => rfl
  | refine' TS.assign2f ?_ ?_ ?_ ?_ ?_ ?_ ?_ ?_ ?_ ?_; rotate_left 2; with_unfolding_all (iterate 4 exact rfl); (iterate 5 kernel_rfl)
  | refine' TS.assign3f ?_ ?_ ?_ ?_ ?_ ?_ ?_ ?_ ?_ ?_ ?_ ?_ ?_ ?_ ?_; rotate_left 3; with_unfolding_all (iterate 6 exact rfl); (iterate 8 kernel_rfl)
  | refine' TS.assigntf ?_ ?_ ?_; with_unfolding_all exact fun _ => rfl; exact fun _ _ _ => rfl
  | refine' TG.namef ?_ ?_ ?_ ?_; rotate_left 2; with_unfolding_all exact rfl; exact rfl; exact rfl
  | refine' TG.tup ?_ ?_ ?_; kernel_rfl; kernel_rfl
  | refine' TT.plain ?_ ?_; rotate_left; with_unfolding_all exact fun _ _ => rfl
  | refine' TA.consb ?_ ?_; with_unfolding_all exact rfl
  | refine' T2.fdiv ?_ ?_ ?_; decide; decide
  | refine' T2.mod ?_ ?_; decide
  | refine' T2.item_tup ?_ ?_ ?_ ?_ ?_ ?_; rotate_left 2; with_unfolding_all exact fun _ _ => rfl; decide; decide; (iterate 2 exact rfl)
  | refine' TS.assignf ?_ ?_ ?_ ?_ ?_; rotate_left 2; with_unfolding_all exact rfl; exact rfl; exact rfl; exact fun _ _ _ => rfl
  | refine' TE.bcallf ?_ ?_ ?_ ?_ ?_ ?_; rotate_left 3; assumption; with_unfolding_all (first | exact bn_len; exact rfl | exact bn_max; exact rfl | exact bn_any; exact rfl); kernel_rfl; kernel_rfl
  | refine' TE.tcallf ?_ ?_ ?_ ?_ ?_ ?_; rotate_left 3; assumption; with_unfolding_all (first | exact bn_list; exact rfl | exact bn_int; exact rfl); kernel_rfl; kernel_rfl
  | refine' TE.methf PySem.F.plainAttrs_list ?_ ?_ ?_ ?_ ?_ ?_ ?_ ?_; rotate_left 2; with_unfolding_all (first | exact sl_append; kernel_rfl; exact rfl | exact sl_extend; kernel_rfl; exact rfl | exact sl_insert; kernel_rfl; exact rfl); exact fun _ _ => rfl; (iterate 3 kernel_rfl)
  | refine' TE.methf0 PySem.F.plainAttrs_list sl_pop ?_ ?_ ?_ ?_ ?_; with_unfolding_all kernel_rfl; exact rfl; exact fun _ _ => rfl; kernel_rfl
  | refine' FlowK.ret ?_ ?_; rotate_left 3; assumption
  | refine' FlowK.next ?_ ?_; rotate_left 3; assumption
  | refine' FlowK.cont ?_ ?_; rotate_left 3; assumption
  | refine' CompK.put ?_ ?_; rotate_left 4; assumption
  | refine' CompK.not ?_ ?_; rotate_left 4; assumption
  | intro (Kr_ : Fl → List (Option V) → Own → Prop) hK_
  | intro (Kr_ : List (Option V) → Own → Prop) Kp_ hK_
  | fail)
local macro_rules | `(tactic| kts_caught) => `(tactic| with_reducible first
  | refine' TE.imethf ?_ ?_ ?_ ?_ ?_ ?_; rotate_left; assumption; with_unfolding_all exact fun _ _ => rfl; kernel_rfl; kernel_rfl; kernel_rfl
  | refine' TE.imethf0 ?_ ?_ ?_ ?_; rotate_left; assumption; with_unfolding_all exact fun _ _ => rfl; kernel_rfl)
local macro_rules | `(tactic| top_caught0) => `(tactic| with_reducible refine' TE.methf PySem.F.plainAttrs_dict sl_get ?_ ?_ ?_ ?_ ?_ ?_ ?_; with_unfolding_all kernel_rfl; exact rfl; exact fun _ _ => rfl; (iterate 3 kernel_rfl))
set_option hygiene true
section
variable {prog : Program} {w : World} {B : Base} {d : Nat} {Γ : Fn} {A : Around} {env : Env} {FA : List Nat} {l l' : List (Option V)} {own own' own'' : Own} {s s' s'' : Shared} {C : Ct} {P : Params}
theorem exI2 {α0 : Sort _} {α1 : Sort _} {p : α0 → α1 → Prop} (a0 : α0) (a1 : α1) (h : p a0 a1) : ∃ a0 a1, p a0 a1 := ⟨a0, a1, h⟩
theorem exI3 {α0 : Sort _} {α1 : Sort _} {α2 : Sort _} {p : α0 → α1 → α2 → Prop} (a0 : α0) (a1 : α1) (a2 : α2) (h : p a0 a1 a2) : ∃ a0 a1 a2, p a0 a1 a2 := ⟨a0, a1, a2, h⟩
theorem exI4 {α0 : Sort _} {α1 : Sort _} {α2 : Sort _} {α3 : Sort _} {p : α0 → α1 → α2 → α3 → Prop} (a0 : α0) (a1 : α1) (a2 : α2) (a3 : α3) (h : p a0 a1 a2 a3) : ∃ a0 a1 a2 a3, p a0 a1 a2 a3 := ⟨a0, a1, a2, a3, h⟩
theorem exI5 {α0 : Sort _} {α1 : Sort _} {α2 : Sort _} {α3 : Sort _} {α4 : Sort _} {p : α0 → α1 → α2 → α3 → α4 → Prop} (a0 : α0) (a1 : α1) (a2 : α2) (a3 : α3) (a4 : α4) (h : p a0 a1 a2 a3 a4) : ∃ a0 a1 a2 a3 a4, p a0 a1 a2 a3 a4 := ⟨a0, a1, a2, a3, a4, h⟩
theorem exI6 {α0 : Sort _} {α1 : Sort _} {α2 : Sort _} {α3 : Sort _} {α4 : Sort _} {α5 : Sort _} {p : α0 → α1 → α2 → α3 → α4 → α5 → Prop} (a0 : α0) (a1 : α1) (a2 : α2) (a3 : α3) (a4 : α4) (a5 : α5) (h : p a0 a1 a2 a3 a4 a5) : ∃ a0 a1 a2 a3 a4 a5, p a0 a1 a2 a3 a4 a5 := ⟨a0, a1, a2, a3, a4, a5, h⟩
theorem exI7 {α0 : Sort _} {α1 : Sort _} {α2 : Sort _} {α3 : Sort _} {α4 : Sort _} {α5 : Sort _} {α6 : Sort _} {p : α0 → α1 → α2 → α3 → α4 → α5 → α6 → Prop} (a0 : α0) (a1 : α1) (a2 : α2) (a3 : α3) (a4 : α4) (a5 : α5) (a6 : α6) (h : p a0 a1 a2 a3 a4 a5 a6) : ∃ a0 a1 a2 a3 a4 a5 a6, p a0 a1 a2 a3 a4 a5 a6 := ⟨a0, a1, a2, a3, a4, a5, a6, h⟩
theorem exI8 {α0 : Sort _} {α1 : Sort _} {α2 : Sort _} {α3 : Sort _} {α4 : Sort _} {α5 : Sort _} {α6 : Sort _} {α7 : Sort _} {p : α0 → α1 → α2 → α3 → α4 → α5 → α6 → α7 → Prop} (a0 : α0) (a1 : α1) (a2 : α2) (a3 : α3) (a4 : α4) (a5 : α5) (a6 : α6) (a7 : α7) (h : p a0 a1 a2 a3 a4 a5 a6 a7) : ∃ a0 a1 a2 a3 a4 a5 a6 a7, p a0 a1 a2 a3 a4 a5 a6 a7 := ⟨a0, a1, a2, a3, a4, a5, a6, a7, h⟩
theorem exI9 {α0 : Sort _} {α1 : Sort _} {α2 : Sort _} {α3 : Sort _} {α4 : Sort _} {α5 : Sort _} {α6 : Sort _} {α7 : Sort _} {α8 : Sort _} {p : α0 → α1 → α2 → α3 → α4 → α5 → α6 → α7 → α8 → Prop} (a0 : α0) (a1 : α1) (a2 : α2) (a3 : α3) (a4 : α4) (a5 : α5) (a6 : α6) (a7 : α7) (a8 : α8) (h : p a0 a1 a2 a3 a4 a5 a6 a7 a8) : ∃ a0 a1 a2 a3 a4 a5 a6 a7 a8, p a0 a1 a2 a3 a4 a5 a6 a7 a8 := ⟨a0, a1, a2, a3, a4, a5, a6, a7, a8, h⟩
theorem exI10 {α0 : Sort _} {α1 : Sort _} {α2 : Sort _} {α3 : Sort _} {α4 : Sort _} {α5 : Sort _} {α6 : Sort _} {α7 : Sort _} {α8 : Sort _} {α9 : Sort _} {p : α0 → α1 → α2 → α3 → α4 → α5 → α6 → α7 → α8 → α9 → Prop} (a0 : α0) (a1 : α1) (a2 : α2) (a3 : α3) (a4 : α4) (a5 : α5) (a6 : α6) (a7 : α7) (a8 : α8) (a9 : α9) (h : p a0 a1 a2 a3 a4 a5 a6 a7 a8 a9) : ∃ a0 a1 a2 a3 a4 a5 a6 a7 a8 a9, p a0 a1 a2 a3 a4 a5 a6 a7 a8 a9 := ⟨a0, a1, a2, a3, a4, a5, a6, a7, a8, a9, h⟩
theorem exI11 {α0 : Sort _} {α1 : Sort _} {α2 : Sort _} {α3 : Sort _} {α4 : Sort _} {α5 : Sort _} {α6 : Sort _} {α7 : Sort _} {α8 : Sort _} {α9 : Sort _} {α10 : Sort _} {p : α0 → α1 → α2 → α3 → α4 → α5 → α6 → α7 → α8 → α9 → α10 → Prop} (a0 : α0) (a1 : α1) (a2 : α2) (a3 : α3) (a4 : α4) (a5 : α5) (a6 : α6) (a7 : α7) (a8 : α8) (a9 : α9) (a10 : α10) (h : p a0 a1 a2 a3 a4 a5 a6 a7 a8 a9 a10) : ∃ a0 a1 a2 a3 a4 a5 a6 a7 a8 a9 a10, p a0 a1 a2 a3 a4 a5 a6 a7 a8 a9 a10 := ⟨a0, a1, a2, a3, a4, a5, a6, a7, a8, a9, a10, h⟩
noncomputable def bis (fs : List Int) (n : Int) : Nat → Nat → Nat → Nat
  | 0, low, _ => low
  | f + 1, low, high => if low < high then (if fs.getD ((low + high) / 2) 0 ≤ n then bis fs n f ((low + high) / 2 + 1) high else bis fs n f low ((low + high) / 2)) else low
noncomputable def pbh (fs : List Int) (n : Int) : Int := (bis fs n fs.length 0 fs.length : Int) - 1
theorem bis_out {fs : List Int} {n : Int} {f lo hi : Nat} (h : ¬ lo < hi) : bis fs n f lo hi = lo := by
  cases f with
  | zero => rfl
  | succ f => rw [bis, if_neg h]
theorem mid_lt {lo hi : Nat} (h : lo < hi) : lo ≤ (lo + hi) / 2 ∧ (lo + hi) / 2 < hi := by omega
theorem mid_eq (lo hi : Nat) : ((lo : Int) + hi).fdiv 2 = ((lo + hi) / 2 : Nat) := by
  rw [Int.fdiv_eq_ediv_of_nonneg _ (by decide)]; omega
theorem sub1 {a b f : Nat} (h : a - b ≤ f) (q : b < a) : ∃ g, f = g + 1 := ⟨f - 1, by omega⟩
theorem ix_hi {m n : Nat} (h : m < n) (k : n ≤ 100000) : (m : Int) < 2 ^ 63 := by omega
theorem up_lt {lo hi m : Nat} (a : lo ≤ m) (b : m < hi) : hi - (m + 1) < hi - lo := by omega
theorem dn_lt {lo hi m : Nat} (a : lo ≤ m) (b : m < hi) : m - lo < hi - lo := by omega
theorem tc_place (hB : B.K = KK P) {a : Nat} {fs : List Int} {n : Int} {Q : V → Own → Prop} (ho : own a = some (.list (fs.map V.int))) (hlen : fs.length ≤ 1000) (h : Q (.int (pbh fs n)) own) : TC prog w B (d + 1) (.ref 61) [.obj a, .int n] own Q := by
  refine TC.deff (dv := []) (D_place_by_half hB) F_place_by_half rfl rfl (fun _ => rfl) (by intro q h; cases h) ?_
  intro Kr hK
  have hz : (fs.map V.int).length ≤ sizeLine := by rw [List.length_map]; exact Nat.le_trans hlen size_1000
  refine TS.assignf (l := [some (.obj a), some (.int n), none, none, none]) (i := 2) (b := false) rfl rfl rfl (fun _ _ _ => rfl) ?_
  repeat tb_rel
  refine TN.len_list ho hz ?_
  refine TS.conss (TX.whilef (fun k l o => ∃ (f lo hi : Nat) (mid : Option V), l = [some (.obj a), some (.int n), some (.int lo), some (.int hi), mid] ∧ o = own ∧ hi ≤ fs.length ∧ k = hi - lo ∧ hi - lo ≤ f ∧ bis fs n f lo hi = bis fs n fs.length 0 fs.length) (fun k l o hI => ?_) fs.length (exI4 fs.length 0 fs.length none ⟨by simp, rfl, Nat.le_refl _, rfl, Nat.le_refl _, rfl⟩))
  obtain ⟨f, lo, hi, mid, rfl, rfl, h1, rfl, h2, h3⟩ := hI
  repeat tb_rel
  refine ⟨fun hc => ?_, fun hc => ?_⟩
  · have hc : ¬ lo < hi := by have := of_decide_eq_false hc; omega
    rw [bis_out hc] at h3
    repeat tb_rel
    show Q (.int ((lo : Int) - 1)) o
    rw [h3]; exact h
  · have hc : lo < hi := by have := of_decide_eq_true hc; omega
    obtain ⟨f, rfl⟩ := sub1 h2 hc
    rw [bis, if_pos hc] at h3
    repeat tb_rel
    rw [mid_eq]
    obtain ⟨u1, u2⟩ := mid_lt hc
    generalize (lo + hi) / 2 = m at h3 u1 u2 ⊢
    have hm1 : m < fs.length := Nat.lt_of_lt_of_le u2 h1
    refine TS.iff ?_
    repeat tb_rel
    refine T2.item_list (fun _ _ => rfl) ho (Int.natCast_nonneg m) (ix_hi hm1 (Nat.le_trans hlen (by decide))) (v := .int (fs.getD m 0)) (by simp [hm1]) ?_
    repeat tb_rel
    refine ⟨fun hq => ?_, fun hq => ?_⟩
    · have hq := of_decide_eq_true hq
      rw [if_pos hq] at h3
      repeat tb_rel
      exact ⟨_, up_lt u1 u2, exI4 f (m + 1) hi _ ⟨rfl, rfl, h1, rfl, Nat.le_of_lt_succ (Nat.lt_of_lt_of_le (up_lt u1 u2) h2), h3⟩⟩
    · have hq : ¬ fs.getD m 0 ≤ n := by have := of_decide_eq_false hq; exact this
      rw [if_neg hq] at h3
      repeat tb_rel
      exact ⟨_, dn_lt u1 u2, exI4 f lo m _ ⟨rfl, rfl, Nat.le_of_lt hm1, rfl, Nat.le_of_lt_succ (Nat.lt_of_lt_of_le (dn_lt u1 u2) h2), h3⟩⟩
theorem tc_ihs (hB : B.K = KK P) {c : Int} {Q : V → Own → Prop} (hc : c < 44032) (h : Q (.bool false) own) : TC prog w B (d + 1) (.ref 68) [.int c] own Q := by
  refine TC.deff (dv := []) (D_is_hangul_syllable hB) F_is_hangul_syllable rfl rfl (fun _ => rfl) (by intro q h; cases h) ?_
  intro Kr hK
  refine TS.retf (l := [some (.int c)]) ?_
  repeat tb_rel
  rw [decide_eq_false (by omega : ¬ (0 : Int) ≤ c - 44032)]
  repeat tb_rel
  exact h
theorem tc_hparts (hB : B.K = KK P) {c : Int} {Q : V → Own → Prop} (hc : c < 44032) (h : Q .none own) : TC prog w B (d + 2) (.ref 82) [.int c] own Q := by
  refine TC.deff (dv := []) (D_hangul_parts hB) F_hangul_parts rfl rfl (fun _ => rfl) (by intro q h; cases h) ?_
  intro Kr hK
  refine TS.iff (l := [some (.int c), none, none, none]) ?_
  repeat tb_rel
  refine tc_ihs hB hc ?_
  repeat tb_rel
  refine ⟨fun _ => ?_, (by first | exact tf | exact ft)⟩
  repeat tb_rel
  exact h
theorem tc_hpair (hB : B.K = KK P) {a b : Int} {Q : V → Own → Prop} (h1 : a < 44032) (h2 : a < 4352 ∨ 4371 ≤ a) (h : Q .none own) : TC prog w B (d + 2) (.ref 89) [.int a, .int b] own Q := by
  refine TC.deff (dv := []) (D_hangul_pair hB) F_hangul_pair rfl rfl (fun _ => rfl) (by intro q h; cases h) ?_
  intro Kr hK
  refine TS.assignf (l := [some (.int a), some (.int b), none, none]) (i := 2) (b := false) rfl rfl rfl (fun _ _ _ => rfl) ?_
  repeat tb_rel
  refine TS.ifj (fun l o => l = [some (.int a), some (.int b), some (.int (a - 4352)), some (.int (b - 4449))] ∧ o = own) ?_ ?_
  · repeat tb_rel
    cases hd1 : decide ((0 : Int) ≤ a - 4352) with
    | false =>
      repeat tb_rel
      refine ⟨(by first | exact tf | exact ft), fun _ => ?_⟩
      repeat tb_rel
      refine ⟨(by first | exact tf | exact ft), fun _ => ?_⟩
      repeat tb_rel
      exact ⟨rfl, rfl⟩
    | true =>
      repeat tb_rel
      rw [decide_eq_false (by have := of_decide_eq_true hd1; omega : ¬ a - 4352 < 19)]
      repeat tb_rel
      refine ⟨(by first | exact tf | exact ft), fun _ => ?_⟩
      repeat tb_rel
      refine ⟨(by first | exact tf | exact ft), fun _ => ?_⟩
      repeat tb_rel
      exact ⟨rfl, rfl⟩
  · rintro l o ⟨rfl, rfl⟩
    refine TS.iff ?_
    repeat tb_rel
    refine tc_ihs hB h1 ?_
    repeat tb_rel
    refine ⟨(by first | exact tf | exact ft), fun _ => ?_⟩
    repeat tb_rel
    refine ⟨(by first | exact tf | exact ft), fun _ => ?_⟩
    repeat tb_rel
    exact h
mutual
noncomputable def vOf : PyData → V
  | .none => .none
  | .bool b => .bool b
  | .int i => .int i
  | .str x => .str x.cps.toList
  | .tuple ds => .tup (vOfs ds)
  | _ => .none
noncomputable def vOfs : List PyData → List V
  | [] => []
  | d :: ds => vOf d :: vOfs ds
end
mutual
noncomputable def okIn : PyData → Bool
  | .none => true
  | .bool _ => true
  | .int _ => true
  | .str _ => true
  | .tuple ds => okIns ds
  | _ => false
noncomputable def okIns : List PyData → Bool
  | [] => true
  | d :: ds => okIn d && okIns ds
end
mutual
theorem rd_of : ∀ {d : PyData}, okIn d = true → Rd own (vOf d) d
  | .none, _ => .none
  | .bool b, _ => .bool b
  | .int i, _ => .int i
  | .str x, _ => by
    have : S x.cps.toList = x := rfl
    rw [vOf]
    have h := Rd.str (own := own) x.cps.toList
    rwa [this] at h
  | .tuple ds, h => by rw [vOf]; exact .tup (rds_of (by rwa [okIn] at h))
  | .list _, h => by simp [okIn] at h
  | .dict _, h => by simp [okIn] at h
theorem rds_of : ∀ {ds : List PyData}, okIns ds = true → RdAll own (vOfs ds) ds
  | [], _ => .nil
  | d :: ds, h => by
    rw [okIns, Bool.and_eq_true] at h
    exact .cons (rd_of h.1) (rds_of h.2)
end
noncomputable def noStr : PyData → Bool
  | .str _ => false
  | _ => true
noncomputable def okD (d : PyData) : Bool := okIn d && d.canLay0 && decide (d.depth ≤ 50) && noStr d
noncomputable def isB : PyData → Bool
  | .bool _ => true
  | _ => false
theorem isBool_of {d : PyData} : (vOf d).isBool = isB d := by cases d <;> rfl
theorem asked_of {d : PyData} (h : noStr d = true) : (vOf d).asked own := by cases d <;> first | exact trivial | cases h
noncomputable def rlike (a b : PyData) : Bool := PyData.eqv a b && (isB a == isB b)
theorem TE.isboolf {x y : Str} {np np2 pos : Pos} {e : Expr} {Q : V → Own → Prop} (hB : B.K = KK P) (e1 : eqS x y5 = true) (e2 : eqS y y6 = true) (hx : memS x Γ.glb = true) (hy : memS y Γ.glb = true) (hs : noStar [e] = true)
    (h : TE prog w B d Γ e l own (fun v own₁ => v.asked own₁ ∧ Q (.bool v.isBool) own₁)) : TE prog w B d Γ (.Call (.Name x np) [e, .Name y np2] [] pos) l own Q := by
  have e1 := eqS_iff.mp e1
  have e2 := eqS_iff.mp e2
  subst e1; subst e2
  exact TE.isbool (memS_iff hx) (notDbg (bn_isinstance (P := P)).hd) (by rw [hB]; exact bn_isinstance.en) (bn_isinstance (P := P)).hv (bn_isinstance (P := P)).ne (memS_iff hy) (notDbg (bn_bool (P := P)).hd) (by rw [hB]; exact bn_bool.en) (bn_bool (P := P)).hv (bn_bool (P := P)).ne hs h
theorem T2.eqb {a b : Bool} {Q : V → Own → Prop} (h : Q (.bool (a == b)) own) : T2 prog w B (compareOp .Eq) (.bool a) (.bool b) own Q :=
  T2.eq (.bool a) (.bool b) rfl rfl (Nat.zero_le _) h
theorem tc_like (hB : B.K = KK P) {a b : PyData} {Q : V → Own → Prop} (ha : okD a = true) (hb : okD b = true) (h : Q (.bool (rlike a b)) own) : TC prog w B (d + 1) (.ref 224) [vOf a, vOf b] own Q := by
  unfold okD at ha hb
  simp only [Bool.and_eq_true, decide_eq_true_eq] at ha hb
  obtain ⟨⟨⟨a1, a2⟩, a3⟩, a4⟩ := ha
  obtain ⟨⟨⟨b1, b2⟩, b3⟩, b4⟩ := hb
  refine TC.deff (dv := []) (D_range_are_like hB) F_range_are_like rfl rfl (fun _ => rfl) (by intro q h; cases h) ?_
  intro Kr hK
  refine TS.retf (l := [some (vOf a), some (vOf b)]) ?_
  refine TE.andb ?_
  repeat tb_rel
  refine T2.eq (rd_of a1) (rd_of b1) a2 b2 (Nat.le_trans (Nat.min_le_left _ _) (Nat.le_trans a3 (by decide))) ?_
  unfold rlike at h
  refine ⟨_, rfl, fun e => ?_, fun e => ?_⟩
  · rw [e] at h; exact hK.rt _ _ _ h
  · rw [e] at h
    tb_rel
    refine TE.isboolf hB (by kernel_rfl) (by kernel_rfl) (by kernel_rfl) (by kernel_rfl) (by kernel_rfl) ?_
    repeat tb_rel
    refine ⟨asked_of a4, ?_⟩
    refine TE.isboolf hB (by kernel_rfl) (by kernel_rfl) (by kernel_rfl) (by kernel_rfl) (by kernel_rfl) ?_
    repeat tb_rel
    refine ⟨asked_of b4, T2.eqb ?_⟩
    rw [isBool_of, isBool_of]
    exact hK.rt _ _ _ h
structure RM where
  dflt : PyData
  starts : List Int
  vals : List PyData
theorem vOfs_map : ∀ ds : List PyData, vOfs ds = ds.map vOf
  | [] => rfl
  | d :: ds => by rw [vOfs, vOfs_map ds]; rfl
structure IsRM (own : Own) (r d : Nat) (m : RM) : Prop where
  ex : ∃ s v, own r = some (.inst 267 d) ∧ own d = some (.dicta [(z109, vOf m.dflt), (z114, .obj s), (z115, .obj v)]) ∧ own s = some (.list (m.starts.map V.int)) ∧ own v = some (.list (m.vals.map vOf))
  ls : m.starts.length ≤ 900
  lv : m.vals.length ≤ 900
noncomputable def item (xs : List PyData) (k : Int) : Option PyData := if 0 ≤ k then xs[k.toNat]? else none
noncomputable def rmGet (m : RM) (c : Int) : Option PyData := item m.vals (pbh m.starts c)
theorem item_at {xs : List PyData} {k : Int} {v : PyData} (h : item xs k = some v) : 0 ≤ k ∧ xs[k.toNat]? = some v ∧ k < xs.length := by
  unfold item at h
  split at h
  · rename_i h0
    refine ⟨h0, h, ?_⟩
    have := (List.getElem?_eq_some_iff.mp h).1
    omega
  · cases h
theorem T2.item_vals {a b : Expr} {o : Nat} {xs : List PyData} {k : Int} {v : PyData} {Q : V → Own → Prop} (hs : PlainSub b) (ho : own o = some (.list (xs.map vOf))) (hz : xs.length ≤ 900) (hv : item xs k = some v) (h : Q (vOf v) own) :
    T2 prog w B (subscriptTail a b) (.obj o) (.int k) own Q := by
  obtain ⟨h0, h1, h2⟩ := item_at hv
  exact T2.item_list hs ho h0 (by omega) (v := vOf v) (by rw [List.getElem?_map, h1]; rfl) h
theorem tc_rmget (hB : B.K = KK P) {r d' : Nat} {m : RM} {c : Int} {v : PyData} {Q : V → Own → Prop} (R : IsRM own r d' m) (hv : rmGet m c = some v) (h : Q (vOf v) own) : TC prog w B (d + 2) (.ref 245) [.obj r, .int c] own Q := by
  obtain ⟨⟨s, vv, h1, h2, h3, h4⟩, ls, lv⟩ := R
  refine TC.deff (dv := []) (D_RangeMap_get hB) F_RangeMap_get rfl rfl (fun _ => rfl) (by intro q h; cases h) ?_
  intro Kr hK
  refine TS.retf (l := [some (.obj r), some (.int c)]) ?_
  repeat tb_rel
  refine tc_place hB h3 (Nat.le_trans ls (by decide)) ?_
  exact T2.item_vals (fun _ _ => rfl) h4 lv hv (hK.ret h)
noncomputable def pick {α : Type} (xs : List α) (lo hi : Option Int) : List α := (xs.drop (lo.elim 0 (clipAt xs.length))).take (hi.elim xs.length (clipAt xs.length) - lo.elim 0 (clipAt xs.length))
theorem vpick_map {α : Type} (f : α → V) (xs : List α) (lo hi : Option Int) : vpick (xs.map f) lo hi = (pick xs lo hi).map f := by
  unfold vpick pick
  rw [List.length_map, List.map_take, List.map_drop]
theorem pick_le {α : Type} (xs : List α) (lo hi : Option Int) : (pick xs lo hi).length ≤ xs.length := by
  unfold pick
  rw [List.length_take, List.length_drop]
  exact Nat.le_trans (Nat.min_le_right _ _) (Nat.sub_le _ _)
noncomputable def rmCut (first last : Int) (v behind : PyData) : List Int × List PyData :=
  if last < 1114111 ∧ rlike behind v = false then ([first, last + 1], [v, behind]) else ([first], [v])
noncomputable def rmLike (m : RM) (low : Int) (v : PyData) : Option Bool := if 0 < low then (item m.vals (low - 1)).map fun x => rlike x v else some false
noncomputable def rmSmall (m : RM) : Option RM := if m.starts.length ≤ 900 ∧ m.vals.length ≤ 900 then some m else none
noncomputable def rmPut (m : RM) (first last : Int) (v : PyData) : Option RM :=
  if first ≤ last ∧ m.vals.all okD = true ∧ okD v = true then
    match item m.vals (pbh m.starts (last + 1) + 1 - 1), rmLike m (pbh m.starts (first - 1) + 1) v with
    | some behind, some c => rmSmall ⟨m.dflt, pick m.starts none (some (pbh m.starts (first - 1) + 1)) ++ (if c then pick (rmCut first last v behind).1 (some 1) none else (rmCut first last v behind).1) ++ pick m.starts (some (pbh m.starts (last + 1) + 1)) none,
        pick m.vals none (some (pbh m.starts (first - 1) + 1)) ++ (if c then pick (rmCut first last v behind).2 (some 1) none else (rmCut first last v behind).2) ++ pick m.vals (some (pbh m.starts (last + 1) + 1)) none⟩
    | _, _ => none
  else none
theorem rmSmall_at {x m : RM} (h : rmSmall x = some m) : m = x ∧ m.starts.length ≤ 900 ∧ m.vals.length ≤ 900 := by
  unfold rmSmall at h
  split at h
  · rename_i h5
    cases h
    exact ⟨rfl, h5.1, h5.2⟩
  · cases h
theorem rmPut_at {m m' : RM} {first last : Int} {v : PyData} (h : rmPut m first last v = some m') : first ≤ last ∧ (∀ x ∈ m.vals, okD x = true) ∧ okD v = true ∧ ∃ behind c, item m.vals (pbh m.starts (last + 1) + 1 - 1) = some behind ∧ rmLike m (pbh m.starts (first - 1) + 1) v = some c ∧
    m' = ⟨m.dflt, pick m.starts none (some (pbh m.starts (first - 1) + 1)) ++ (if c then pick (rmCut first last v behind).1 (some 1) none else (rmCut first last v behind).1) ++ pick m.starts (some (pbh m.starts (last + 1) + 1)) none,
        pick m.vals none (some (pbh m.starts (first - 1) + 1)) ++ (if c then pick (rmCut first last v behind).2 (some 1) none else (rmCut first last v behind).2) ++ pick m.vals (some (pbh m.starts (last + 1) + 1)) none⟩ ∧ m'.starts.length ≤ 900 ∧ m'.vals.length ≤ 900 := by
  unfold rmPut at h
  by_cases h0 : first ≤ last ∧ m.vals.all okD = true ∧ okD v = true
  · rw [if_pos h0] at h
    cases e1 : item m.vals (pbh m.starts (last + 1) + 1 - 1) with
    | none => rw [e1] at h; cases h
    | some behind =>
      cases e2 : rmLike m (pbh m.starts (first - 1) + 1) v with
      | none => rw [e1, e2] at h; cases h
      | some c =>
        rw [e1, e2] at h
        obtain ⟨k1, k2, k3⟩ := rmSmall_at h
        exact ⟨h0.1, List.all_eq_true.mp h0.2.1, h0.2.2, behind, c, rfl, rfl, k1, k2, k3⟩
  · rw [if_neg h0] at h; cases h
theorem item_ok {xs : List PyData} {k : Int} {v : PyData} (h : item xs k = some v) (hx : ∀ x ∈ xs, okD x = true) : okD v = true := hx v (List.mem_of_getElem? (item_at h).2.1)
theorem small {α : Type} {xs : List α} {n : Nat} (h : xs.length ≤ n) (hn : Nat.ble n 1000 = true) : xs.length ≤ 1000 := Nat.le_trans h (Nat.le_of_ble_eq_true hn)
theorem fits {n : Nat} (h : n ≤ 4000) : n ≤ sizeLine := Nat.le_trans h (by rw [show sizeLine = 16777216 from rfl]; decide)
theorem mlen {α : Type} {f : α → V} {xs : List α} {n : Nat} (h : xs.length ≤ n) : (xs.map f).length ≤ n := by rwa [List.length_map]
theorem T2.item_nat {a b : Expr} {o m : Nat} {vs : List V} {v : V} {Q : V → Own → Prop} (hs : PlainSub b) (ho : own o = some (.list vs)) (hl : vs.length ≤ 1000) (hv : vs[m]? = some v) (h : Q v own) : T2 prog w B (subscriptTail a b) (.obj o) (.int m) own Q :=
  T2.item_list hs ho (Int.natCast_nonneg m) (ix_hi (List.getElem?_eq_some_iff.mp hv).1 (Nat.le_trans hl (by decide))) hv h
theorem getI {fs : List Int} {m : Nat} (h : m < fs.length) : (fs.map V.int)[m]? = some (.int (fs.getD m 0)) := by simp [h]
theorem mlen4 {α : Type} {f : α → V} {xs : List α} (h : xs.length ≤ 1000) : (xs.map f).length ≤ sizeLine := by rw [List.length_map]; exact fits (Nat.le_trans h (by decide))
theorem len_succ {i n k : Nat} (h : i + (n + 1) = k) : i + 1 + n = k := by omega
theorem acc_succ {α : Type} {xs : List α} {x : α} {n k : Nat} (h : xs.length + (n + 1) ≤ k) : (xs ++ [x]).length + n ≤ k := by rw [List.length_append, List.length_singleton]; omega
theorem acc_le {a n k : Nat} (h : a + (n + 1) ≤ k) (q : Nat.ble k 1000 = true) : a ≤ 1000 := Nat.le_trans (Nat.le_trans (Nat.le_add_right _ _) h) (Nat.le_of_ble_eq_true q)
theorem cut_le (first last : Int) (v behind : PyData) : (rmCut first last v behind).1.length ≤ 2 ∧ (rmCut first last v behind).2.length ≤ 2 := by
  unfold rmCut; split <;> exact ⟨by simp, by simp⟩
theorem tc_rmput (hB : B.K = KK P) {r dd : Nat} {m m' : RM} {first last : Int} {v : PyData} {Q : V → Own → Prop} (R : IsRM own r dd m) (hput : rmPut m first last v = some m')
    (h : ∀ own', IsRM own' r dd m' → (∀ b o, own b = some o → b ≠ dd → own' b = some o) → Q .none own') : TC prog w B (d + 2) (.ref 252) [.obj r, .int first, .int last, vOf v] own Q := by
  obtain ⟨⟨s, vv, h1, h2, h3, h4⟩, ls, lv⟩ := R
  obtain ⟨p1, p2, p3, behind, c, p4, p5, p6, p7, p8⟩ := rmPut_at hput
  generalize hlow : pbh m.starts (first - 1) + 1 = low at p4 p5 p6
  generalize hhigh : pbh m.starts (last + 1) + 1 = high at p4 p5 p6
  refine TC.deff (dv := []) (D_RangeMap_put hB) F_RangeMap_put rfl rfl (fun _ => rfl) (by intro q h; cases h) ?_
  intro Kr hK
  refine TS.ifj (l := [some (.obj r), some (.int first), some (.int last), some (vOf v), none, none, none, none, none]) (fun l o => l = [some (.obj r), some (.int first), some (.int last), some (vOf v), none, none, none, none, none] ∧ o = own) ?_ ?_
  · repeat tb_rel
    rw [decide_eq_false (Int.not_lt.mpr p1)]
    refine ⟨(by first | exact tf | exact ft), fun _ => ?_⟩
    repeat tb_rel
    exact ⟨rfl, rfl⟩
  rintro l o ⟨rfl, rfl⟩
  repeat tb_rel
  refine tc_place hB h3 (Nat.le_trans ls (by decide)) ?_
  repeat tb_rel
  rw [hlow]
  refine tc_place hB h3 (Nat.le_trans ls (by decide)) ?_
  repeat tb_rel
  rw [hhigh]
  refine T2.item_vals (fun _ _ => rfl) h4 lv p4 ?_
  repeat tb_rel
  refine fun s1 (hs1 : Fresh _ s1) => ?_
  repeat tb_rel
  refine fun v1 (hv1 : Fresh _ v1) => ?_
  have hcut : rmCut first last v behind = if last < 1114111 ∧ rlike behind v = false then ([first, last + 1], [v, behind]) else ([first], [v]) := rfl
  refine TS.ifj (fun l o' => l = [some (.obj r), some (.int first), some (.int last), some (vOf v), some (.int low), some (.int high), some (vOf behind), some (.obj s1), some (.obj v1)] ∧ Sub o o' ∧ o' s1 = some (.list ((rmCut first last v behind).1.map V.int)) ∧ o' v1 = some (.list ((rmCut first last v behind).2.map vOf))) ?_ ?_
  · repeat tb_rel
    refine ⟨fun hc1 => ?_, fun hc1 => ?_⟩
    · have hc1 := of_decide_eq_true hc1
      repeat tb_rel
      refine tc_like hB (item_ok p4 p2) p3 ?_
      repeat tb_rel
      refine ⟨fun hc2 => ?_, fun hc2 => ?_⟩
      · have hc2 : rlike behind v = false := by simpa using hc2
        rw [if_pos ⟨hc1, hc2⟩] at hcut
        repeat tb_rel
        refine ⟨fun _ => ?_, (by first | exact tf | exact ft)⟩
        repeat tb_rel
        refine ⟨.list (by tb_start), ?_⟩
        repeat tb_rel
        refine TN.append (by tb_start) (fits (by simp)) ?_
        repeat tb_rel
        refine ⟨.list (by tb_start), ?_⟩
        repeat tb_rel
        refine TN.append (by tb_start) (fits (by simp)) ?_
        repeat tb_rel
        refine ⟨rfl, by top_raise0, ?_, ?_⟩
        · rw [hcut]; top_args
        · rw [hcut]; top_args
      · have hc2 : rlike behind v = true := by simpa using hc2
        rw [if_neg (fun q => by rw [hc2] at q; exact absurd q.2 (by simp))] at hcut
        refine ⟨(by first | exact tf | exact ft), fun _ => ?_⟩
        repeat tb_rel
        refine ⟨rfl, by top_raise0, ?_, ?_⟩
        · rw [hcut]; top_args
        · rw [hcut]; top_args
    · have hc1 := of_decide_eq_false hc1
      rw [if_neg (fun q => hc1 q.1)] at hcut
      refine ⟨(by first | exact tf | exact ft), fun _ => ?_⟩
      repeat tb_rel
      refine ⟨rfl, by top_raise0, ?_, ?_⟩
      · rw [hcut]; top_args
      · rw [hcut]; top_args
  obtain ⟨cl1, cl2⟩ := cut_le first last v behind
  generalize rmCut first last v behind = cut at *
  rintro l o2 ⟨rfl, hsub, g1, g2⟩
  refine TS.ifj (fun l o' => ∃ s2 v2, l = [some (.obj r), some (.int first), some (.int last), some (vOf v), some (.int low), some (.int high), some (vOf behind), some (.obj s2), some (.obj v2)] ∧ Sub o o' ∧ o' s2 = some (.list ((if c then pick cut.1 (some 1) none else cut.1).map V.int)) ∧ o' v2 = some (.list ((if c then pick cut.2 (some 1) none else cut.2).map vOf))) ?_ ?_
  · unfold rmLike at p5
    repeat tb_rel
    refine ⟨fun hc1 => ?_, fun hc1 => ?_⟩
    · have hc1 := of_decide_eq_true hc1
      rw [if_pos hc1] at p5
      cases hit : item m.vals (low - 1) with
      | none => rw [hit] at p5; cases p5
      | some x =>
        rw [hit] at p5
        have p5 : rlike x v = c := by simpa using p5
        repeat tb_rel
        refine T2.item_vals (fun _ _ => rfl) (by tb_start) lv hit ?_
        repeat tb_rel
        refine tc_like hB (item_ok hit p2) p3 ?_
        repeat tb_rel
        rw [p5]
        cases c with
        | false =>
          refine ⟨(by first | exact tf | exact ft), fun _ => ?_⟩
          refine ⟨(by first | exact tf | exact ft), fun _ => ?_⟩
          repeat tb_rel
          exact (exI2 s1 v1 ⟨rfl, hsub, g1, g2⟩)
        | true =>
          refine ⟨fun _ => ?_, (by first | exact tf | exact ft)⟩
          repeat tb_rel
          refine ⟨fun _ => ?_, (by first | exact tf | exact ft)⟩
          repeat tb_rel
          refine SliceOf.mk (by tb_start) (mlen (Nat.le_trans cl1 (by decide))) rfl rfl fun s2 (hs2 : Fresh _ s2) => ?_
          rw [vpick_map]
          repeat tb_rel
          refine SliceOf.mk (by tb_start) (mlen (Nat.le_trans cl2 (by decide))) rfl rfl fun v2 (hv2 : Fresh _ v2) => ?_
          rw [vpick_map]
          repeat tb_rel
          exact (exI2 s2 v2 ⟨rfl, by top_raise0, by top_args, by top_args⟩)
    · have hc1 := of_decide_eq_false hc1
      rw [if_neg hc1] at p5
      cases p5
      refine ⟨(by first | exact tf | exact ft), fun _ => ?_⟩
      repeat tb_rel
      exact (exI2 s1 v1 ⟨rfl, hsub, g1, g2⟩)
  intro l o3 ha_; (with_reducible refine exE2 ha_ fun s2 v2 hb_ => aE4 hb_ fun q0_ hsub3 k1 k2 => ?_); clear ha_ hb_; subst q0_
  have bl1 : (if c = true then pick cut.1 (some 1) none else cut.1).length ≤ 2 := by
    split
    · exact Nat.le_trans (pick_le _ _ _) cl1
    · exact cl1
  have bl2 : (if c = true then pick cut.2 (some 1) none else cut.2).length ≤ 2 := by
    split
    · exact Nat.le_trans (pick_le _ _ _) cl2
    · exact cl2
  generalize (if c = true then pick cut.1 (some 1) none else cut.1) = mid1 at *
  generalize (if c = true then pick cut.2 (some 1) none else cut.2) = mid2 at *
  have b1 := Nat.le_trans (pick_le m.starts none (some low)) ls
  have b2 := Nat.le_trans (pick_le m.starts (some high) none) ls
  have b3 := Nat.le_trans (pick_le m.vals none (some low)) lv
  have b4 := Nat.le_trans (pick_le m.vals (some high) none) lv
  repeat tb_rel
  refine SliceOf.mk (by tb_start) (mlen (small ls rfl)) rfl rfl fun a1 (ha1 : Fresh _ a1) => ?_
  rw [vpick_map]
  repeat tb_rel
  refine T2.addl (by tb_start) (by tb_start) (fits (by simp only [List.length_map]; omega)) fun a2 (ha2 : Fresh _ a2) => ?_
  rw [← List.map_append]
  repeat tb_rel
  refine SliceOf.mk (by tb_start) (mlen (small ls rfl)) rfl rfl fun a3 (ha3 : Fresh _ a3) => ?_
  rw [vpick_map]
  repeat tb_rel
  refine T2.addl (by tb_start) (by tb_start) (fits (by simp only [List.length_map, List.length_append]; omega)) fun a4 (ha4 : Fresh _ a4) => ?_
  rw [← List.map_append]
  repeat tb_rel
  have n1 : r ≠ dd := fun q => by rw [q, h2] at h1; cases h1
  have n2 : vv ≠ dd := fun q => by rw [q, h2] at h4; cases h4
  have n3 : s2 ≠ dd := fun q => by
    have e := hsub3 _ _ h2
    rw [← q, k1] at e; cases e
  have n4 : v2 ≠ dd := fun q => by
    have e := hsub3 _ _ h2
    rw [← q, k2] at e; cases e
  repeat tb_rel
  refine SliceOf.mk (by tb_start) (mlen (small lv rfl)) rfl rfl fun c1 (hc1 : Fresh _ c1) => ?_
  rw [vpick_map]
  repeat tb_rel
  refine T2.addl (by tb_start) (by tb_start) (fits (by simp only [List.length_map]; omega)) fun c2 (hc2 : Fresh _ c2) => ?_
  rw [← List.map_append]
  repeat tb_rel
  refine SliceOf.mk (by tb_start) (mlen (small lv rfl)) rfl rfl fun c3 (hc3 : Fresh _ c3) => ?_
  rw [vpick_map]
  repeat tb_rel
  refine T2.addl (by tb_start) (by tb_start) (fits (by simp only [List.length_map, List.length_append]; omega)) fun c4 (hc4 : Fresh _ c4) => ?_
  rw [← List.map_append]
  repeat tb_rel
  show Q .none _
  refine h _ ⟨(exI2 a4 c4 ⟨by tb_start, ?_, ?_, ?_⟩), p7, p8⟩ ?_
  · rw [p6]; exact Own.put_self _ _ _
  · rw [p6]; top_args
  · rw [p6]; top_args
  · intro b ob hb nb
    tb_start
structure DT where
  defs : List (List Nat × V)
  map : List (List Nat × RM)
inductive MapsAre (own : Own) : List (List Nat × V) → List Nat → List (List Nat × RM) → Prop
  | nil : MapsAre own [] [] []
  | cons {k : List Nat} {a dd : Nat} {m : RM} {r : List (List Nat × V)} {ds : List Nat} {t : List (List Nat × RM)} : IsRM own a dd m → MapsAre own r ds t → MapsAre own ((k, .obj a) :: r) (dd :: ds) ((k, m) :: t)
theorem IsRM.keep {o o' : Own} {r dd c : Nat} {m : RM} (R : IsRM o r dd m) (h : ∀ b x, o b = some x → b ≠ c → o' b = some x) (n1 : dd ≠ c) (n2 : ∀ x y, o c ≠ some (.inst x y)) (n3 : ∀ vs, o c ≠ some (.list vs)) : IsRM o' r dd m := by
  obtain ⟨⟨s, vv, h1, h2, h3, h4⟩, ls, lv⟩ := R
  exact ⟨⟨s, vv, h _ _ h1 (fun q => n2 _ _ (q ▸ h1)), h _ _ h2 n1, h _ _ h3 (fun q => n3 _ (q ▸ h3)), h _ _ h4 (fun q => n3 _ (q ▸ h4))⟩, ls, lv⟩
theorem IsRM.sub {o o' : Own} {r dd : Nat} {m : RM} (R : IsRM o r dd m) (h : Sub o o') : IsRM o' r dd m := by
  obtain ⟨⟨s, vv, h1, h2, h3, h4⟩, ls, lv⟩ := R
  exact ⟨⟨s, vv, h _ _ h1, h _ _ h2, h _ _ h3, h _ _ h4⟩, ls, lv⟩
theorem IsRM.dd {o : Own} {r dd : Nat} {m : RM} (R : IsRM o r dd m) : ∃ x, o dd = some (.dicta x) := by
  obtain ⟨⟨s, vv, h1, h2, h3, h4⟩, ls, lv⟩ := R
  exact ⟨_, h2⟩
theorem MapsAre.keep {o o' : Own} {c : Nat} {maps : List (List Nat × V)} {ds : List Nat} {mp : List (List Nat × RM)} (q : MapsAre o maps ds mp) (h : ∀ b x, o b = some x → b ≠ c → o' b = some x) (n1 : c ∉ ds) (n2 : ∀ x y, o c ≠ some (.inst x y)) (n3 : ∀ vs, o c ≠ some (.list vs)) : MapsAre o' maps ds mp := by
  induction q with
  | nil => exact .nil
  | cons R q ih => exact .cons (R.keep h (fun e => n1 (e ▸ .head _)) n2 n3) (ih (fun e => n1 (.tail _ e)))
theorem MapsAre.sub {o o' : Own} {maps : List (List Nat × V)} {ds : List Nat} {mp : List (List Nat × RM)} (q : MapsAre o maps ds mp) (h : Sub o o') : MapsAre o' maps ds mp := by
  induction q with
  | nil => exact .nil
  | cons R q ih => exact .cons (R.sub h) ih
theorem MapsAre.mem {o : Own} {maps : List (List Nat × V)} {ds : List Nat} {mp : List (List Nat × RM)} (q : MapsAre o maps ds mp) : ∀ b ∈ ds, ∃ x, o b = some (.dicta x) := by
  induction q with
  | nil => intro b hb; cases hb
  | cons R q ih =>
    intro b hb
    rcases List.mem_cons.mp hb with e | e
    · rw [e]; exact R.dd
    · exact ih b e
theorem MapsAre.at {o : Own} {maps : List (List Nat × V)} {ds : List Nat} {mp : List (List Nat × RM)} (q : MapsAre o maps ds mp) (k : List Nat) : match mp.lookup k with
    | some m => ∃ a dd, kget maps k = some (.obj a) ∧ IsRM o a dd m ∧ dd ∈ ds
    | none => kget maps k = none := by
  induction q with
  | nil => rfl
  | @cons k' a dd m r ds t R q ih =>
    rw [List.lookup_cons]
    by_cases e : k = k'
    · subst e
      simp only [beq_self_eq_true]
      exact (exI2 a dd ⟨by unfold kget; rw [List.lookup_cons]; simp, R, .head _⟩)
    · have e2 : (k == k') = false := by simpa using e
      rw [e2]
      have e3 : kget ((k', V.obj a) :: r) k = kget r k := by unfold kget; rw [List.lookup_cons, e2]
      rw [e3]
      revert ih
      cases t.lookup k with
      | none => exact id
      | some m' => rintro ⟨a', d', h1, h2, h3⟩; exact (exI2 a' d' ⟨h1, h2, .tail _ h3⟩)
structure IsData (own : Own) (m : Nat) (F : List Nat) (D : DT) : Prop where
  ex : ∃ dm D0 M p w maps ds, own m = some (.inst 323 dm) ∧ own dm = some (.dicta [(z131, .obj D0), (z132, .obj M), (z133, .obj p), (z101, .obj w)]) ∧ own D0 = some (.dicts D.defs) ∧ own M = some (.dicts maps) ∧ MapsAre own maps ds D.map ∧ (dm :: ds).Nodup ∧ D0 ≠ M ∧ F = M :: ds
  small : D.map.length ≤ 100
theorem IsData.sub {o o' : Own} {m : Nat} {F : List Nat} {D : DT} (I : IsData o m F D) (h : Sub o o') : IsData o' m F D := by
  obtain ⟨⟨dm, D0, M, p, w, maps, ds, h1, h2, h3, h4, h5, h6, h7, h8⟩, hs⟩ := I
  exact ⟨⟨dm, D0, M, p, w, maps, ds, h _ _ h1, h _ _ h2, h _ _ h3, h _ _ h4, h5.sub h, h6, h7, h8⟩, hs⟩
noncomputable def isDD : O → Bool
  | .dicts _ => true
  | .dicta _ => true
  | _ => false
theorem IsData.kind {o : Own} {m : Nat} {F : List Nat} {D : DT} (I : IsData o m F D) : ∀ x ∈ F, ∃ y, o x = some y ∧ isDD y = true := by
  obtain ⟨⟨dm, D0, M, p, w, maps, ds, h1, h2, h3, h4, h5, h6, h7, h8⟩, hs⟩ := I
  intro x hx
  rw [h8] at hx
  rcases List.mem_cons.mp hx with e | e
  · rw [e]; exact ⟨_, h4, rfl⟩
  · obtain ⟨y, e⟩ := h5.mem x e
    exact ⟨_, e, rfl⟩
structure Fp (F F' : List Nat) (own own' : Own) : Prop where
  sub : ∀ x ∈ F', x ∈ F ∨ Fresh own x
  fr : ∀ b x, own b = some x → b ∉ F → own' b = some x
noncomputable def setK (k : List Nat) (x : RM) : List (List Nat × RM) → List (List Nat × RM)
  | [] => []
  | (k', m) :: t => if k = k' then (k', x) :: t else (k', m) :: setK k x t
theorem MapsAre.upd {o : Own} {maps : List (List Nat × V)} {ds : List Nat} {mp : List (List Nat × RM)} (q : MapsAre o maps ds mp) (nd : ds.Nodup) {k : List Nat} {rm : RM} (hk : mp.lookup k = some rm) : ∃ a dd, kget maps k = some (.obj a) ∧ IsRM o a dd rm ∧ dd ∈ ds ∧
    ∀ o' rm', IsRM o' a dd rm' → (∀ b x, o b = some x → b ≠ dd → o' b = some x) → MapsAre o' maps ds (setK k rm' mp) := by
  induction q with
  | nil => cases hk
  | @cons k' a dd m r ds t R q ih =>
    obtain ⟨n1, n2⟩ := List.nodup_cons.mp nd
    rw [List.lookup_cons] at hk
    by_cases e : k = k'
    · subst e
      simp only [beq_self_eq_true] at hk
      cases hk
      refine (exI2 a dd ⟨by unfold kget; rw [List.lookup_cons]; simp, R, .head _, fun o' rm' R' fr => ?_⟩)
      unfold setK
      rw [if_pos rfl]
      obtain ⟨x, ex⟩ := R.dd
      exact .cons R' (q.keep fr n1 (fun x y e => by rw [ex] at e; cases e) (fun x e => by rw [ex] at e; cases e))
    · have e2 : (k == k') = false := by simpa using e
      rw [e2] at hk
      obtain ⟨a', d', h1, h2, h3, h4⟩ := ih n2 hk
      refine (exI2 a' d' ⟨by unfold kget at h1 ⊢; rw [List.lookup_cons, e2]; exact h1, h2, .tail _ h3, fun o' rm' R' fr => ?_⟩)
      unfold setK
      rw [if_neg e]
      obtain ⟨x, ex⟩ := h2.dd
      exact .cons (R.keep fr (fun q => n1 (q ▸ h3)) (fun x y e => by rw [ex] at e; cases e) (fun x e => by rw [ex] at e; cases e)) (h4 o' rm' R' fr)
theorem setK_len (k : List Nat) (x : RM) : ∀ mp : List (List Nat × RM), (setK k x mp).length = mp.length
  | [] => rfl
  | (k', m) :: t => by
    unfold setK
    split
    · rfl
    · rw [List.length_cons, List.length_cons, setK_len k x t]
structure MapAt (own : Own) (m : Nat) (F : List Nat) (D : DT) (k : List Nat) (a dd : Nat) (rm : RM) : Prop where
  rm : IsRM own a dd rm
  mem : dd ∈ F
  upd : ∀ o' rm', IsRM o' a dd rm' → (∀ b x, own b = some x → b ≠ dd → o' b = some x) → IsData o' m F { D with map := setK k rm' D.map }
theorem IsData.at {m : Nat} {F : List Nat} {D : DT} {k : List Nat} {rm : RM} (I : IsData own m F D) (hk : D.map.lookup k = some rm) : ∃ dm D0 M p w maps a dd, own m = some (.inst 323 dm) ∧ own dm = some (.dicta [(z131, .obj D0), (z132, .obj M), (z133, .obj p), (z101, .obj w)]) ∧ own M = some (.dicts maps) ∧ kget maps k = some (.obj a) ∧ MapAt own m F D k a dd rm := by
  obtain ⟨⟨dm, D0, M, p, w, maps, ds, h1, h2, h3, h4, h5, h6, h7, h8⟩, hs⟩ := I
  obtain ⟨x1, x2⟩ := List.nodup_cons.mp h6
  obtain ⟨a, dd, e1, e2, e3, e4⟩ := h5.upd x2 hk
  obtain ⟨x, ex⟩ := e2.dd
  refine ⟨dm, D0, M, p, w, maps, a, dd, h1, h2, h4, e1, e2, by rw [h8]; exact .tail _ e3, fun o' rm' R' fr => ⟨⟨dm, D0, M, p, w, maps, ds, fr _ _ h1 (fun q => by rw [q, ex] at h1; cases h1), fr _ _ h2 (fun q => x1 (q ▸ e3)), fr _ _ h3 (fun q => by rw [q, ex] at h3; cases h3), fr _ _ h4 (fun q => by rw [q, ex] at h4; cases h4), e4 o' rm' R' fr, h6, h7, h8⟩, by rw [setK_len]; exact hs⟩⟩
theorem tc_rminit (hB : B.K = KK P) {a da : Nat} {v : PyData} {Q : V → Own → Prop} (h1 : own a = some (.inst 267 da)) (h2 : own da = some (.dicta []))
    (h : ∀ own', IsRM own' a da ⟨v, [0], [v]⟩ → (∀ b o, own b = some o → b ≠ da → own' b = some o) → Gr own own' → Q .none own') : TC prog w B (d + 1) (.ref 238) [.obj a, vOf v] own Q := by
  refine TC.deff (dv := []) (D_RangeMap_init hB) F_RangeMap_init rfl rfl (fun _ => rfl) (by intro q h; cases h) ?_
  intro Kr hK
  refine TS.setattrf (l := [some (.obj a), some (vOf v)]) hB (fun _ => rfl) ?_
  have n1 : a ≠ da := fun q => by rw [q, h2] at h1; cases h1
  repeat tb_rel
  refine fun s (hs : Fresh _ s) => ?_
  repeat tb_rel
  have n2 : s ≠ da := fun q => by
    have hs : _ = none := hs
    rw [q, Own.put_self] at hs; cases hs
  refine fun vv (hv : Fresh _ vv) => ?_
  repeat tb_rel
  show Q .none _
  refine h _ ⟨⟨s, vv, by tb_start, ?_, ?_, ?_⟩, by simp, by simp⟩ (fun b ob hb nb => ?_) (by k_caught0)
  · exact Own.put_self _ _ _
  · top_args
  · top_args
  · tb_start
theorem tc_mapof_old (hB : B.K = KK P) {m : Nat} {F : List Nat} {D : DT} {k : List Nat} {rm : RM} {Q : V → Own → Prop} (I : IsData own m F D) (hk : D.map.lookup k = some rm)
    (h : ∀ a dd, MapAt own m F D k a dd rm → Q (.obj a) own) : TC prog w B (d + 3) (.ref 320) [.obj m, .str k] own Q := by
  obtain ⟨dm, D0, M, p, w, maps, a, dd, h1, h2, h4, e1, e2⟩ := I.at hk
  refine TC.deff (dv := []) (D_Data_map_of hB) F_Data_map_of rfl rfl (fun _ => rfl) (by intro q h; cases h) ?_
  intro Kr hK
  refine TS.iff (l := [some (.obj m), some (.str k)]) ?_
  repeat tb_rel
  refine T2.in_dicts h4 ?_
  repeat tb_rel
  rw [e1]
  refine ⟨(by first | exact tf | exact ft), fun _ => ?_⟩
  repeat tb_rel
  refine T2.item_dicts (fun _ _ => rfl) h4 e1 ?_
  exact hK.ret (h a dd e2)
theorem tc_dataget (hB : B.K = KK P) {m : Nat} {F : List Nat} {D : DT} {k : List Nat} {rm : RM} {c : Int} {v : PyData} {Q : V → Own → Prop} (I : IsData own m F D) (hk : D.map.lookup k = some rm) (hv : rmGet rm c = some v) (h : Q (vOf v) own) : TC prog w B (d + 3) (.ref 313) [.obj m, .str k, .int c] own Q := by
  obtain ⟨⟨dm, D0, M, p, w, maps, ds, h1, h2, h3, h4, h5, h6, h7, h8⟩, hs⟩ := I
  have := h5.at k
  rw [hk] at this
  obtain ⟨a, dd, e1, e2, e3⟩ := this
  refine TC.deff (dv := []) (D_Data_get hB) F_Data_get rfl rfl (fun _ => rfl) (by intro q h; cases h) ?_
  intro Kr hK
  refine TS.iff (l := [some (.obj m), some (.str k), some (.int c)]) ?_
  repeat tb_rel
  refine T2.in_dicts h4 ?_
  repeat tb_rel
  rw [e1]
  refine ⟨fun _ => ?_, (by first | exact tf | exact ft)⟩
  repeat tb_rel
  kts_caught
  repeat tb_rel
  refine T2.item_dicts (fun _ _ => rfl) h4 e1 ?_
  obtain ⟨⟨s, vv, g1, g2, g3, g4⟩, ls, lv⟩ := id e2
  repeat tb_rel
  exact tc_rmget hB e2 hv (hK.ret h)
theorem tc_dataget0 (hB : B.K = KK P) {m : Nat} {F : List Nat} {D : DT} {k : List Nat} {c : Int} {v : V} {Q : V → Own → Prop} (I : IsData own m F D) (hk : D.map.lookup k = none) (hv : kget D.defs k = some v) (h : Q v own) : TC prog w B (d + 3) (.ref 313) [.obj m, .str k, .int c] own Q := by
  obtain ⟨⟨dm, D0, M, p, w, maps, ds, h1, h2, h3, h4, h5, h6, h7, h8⟩, hs⟩ := I
  have := h5.at k
  rw [hk] at this
  refine TC.deff (dv := []) (D_Data_get hB) F_Data_get rfl rfl (fun _ => rfl) (by intro q h; cases h) ?_
  intro Kr hK
  refine TS.iff (l := [some (.obj m), some (.str k), some (.int c)]) ?_
  repeat tb_rel
  refine T2.in_dicts h4 ?_
  repeat tb_rel
  rw [show kget maps k = none from this]
  refine ⟨(by first | exact tf | exact ft), fun _ => ?_⟩
  repeat tb_rel
  top_caught0
  repeat tb_rel
  refine ⟨.dicts h3, ?_⟩
  repeat tb_rel
  refine TN.get_dicts h3 ?_
  rw [hv]; exact hK.ret h
theorem kput_new {k : List Nat} {v : V} {kvs : List (List Nat × V)} (h : kget kvs k = none) : kput kvs k v = kvs ++ [(k, v)] := by
  unfold kput
  rw [if_neg]
  intro q
  obtain ⟨x, hx, e⟩ := List.any_eq_true.mp q
  have e := of_decide_eq_true e
  unfold kget at h
  rw [List.lookup_eq_none_iff] at h
  have := h x hx
  rw [e] at this
  simp at this
theorem MapsAre.snoc {o : Own} {maps : List (List Nat × V)} {ds : List Nat} {mp : List (List Nat × RM)} {k : List Nat} {a dd : Nat} {m : RM} (q : MapsAre o maps ds mp) (R : IsRM o a dd m) : MapsAre o (maps ++ [(k, .obj a)]) (ds ++ [dd]) (mp ++ [(k, m)]) := by
  induction q with
  | nil => exact .cons R .nil
  | cons R' q ih => exact .cons R' ih
theorem MapsAre.len {o : Own} {maps : List (List Nat × V)} {ds : List Nat} {mp : List (List Nat × RM)} (q : MapsAre o maps ds mp) : maps.length = mp.length := by
  induction q with
  | nil => rfl
  | cons R q ih => rw [List.length_cons, List.length_cons, ih]
theorem tc_mapof_new (hB : B.K = KK P) {m : Nat} {F : List Nat} {D : DT} {k : List Nat} {dv : PyData} {Q : V → Own → Prop} (I : IsData own m F D) (hk : D.map.lookup k = none) (hv : kget D.defs k = some (vOf dv)) (hz : D.map.length ≤ 50)
    (h : ∀ own' a dd F', MapAt own' m F' { D with map := D.map ++ [(k, ⟨dv, [0], [dv]⟩)] } k a dd ⟨dv, [0], [dv]⟩ → Fp F F' own own' → Q (.obj a) own') : TC prog w B (d + 3) (.ref 320) [.obj m, .str k] own Q := by
  obtain ⟨⟨dm, D0, M, p, w, maps, ds, h1, h2, h3, h4, h5, h6, h7, h8⟩, hs⟩ := I
  have hkn := h5.at k
  rw [hk] at hkn
  have hkn : kget maps k = none := hkn
  refine TC.deff (dv := []) (D_Data_map_of hB) F_Data_map_of rfl rfl (fun _ => rfl) (by intro q h; cases h) ?_
  intro Kr hK
  refine TS.ifj (l := [some (.obj m), some (.str k)]) (fun l o => l = [some (.obj m), some (.str k)] ∧ (∃ F', IsData o m F' { D with map := D.map ++ [(k, ⟨dv, [0], [dv]⟩)] } ∧ Fp F F' own o)) ?_ ?_
  · repeat tb_rel
    refine T2.in_dicts h4 ?_
    repeat tb_rel
    rw [hkn]
    refine ⟨fun _ => ?_, (by first | exact tf | exact ft)⟩
    repeat tb_rel
    top_caught0
    repeat tb_rel
    refine ⟨.dicts h3, ?_⟩
    repeat tb_rel
    refine TN.get_dicts h3 ?_
    rw [hv]
    repeat tb_rel
    refine TC.makef hB (by kernel_rfl) rfl (by kernel_rfl) fun a da (hda : Fresh _ da) (ha : Fresh _ a) hne => ?_
    have s1 : Sub own (own.put da (.dicta [])) := Sub.alloc hda .refl
    have ha' : Fresh (own.put da (.dicta [])) a := put_none ha hne
    have s2 : Sub own ((own.put da (.dicta [])).put a (.inst 267 da)) := Sub.alloc ha' s1
    refine tc_rminit hB (by tb_start) (by tb_start) fun o2 R fr gr => ⟨rfl, ?_⟩
    have s3 : Sub own o2 := fun b ob e => fr b ob (s2 b ob e) (ne_base hda e)
    repeat tb_rel
    refine TSI.dicts (s3 _ _ h4) (Nat.le_trans (Nat.le_of_eq h5.len) (Nat.le_trans hz (by decide))) ?_
    rw [kput_new hkn]
    repeat tb_rel
    have nM : ∀ b x, own b = some x → isDD x = false → b ≠ M := fun b x e n q => by rw [q, h4] at e; cases e; cases n
    have fr2 : ∀ b x, o2 b = some x → b ≠ M → (o2.put M (.dicts (maps ++ [(k, .obj a)]))) b = some x := fun b x e n => (Own.put_ne _ _ n).trans e
    have ndM : dm ≠ M := fun q => by rw [q, h4] at h2; cases h2
    have R2 : IsRM (o2.put M (.dicts (maps ++ [(k, .obj a)]))) a da ⟨dv, [0], [dv]⟩ := R.keep fr2 (fun q => by
        obtain ⟨x, e⟩ := R.dd
        rw [q, s3 _ _ h4] at e; cases e) (fun x y e => by rw [s3 _ _ h4] at e; cases e) (fun x e => by rw [s3 _ _ h4] at e; cases e)
    have ndm : da ≠ dm := Ne.symm (ne_base hda h2)
    have nds : da ∉ ds := fun q => by
      obtain ⟨x, e⟩ := h5.mem da q
      exact ne_base hda e rfl
    have nod : (dm :: (ds ++ [da])).Nodup := by
      obtain ⟨x1, x2⟩ := List.nodup_cons.mp h6
      refine List.nodup_cons.mpr ⟨fun q => ?_, ?_⟩
      · rcases List.mem_append.mp q with q | q
        · exact x1 q
        · exact ndm (List.mem_singleton.mp q).symm
      · exact List.nodup_append.mpr ⟨x2, by simp, fun x hx y hy e => by rw [List.mem_singleton] at hy; subst hy; subst e; exact nds hx⟩
    have q1 : (o2.put M (.dicts (maps ++ [(k, .obj a)]))) m = some (.inst 323 dm) := fr2 _ _ (s3 _ _ h1) (nM _ _ h1 rfl)
    have q2 := fr2 _ _ (s3 _ _ h2) ndM
    refine ⟨rfl, M :: (ds ++ [da]), ⟨⟨dm, D0, M, p, w, _, ds ++ [da], q1, q2, fr2 _ _ (s3 _ _ h3) h7, Own.put_self _ _ _, ?_, nod, h7, rfl⟩, by simp; omega⟩, fun x hx => ?_, fun b x e n => fr2 b x (s3 b x e) (fun q => n (by rw [h8, q]; exact .head _))⟩
    rotate_left
    · rw [h8]
      rcases List.mem_cons.mp hx with q | q
      · exact .inl (q ▸ .head _)
      · rcases List.mem_append.mp q with q | q
        · exact .inl (.tail _ q)
        · exact .inr (List.mem_singleton.mp q ▸ hda)
    refine MapsAre.snoc ((h5.sub s3).keep fr2 (fun q => ?_) (fun x y e => by rw [s3 _ _ h4] at e; cases e) (fun x e => by rw [s3 _ _ h4] at e; cases e)) R2
    obtain ⟨x, e⟩ := h5.mem M q
    rw [h4] at e; cases e
  · rintro l o ⟨rfl, F', I', kp⟩
    obtain ⟨dm', D0', M', p', w', maps', a, dd, g1, g2, g3, g4, g5⟩ := I'.at (k := k) (rm := ⟨dv, [0], [dv]⟩) (by show (D.map ++ _).lookup k = _; rw [List.lookup_append, hk]; simp)
    repeat tb_rel
    refine T2.item_dicts (fun _ _ => rfl) g3 g4 ?_
    exact hK.ret (h o a dd F' g5 kp)
noncomputable def dtPut (D : DT) (k : List Nat) (dv : PyData) (first last : Int) (v : PyData) : Option DT := match D.map.lookup k with
  | some rm => (rmPut rm first last v).map fun rm' => { D with map := setK k rm' D.map }
  | none => if D.map.length ≤ 50 then (rmPut ⟨dv, [0], [dv]⟩ first last v).map fun rm' => { D with map := setK k rm' (D.map ++ [(k, ⟨dv, [0], [dv]⟩)]) } else none
theorem tc_dataput (hB : B.K = KK P) {m : Nat} {F : List Nat} {D D' : DT} {k : List Nat} {dv : PyData} {first last : Int} {v : PyData} {Q : V → Own → Prop} (I : IsData own m F D) (hv : kget D.defs k = some (vOf dv)) (hp : dtPut D k dv first last v = some D')
    (h : ∀ own' F', IsData own' m F' D' → Fp F F' own own' → Q .none own') : TC prog w B (d + 4) (.ref 306) [.obj m, .str k, .int first, .int last, vOf v] own Q := by
  refine TC.deff (dv := []) (D_Data_put hB) F_Data_put rfl rfl (fun _ => rfl) (by intro q h; cases h) ?_
  intro Kr hK
  refine TS.exprf (l := [some (.obj m), some (.str k), some (.int first), some (.int last), some (vOf v)]) (fun _ => rfl) ?_
  obtain ⟨⟨dm, D0, M, p, w, maps, ds, h1, h2, h3, h4, h5, h6, h7, h8⟩, hs⟩ := id I
  have fin : ∀ o1 F1 D1 a dd rm rm', MapAt o1 m F1 D1 k a dd rm → Fp F F1 own o1 → rmPut rm first last v = some rm' → D' = { D1 with map := setK k rm' D1.map } → ∀ o2, IsRM o2 a dd rm' → (∀ b x, o1 b = some x → b ≠ dd → o2 b = some x) → Q .none o2 := by
    intro o1 F1 D1 a dd rm rm' A kp hr hD o2 R2 fr
    refine h o2 F1 (hD ▸ A.upd o2 rm' R2 fr) ⟨kp.sub, fun b x e n => fr b x (kp.fr b x e n) (fun q => ?_)⟩
    rcases kp.sub dd A.mem with z | z
    · exact n (q ▸ z)
    · exact ne_base z e q
  unfold dtPut at hp
  cases hk : D.map.lookup k with
  | some rm =>
    rw [hk] at hp
    obtain ⟨rm', e1, e2⟩ := Option.map_eq_some_iff.mp hp
    kts_caught
    kts_caught
    repeat tb_rel
    refine tc_mapof_old hB I hk fun a dd A => ?_
    obtain ⟨⟨s, vv, g1, g2, g3, g4⟩, ls, lv⟩ := id A.rm
    repeat tb_rel
    refine tc_rmput hB A.rm e1 fun o2 R2 fr => ?_
    repeat tb_rel
    exact fin own F D a dd rm rm' A ⟨fun x hx => .inl hx, fun b x e _ => e⟩ e1 e2.symm o2 R2 fr
  | none =>
    rw [hk] at hp
    by_cases hz : D.map.length ≤ 50
    · rw [if_pos hz] at hp
      obtain ⟨rm', e1, e2⟩ := Option.map_eq_some_iff.mp hp
      kts_caught
      kts_caught
      repeat tb_rel
      refine tc_mapof_new hB I hk hv hz fun o1 a dd F1 A kp => ?_
      obtain ⟨⟨s, vv, g1, g2, g3, g4⟩, ls, lv⟩ := id A.rm
      repeat tb_rel
      refine tc_rmput hB A.rm e1 fun o2 R2 fr => ?_
      repeat tb_rel
      exact fin o1 F1 _ a dd _ rm' A kp e1 e2.symm o2 R2 fr
    · rw [if_neg hz] at hp; cases hp
noncomputable def putAll (ks : List (List Nat)) (v : V) (kvs : List (List Nat × V)) : List (List Nat × V) := ks.foldl (fun acc k => kput acc k v) kvs
theorem kput_len {K : Type} [DecidableEq K] (kvs : List (K × V)) (k : K) (v : V) : (kput kvs k v).length ≤ kvs.length + 1 := by
  unfold kput
  split
  · rw [List.length_map]; omega
  · rw [List.length_append]; exact Nat.le_refl _
noncomputable def d0 : List (List Nat × V) := [([103, 99], .str [67, 110]), ([99, 99, 99], .int 0), ([98, 99], .str [76]), ([108, 98], .str [88, 88]), ([101, 97], .str [78]), ([115, 99], .str [90, 122, 122, 122]), ([106, 116], .str [85]), ([105, 110, 99, 98], .str [78, 111, 110, 101])]
noncomputable def n0 : List (List Nat) := [[103, 99, 98], [119, 98], [115, 98]]
noncomputable def d1 : List (List Nat × V) := putAll n0 (.str [79, 116, 104, 101, 114]) d0
noncomputable def n1 : List (List Nat) := [[101, 120], [115, 100], [99, 97, 115, 101, 100], [99, 105], [101, 112], [100, 105], [105, 100, 115], [105, 100, 99], [120, 105, 100, 115], [120, 105, 100, 99], [112, 97, 116, 95, 115, 121, 110], [112, 97, 116, 95, 119, 115], [105, 100, 115, 116]]
noncomputable def d2 : List (List Nat × V) := putAll n1 (.bool false) d1
noncomputable def n2 : List (List Nat) := [[100, 109], [117, 99], [108, 99], [116, 99], [99, 102], [98, 109], [98, 112, 98], [115, 99, 120], [110, 116], [110, 118], [110, 97, 109, 101], [99, 111, 110, 102], [110, 102, 107, 99, 95, 99, 102]]
noncomputable def d3 : List (List Nat × V) := putAll n2 (.none) d2
noncomputable def n3 : List (List Nat) := [[115, 117, 99], [115, 108, 99], [115, 116, 99], [97, 108, 105, 97, 115]]
noncomputable def d4 : List (List Nat × V) := putAll n3 (.tup []) d3
noncomputable def sIdna : List Nat := [105, 100, 110, 97]
noncomputable def sCcc : List Nat := [99, 99, 99]
noncomputable def sDm : List Nat := [100, 109]
noncomputable def sEx : List Nat := [101, 120]
noncomputable def sDis : List Nat := [100, 105, 115, 97, 108, 108, 111, 119, 101, 100]
noncomputable def dAll : List (List Nat × V) := kput d4 sIdna (.tup [.str sDis, .tup []])
theorem tc_defaults (hB : B.K = KK P) {Q : V → Own → Prop} (h : ∀ own' f, Sub own own' → Fresh own f → own' f = some (.dicts dAll) → Q (.obj f) own') : TC prog w B (d + 1) (.ref 285) [] own Q := by
  refine TC.deff (dv := []) (D_data_defaults hB) F_data_defaults rfl rfl (fun _ => rfl) (by intro q h; cases h) ?_
  intro Kr hK
  refine' TS.assignf (l := [none, none]) ?hi ?hl ?hb ?hs ?_
  case hi => exact rfl
  case hl => exact rfl
  case hb => exact rfl
  case hs => exact fun _ _ _ => rfl
  with_reducible refine TE.dicts ?h1 ?h2 ?h3 ?h4 ?_
  case h1 => kernel_rfl
  case h2 => kernel_rfl
  case h3 => exact List.cons_ne_nil _ _
  case h4 => exact Nat.le_of_ble_eq_true (by kernel_rfl)
  intro f (hf : Fresh _ f)
  repeat tb_rel
  refine ⟨d0, rfl, by tb_start, ?_⟩
  rw [show d0.foldl (fun acc kv => kput acc kv.1 kv.2) [] = d0 from rfl]
  have s0 : Sub own ((own.put f (.dicts [])).put f (.dicts d0)) := Sub.put (Sub.alloc hf .refl) hf
  have g0 : ((own.put f (.dicts [])).put f (.dicts d0)) f = some (.dicts d0) := Own.put_self _ _ _
  generalize ((own.put f (.dicts [])).put f (.dicts d0)) = o0 at s0 g0 ⊢
  with_reducible refine TS.forI ?hs (TI.tup ?_)
  case hs => (intro _ _; kernel_rfl)
  repeat tb_rel
  refine ⟨_, rfl, fun vs l o => ∃ ks kv x, vs = ks.map V.str ∧ l = [some (.obj f), x] ∧ o f = some (.dicts kv) ∧ kv.length + ks.length ≤ 900 ∧ putAll ks (.str [79, 116, 104, 101, 114]) kv = d1 ∧ Sub own o, (exI3 n0 d0 _ ⟨rfl, rfl, g0, Nat.le_of_ble_eq_true (by kernel_rfl), rfl, s0⟩), fun _ _ _ _ => trivial, ?_, ?_⟩
  rotate_left
  · intro v vs l o ha_; (with_reducible refine exE3 ha_ fun ks kv x hb_ => aE6 hb_ fun e1 q1_ e3 e4 e5 e6 => ?_); clear ha_ hb_; subst q1_
    cases ks with
    | nil => cases e1
    | cons k ks =>
      cases e1
      rw [List.length_cons] at e4
      repeat tb_rel
      refine TSI.dicts e3 (by omega) ?_
      repeat tb_rel
      have e7 := kput_len kv k (.str [79, 116, 104, 101, 114])
      exact (exI3 ks (kput kv k (.str [79, 116, 104, 101, 114])) _ ⟨rfl, rfl, Own.put_self _ _ _, by omega, e5, Sub.put e6 hf⟩)
  intro l o1 ha_; (with_reducible refine exE3 ha_ fun ks kv x0 hb_ => aE6 hb_ fun e1 q1_ g1 e4 e5 s1 => ?_); clear ha_ hb_; subst q1_
  obtain rfl : ks = [] := List.map_eq_nil_iff.mp e1.symm
  have e5 : kv = d1 := e5
  subst e5
  clear e1 e4
  with_reducible refine TS.forI ?hs (TI.tup ?_)
  case hs => (intro _ _; kernel_rfl)
  repeat tb_rel
  refine ⟨_, rfl, fun vs l o => ∃ ks kv x, vs = ks.map V.str ∧ l = [some (.obj f), x] ∧ o f = some (.dicts kv) ∧ kv.length + ks.length ≤ 900 ∧ putAll ks (.bool false) kv = d2 ∧ Sub own o, (exI3 n1 d1 _ ⟨rfl, rfl, g1, Nat.le_of_ble_eq_true (by kernel_rfl), rfl, s1⟩), fun _ _ _ _ => trivial, ?_, ?_⟩
  rotate_left
  · intro v vs l o ha_; (with_reducible refine exE3 ha_ fun ks kv x hb_ => aE6 hb_ fun e1 q1_ e3 e4 e5 e6 => ?_); clear ha_ hb_; subst q1_
    cases ks with
    | nil => cases e1
    | cons k ks =>
      cases e1
      rw [List.length_cons] at e4
      repeat tb_rel
      refine TSI.dicts e3 (by omega) ?_
      repeat tb_rel
      have e7 := kput_len kv k (.bool false)
      exact (exI3 ks (kput kv k (.bool false)) _ ⟨rfl, rfl, Own.put_self _ _ _, by omega, e5, Sub.put e6 hf⟩)
  intro l o2 ha_; (with_reducible refine exE3 ha_ fun ks kv x1 hb_ => aE6 hb_ fun e1 q1_ g2 e4 e5 s2 => ?_); clear ha_ hb_; subst q1_
  obtain rfl : ks = [] := List.map_eq_nil_iff.mp e1.symm
  have e5 : kv = d2 := e5
  subst e5
  clear e1 e4
  with_reducible refine TS.forI ?hs (TI.tup ?_)
  case hs => (intro _ _; kernel_rfl)
  repeat tb_rel
  refine ⟨_, rfl, fun vs l o => ∃ ks kv x, vs = ks.map V.str ∧ l = [some (.obj f), x] ∧ o f = some (.dicts kv) ∧ kv.length + ks.length ≤ 900 ∧ putAll ks (.none) kv = d3 ∧ Sub own o, (exI3 n2 d2 _ ⟨rfl, rfl, g2, Nat.le_of_ble_eq_true (by kernel_rfl), rfl, s2⟩), fun _ _ _ _ => trivial, ?_, ?_⟩
  rotate_left
  · intro v vs l o ha_; (with_reducible refine exE3 ha_ fun ks kv x hb_ => aE6 hb_ fun e1 q1_ e3 e4 e5 e6 => ?_); clear ha_ hb_; subst q1_
    cases ks with
    | nil => cases e1
    | cons k ks =>
      cases e1
      rw [List.length_cons] at e4
      repeat tb_rel
      refine TSI.dicts e3 (by omega) ?_
      repeat tb_rel
      have e7 := kput_len kv k (.none)
      exact (exI3 ks (kput kv k (.none)) _ ⟨rfl, rfl, Own.put_self _ _ _, by omega, e5, Sub.put e6 hf⟩)
  intro l o3 ha_; (with_reducible refine exE3 ha_ fun ks kv x2 hb_ => aE6 hb_ fun e1 q1_ g3 e4 e5 s3 => ?_); clear ha_ hb_; subst q1_
  obtain rfl : ks = [] := List.map_eq_nil_iff.mp e1.symm
  have e5 : kv = d3 := e5
  subst e5
  clear e1 e4
  with_reducible refine TS.forI ?hs (TI.tup ?_)
  case hs => (intro _ _; kernel_rfl)
  repeat tb_rel
  refine ⟨_, rfl, fun vs l o => ∃ ks kv x, vs = ks.map V.str ∧ l = [some (.obj f), x] ∧ o f = some (.dicts kv) ∧ kv.length + ks.length ≤ 900 ∧ putAll ks (.tup []) kv = d4 ∧ Sub own o, (exI3 n3 d3 _ ⟨rfl, rfl, g3, Nat.le_of_ble_eq_true (by kernel_rfl), rfl, s3⟩), fun _ _ _ _ => trivial, ?_, ?_⟩
  rotate_left
  · intro v vs l o ha_; (with_reducible refine exE3 ha_ fun ks kv x hb_ => aE6 hb_ fun e1 q1_ e3 e4 e5 e6 => ?_); clear ha_ hb_; subst q1_
    cases ks with
    | nil => cases e1
    | cons k ks =>
      cases e1
      rw [List.length_cons] at e4
      repeat tb_rel
      refine TSI.dicts e3 (by omega) ?_
      repeat tb_rel
      have e7 := kput_len kv k (.tup [])
      exact (exI3 ks (kput kv k (.tup [])) _ ⟨rfl, rfl, Own.put_self _ _ _, by omega, e5, Sub.put e6 hf⟩)
  intro l o4 ha_; (with_reducible refine exE3 ha_ fun ks kv x3 hb_ => aE6 hb_ fun e1 q1_ g4 e4 e5 s4 => ?_); clear ha_ hb_; subst q1_
  obtain rfl : ks = [] := List.map_eq_nil_iff.mp e1.symm
  have e5 : kv = d4 := e5
  subst e5
  clear e1 e4
  repeat tb_rel
  refine TSI.dicts g4 (Nat.le_of_ble_eq_true (by kernel_rfl)) ?_
  repeat tb_rel
  exact h _ f (Sub.put s4 hf) hf (Own.put_self _ _ _)
theorem tc_datainit (hB : B.K = KK P) {a da : Nat} {Q : V → Own → Prop} (h1 : own a = some (.inst 323 da)) (h2 : own da = some (.dicta []))
    (h : ∀ own' M, IsData own' a [M] ⟨dAll, []⟩ → Fresh own M → (∀ b o, own b = some o → b ≠ da → own' b = some o) → Q .none own') : TC prog w B (d + 2) (.ref 299) [.obj a] own Q := by
  refine TC.deff (dv := []) (D_Data_init hB) F_Data_init rfl rfl (fun _ => rfl) (by intro q h; cases h) ?_
  intro Kr hK
  refine TS.setattrf (l := [some (.obj a)]) hB (fun _ => rfl) ?_
  have n1 : a ≠ da := fun q => by rw [q, h2] at h1; cases h1
  repeat tb_rel
  refine tc_defaults hB fun o1 f s1 (hf : Fresh _ f) e1 => ?_
  repeat tb_rel
  have nf : f ≠ da := Ne.symm (ne_base hf h2)
  with_reducible refine TE.dict0s ?_
  intro M (hM : Fresh _ M)
  repeat tb_rel
  have nM : M ≠ da := fun q => by
    have hM : _ = none := hM
    rw [q, Own.put_self] at hM; cases hM
  with_reducible refine TE.dict0s ?_
  intro p (hp : Fresh _ p)
  repeat tb_rel
  with_reducible refine TE.dict0s ?_
  intro w (hw : Fresh _ w)
  repeat tb_rel
  show Q .none _
  have nfM : f ≠ M := by
    refine ne_base (o := .dicts dAll) hM ?_
    tb_start
  refine h _ M ⟨⟨da, f, M, p, w, [], [], ?_, ?_, ?_, ?_, .nil, by simp, nfM, rfl⟩, by simp⟩ (Gr.none hM (Gr.put (Gr.of_sub s1))) (fun b ob hb nb => ?_)
  · tb_start
  · exact Own.put_self _ _ _
  · tb_start
  · tb_start
  · tb_start
noncomputable def stats : List (Int × PyData) := [(97, .tuple [.str ⟨#[118, 97, 108, 105, 100]⟩, .tuple []]), (98, .tuple [.str ⟨#[118, 97, 108, 105, 100]⟩, .tuple []]), (115, .tuple [.str ⟨#[118, 97, 108, 105, 100]⟩, .tuple []]),
  (65, .tuple [.str ⟨#[109, 97, 112, 112, 101, 100]⟩, .tuple [.int 97]]), (66, .tuple [.str ⟨#[109, 97, 112, 112, 101, 100]⟩, .tuple [.int 97, .int 769]]), (173, .tuple [.str ⟨#[105, 103, 110, 111, 114, 101, 100]⟩, .tuple []]),
  (7838, .tuple [.str ⟨#[109, 97, 112, 112, 101, 100]⟩, .tuple [.int 223]]), (223, .tuple [.str ⟨#[100, 101, 118, 105, 97, 116, 105, 111, 110]⟩, .tuple [.int 115, .int 115]]), (8205, .tuple [.str ⟨#[100, 101, 118, 105, 97, 116, 105, 111, 110]⟩, .tuple []]),
  (8226, .tuple [.str ⟨#[100, 105, 115, 97, 108, 108, 111, 119, 101, 100]⟩, .tuple []]), (95, .tuple [.str ⟨#[100, 105, 115, 97, 108, 108, 111, 119, 101, 100, 95, 83, 84, 68, 51, 95, 118, 97, 108, 105, 100]⟩, .tuple []]),
  (8800, .tuple [.str ⟨#[100, 105, 115, 97, 108, 108, 111, 119, 101, 100, 95, 83, 84, 68, 51, 95, 109, 97, 112, 112, 101, 100]⟩, .tuple [.int 61, .int 803]]), (769, .tuple [.str ⟨#[118, 97, 108, 105, 100]⟩, .tuple []]), (803, .tuple [.str ⟨#[118, 97, 108, 105, 100]⟩, .tuple []]),
  (225, .tuple [.str ⟨#[118, 97, 108, 105, 100]⟩, .tuple []]), (833, .tuple [.str ⟨#[109, 97, 112, 112, 101, 100]⟩, .tuple [.int 769]])]
noncomputable def statV : List (Int × V) := stats.map fun q => (q.1, vOf q.2)
theorem TPl.consf {a ep : Nat} {kvs : List (Int × V)} {k v : Expr} {ks : List (Option Expr)} {vs : List Expr} {Q : Own → Prop}
    (h : TE prog w B d Γ k l own (fun x own₁ => TE prog w B d Γ v l own₁ (fun y own₂ => ∃ i kvs', x = .int i ∧ own₂ a = some (.dicti ep kvs) ∧ Nat.ble kvs.length 1000 = true ∧ kput kvs i y = kvs' ∧ ∀ ep', TPl prog w B d Γ a ks vs l (own₂.put a (.dicti ep' kvs')) Q))) (hz : kvs.length ≤ 1000) : TPl prog w B d Γ a (some k :: ks) (v :: vs) l own Q :=
  TPl.cons hz (h.mono fun x o1 q => q.mono fun y o2 q => by
    obtain ⟨i, kvs', h1, h2, _, h3, h4⟩ := q
    exact ⟨i, h1, h2, fun ep' => by rw [h3]; exact h4 ep'⟩)
theorem tc_statuses (hB : B.K = KK P) {Q : V → Own → Prop} (h : ∀ own' f ep, Sub own own' → Fresh own f → own' f = some (.dicti ep statV) → Q (.obj f) own') : TC prog w B (d + 1) (.ref 334) [] own Q := by
  refine TC.deff (dv := []) (D_law_statuses hB) F_law_statuses rfl rfl (fun _ => rfl) (by intro q h; cases h) ?_
  intro Kr hK
  refine TS.retf (l := []) ?_
  with_reducible refine TE.dictl ?h1 ?h2 ?h3 ?_
  case h1 => kernel_rfl
  case h2 => kernel_rfl
  case h3 => kernel_rfl
  intro f ep (hf : Fresh _ f)
  have s0 : Sub own (own.put f (.dicti ep [])) := Sub.alloc hf .refl
  have g0 : (own.put f (.dicti ep [])) f = some (.dicti ep (statV.take 0)) := Own.put_self _ _ _
  generalize own.put f (.dicti ep []) = o0 at s0 g0 ⊢
  with_reducible refine TPl.consf (ep := ep) (kvs := statV.take 0) ?_ (Nat.le_of_ble_eq_true (by kernel_rfl))
  repeat tb_rel
  refine ⟨_, statV.take 1, rfl, g0, by kernel_rfl, by kernel_rfl, fun ep1 => ?_⟩
  have s1 : Sub own (o0.put f (.dicti ep1 (statV.take 1))) := Sub.put s0 hf
  have g1 : (o0.put f (.dicti ep1 (statV.take 1))) f = some (.dicti ep1 (statV.take 1)) := Own.put_self _ _ _
  clear g0 s0
  generalize o0.put f (.dicti ep1 (statV.take 1)) = o1 at s1 g1 ⊢
  with_reducible refine TPl.consf (ep := ep1) (kvs := statV.take 1) ?_ (Nat.le_of_ble_eq_true (by kernel_rfl))
  repeat tb_rel
  refine ⟨_, statV.take 2, rfl, g1, by kernel_rfl, by kernel_rfl, fun ep2 => ?_⟩
  have s2 : Sub own (o1.put f (.dicti ep2 (statV.take 2))) := Sub.put s1 hf
  have g2 : (o1.put f (.dicti ep2 (statV.take 2))) f = some (.dicti ep2 (statV.take 2)) := Own.put_self _ _ _
  clear g1 s1
  generalize o1.put f (.dicti ep2 (statV.take 2)) = o2 at s2 g2 ⊢
  with_reducible refine TPl.consf (ep := ep2) (kvs := statV.take 2) ?_ (Nat.le_of_ble_eq_true (by kernel_rfl))
  repeat tb_rel
  refine ⟨_, statV.take 3, rfl, g2, by kernel_rfl, by kernel_rfl, fun ep3 => ?_⟩
  have s3 : Sub own (o2.put f (.dicti ep3 (statV.take 3))) := Sub.put s2 hf
  have g3 : (o2.put f (.dicti ep3 (statV.take 3))) f = some (.dicti ep3 (statV.take 3)) := Own.put_self _ _ _
  clear g2 s2
  generalize o2.put f (.dicti ep3 (statV.take 3)) = o3 at s3 g3 ⊢
  with_reducible refine TPl.consf (ep := ep3) (kvs := statV.take 3) ?_ (Nat.le_of_ble_eq_true (by kernel_rfl))
  repeat tb_rel
  refine ⟨_, statV.take 4, rfl, g3, by kernel_rfl, by kernel_rfl, fun ep4 => ?_⟩
  have s4 : Sub own (o3.put f (.dicti ep4 (statV.take 4))) := Sub.put s3 hf
  have g4 : (o3.put f (.dicti ep4 (statV.take 4))) f = some (.dicti ep4 (statV.take 4)) := Own.put_self _ _ _
  clear g3 s3
  generalize o3.put f (.dicti ep4 (statV.take 4)) = o4 at s4 g4 ⊢
  with_reducible refine TPl.consf (ep := ep4) (kvs := statV.take 4) ?_ (Nat.le_of_ble_eq_true (by kernel_rfl))
  repeat tb_rel
  refine ⟨_, statV.take 5, rfl, g4, by kernel_rfl, by kernel_rfl, fun ep5 => ?_⟩
  have s5 : Sub own (o4.put f (.dicti ep5 (statV.take 5))) := Sub.put s4 hf
  have g5 : (o4.put f (.dicti ep5 (statV.take 5))) f = some (.dicti ep5 (statV.take 5)) := Own.put_self _ _ _
  clear g4 s4
  generalize o4.put f (.dicti ep5 (statV.take 5)) = o5 at s5 g5 ⊢
  with_reducible refine TPl.consf (ep := ep5) (kvs := statV.take 5) ?_ (Nat.le_of_ble_eq_true (by kernel_rfl))
  repeat tb_rel
  refine ⟨_, statV.take 6, rfl, g5, by kernel_rfl, by kernel_rfl, fun ep6 => ?_⟩
  have s6 : Sub own (o5.put f (.dicti ep6 (statV.take 6))) := Sub.put s5 hf
  have g6 : (o5.put f (.dicti ep6 (statV.take 6))) f = some (.dicti ep6 (statV.take 6)) := Own.put_self _ _ _
  clear g5 s5
  generalize o5.put f (.dicti ep6 (statV.take 6)) = o6 at s6 g6 ⊢
  with_reducible refine TPl.consf (ep := ep6) (kvs := statV.take 6) ?_ (Nat.le_of_ble_eq_true (by kernel_rfl))
  repeat tb_rel
  refine ⟨_, statV.take 7, rfl, g6, by kernel_rfl, by kernel_rfl, fun ep7 => ?_⟩
  have s7 : Sub own (o6.put f (.dicti ep7 (statV.take 7))) := Sub.put s6 hf
  have g7 : (o6.put f (.dicti ep7 (statV.take 7))) f = some (.dicti ep7 (statV.take 7)) := Own.put_self _ _ _
  clear g6 s6
  generalize o6.put f (.dicti ep7 (statV.take 7)) = o7 at s7 g7 ⊢
  with_reducible refine TPl.consf (ep := ep7) (kvs := statV.take 7) ?_ (Nat.le_of_ble_eq_true (by kernel_rfl))
  repeat tb_rel
  refine ⟨_, statV.take 8, rfl, g7, by kernel_rfl, by kernel_rfl, fun ep8 => ?_⟩
  have s8 : Sub own (o7.put f (.dicti ep8 (statV.take 8))) := Sub.put s7 hf
  have g8 : (o7.put f (.dicti ep8 (statV.take 8))) f = some (.dicti ep8 (statV.take 8)) := Own.put_self _ _ _
  clear g7 s7
  generalize o7.put f (.dicti ep8 (statV.take 8)) = o8 at s8 g8 ⊢
  with_reducible refine TPl.consf (ep := ep8) (kvs := statV.take 8) ?_ (Nat.le_of_ble_eq_true (by kernel_rfl))
  repeat tb_rel
  refine ⟨_, statV.take 9, rfl, g8, by kernel_rfl, by kernel_rfl, fun ep9 => ?_⟩
  have s9 : Sub own (o8.put f (.dicti ep9 (statV.take 9))) := Sub.put s8 hf
  have g9 : (o8.put f (.dicti ep9 (statV.take 9))) f = some (.dicti ep9 (statV.take 9)) := Own.put_self _ _ _
  clear g8 s8
  generalize o8.put f (.dicti ep9 (statV.take 9)) = o9 at s9 g9 ⊢
  with_reducible refine TPl.consf (ep := ep9) (kvs := statV.take 9) ?_ (Nat.le_of_ble_eq_true (by kernel_rfl))
  repeat tb_rel
  refine ⟨_, statV.take 10, rfl, g9, by kernel_rfl, by kernel_rfl, fun ep10 => ?_⟩
  have s10 : Sub own (o9.put f (.dicti ep10 (statV.take 10))) := Sub.put s9 hf
  have g10 : (o9.put f (.dicti ep10 (statV.take 10))) f = some (.dicti ep10 (statV.take 10)) := Own.put_self _ _ _
  clear g9 s9
  generalize o9.put f (.dicti ep10 (statV.take 10)) = o10 at s10 g10 ⊢
  with_reducible refine TPl.consf (ep := ep10) (kvs := statV.take 10) ?_ (Nat.le_of_ble_eq_true (by kernel_rfl))
  repeat tb_rel
  refine ⟨_, statV.take 11, rfl, g10, by kernel_rfl, by kernel_rfl, fun ep11 => ?_⟩
  have s11 : Sub own (o10.put f (.dicti ep11 (statV.take 11))) := Sub.put s10 hf
  have g11 : (o10.put f (.dicti ep11 (statV.take 11))) f = some (.dicti ep11 (statV.take 11)) := Own.put_self _ _ _
  clear g10 s10
  generalize o10.put f (.dicti ep11 (statV.take 11)) = o11 at s11 g11 ⊢
  with_reducible refine TPl.consf (ep := ep11) (kvs := statV.take 11) ?_ (Nat.le_of_ble_eq_true (by kernel_rfl))
  repeat tb_rel
  refine ⟨_, statV.take 12, rfl, g11, by kernel_rfl, by kernel_rfl, fun ep12 => ?_⟩
  have s12 : Sub own (o11.put f (.dicti ep12 (statV.take 12))) := Sub.put s11 hf
  have g12 : (o11.put f (.dicti ep12 (statV.take 12))) f = some (.dicti ep12 (statV.take 12)) := Own.put_self _ _ _
  clear g11 s11
  generalize o11.put f (.dicti ep12 (statV.take 12)) = o12 at s12 g12 ⊢
  with_reducible refine TPl.consf (ep := ep12) (kvs := statV.take 12) ?_ (Nat.le_of_ble_eq_true (by kernel_rfl))
  repeat tb_rel
  refine ⟨_, statV.take 13, rfl, g12, by kernel_rfl, by kernel_rfl, fun ep13 => ?_⟩
  have s13 : Sub own (o12.put f (.dicti ep13 (statV.take 13))) := Sub.put s12 hf
  have g13 : (o12.put f (.dicti ep13 (statV.take 13))) f = some (.dicti ep13 (statV.take 13)) := Own.put_self _ _ _
  clear g12 s12
  generalize o12.put f (.dicti ep13 (statV.take 13)) = o13 at s13 g13 ⊢
  with_reducible refine TPl.consf (ep := ep13) (kvs := statV.take 13) ?_ (Nat.le_of_ble_eq_true (by kernel_rfl))
  repeat tb_rel
  refine ⟨_, statV.take 14, rfl, g13, by kernel_rfl, by kernel_rfl, fun ep14 => ?_⟩
  have s14 : Sub own (o13.put f (.dicti ep14 (statV.take 14))) := Sub.put s13 hf
  have g14 : (o13.put f (.dicti ep14 (statV.take 14))) f = some (.dicti ep14 (statV.take 14)) := Own.put_self _ _ _
  clear g13 s13
  generalize o13.put f (.dicti ep14 (statV.take 14)) = o14 at s14 g14 ⊢
  with_reducible refine TPl.consf (ep := ep14) (kvs := statV.take 14) ?_ (Nat.le_of_ble_eq_true (by kernel_rfl))
  repeat tb_rel
  refine ⟨_, statV.take 15, rfl, g14, by kernel_rfl, by kernel_rfl, fun ep15 => ?_⟩
  have s15 : Sub own (o14.put f (.dicti ep15 (statV.take 15))) := Sub.put s14 hf
  have g15 : (o14.put f (.dicti ep15 (statV.take 15))) f = some (.dicti ep15 (statV.take 15)) := Own.put_self _ _ _
  clear g14 s14
  generalize o14.put f (.dicti ep15 (statV.take 15)) = o15 at s15 g15 ⊢
  with_reducible refine TPl.consf (ep := ep15) (kvs := statV.take 15) ?_ (Nat.le_of_ble_eq_true (by kernel_rfl))
  repeat tb_rel
  refine ⟨_, statV.take 16, rfl, g15, by kernel_rfl, by kernel_rfl, fun ep16 => ?_⟩
  have s16 : Sub own (o15.put f (.dicti ep16 (statV.take 16))) := Sub.put s15 hf
  have g16 : (o15.put f (.dicti ep16 (statV.take 16))) f = some (.dicti ep16 (statV.take 16)) := Own.put_self _ _ _
  clear g15 s15
  generalize o15.put f (.dicti ep16 (statV.take 16)) = o16 at s16 g16 ⊢
  with_reducible refine TPl.nil ?_
  exact hK.ret (h _ f ep16 s16 hf g16)
noncomputable def clsV : List (Int × V) := [(769, .int 230), (803, .int 220)]
theorem tc_classes (hB : B.K = KK P) {Q : V → Own → Prop} (h : ∀ own' f ep, Sub own own' → Fresh own f → own' f = some (.dicti ep clsV) → Q (.obj f) own') : TC prog w B (d + 1) (.ref 342) [] own Q := by
  refine TC.deff (dv := []) (D_law_classes hB) F_law_classes rfl rfl (fun _ => rfl) (by intro q h; cases h) ?_
  intro Kr hK
  refine TS.retf (l := []) ?_
  with_reducible refine TE.dicti ?h1 ?h2 ?h3 ?h4 ?_
  case h1 => kernel_rfl
  case h2 => kernel_rfl
  case h3 => exact List.cons_ne_nil _ _
  case h4 => exact Nat.le_of_ble_eq_true (by kernel_rfl)
  intro f ep (hf : Fresh _ f)
  repeat tb_rel
  refine ⟨clsV, rfl, by tb_start, fun ep' => ?_⟩
  exact hK.ret (h _ f ep' (Sub.put (Sub.alloc hf .refl) hf) hf (Own.put_self _ _ _))
noncomputable def foldPut (k : List Nat) (dv : PyData) : List (Int × PyData) → DT → Option DT
  | [], D => some D
  | q :: r, D => match dtPut D k dv q.1 q.1 q.2 with
    | some D' => foldPut k dv r D'
    | none => none
theorem kget_map {pv : List (Int × PyData)} (hn : (pv.map (·.1)).Nodup) : ∀ q ∈ pv, kget (pv.map fun q => (q.1, vOf q.2)) q.1 = some (vOf q.2) := by
  induction pv with
  | nil => intro q h; cases h
  | cons x r ih =>
    obtain ⟨n1, n2⟩ := List.nodup_cons.mp hn
    intro q hq
    unfold kget
    rw [List.map_cons, List.lookup_cons]
    rcases List.mem_cons.mp hq with e | e
    · subst e; simp
    · have : (q.1 == x.1) = false := by
        simp only [beq_eq_false_iff_ne]
        intro z
        exact n1 (by show x.1 ∈ _; rw [← z]; exact List.mem_map_of_mem (f := fun x => x.1) e)
      rw [this]; exact ih n2 q e
theorem stats_nodup : (stats.map (·.1)).Nodup := by decide +kernel
noncomputable def clss : List (Int × PyData) := [(769, .int 230), (803, .int 220)]
theorem clss_nodup : (clss.map (·.1)).Nodup := by decide +kernel
theorem dtPut_defs {D D' : DT} {k : List Nat} {dv : PyData} {a b : Int} {v : PyData} (h : dtPut D k dv a b v = some D') : D'.defs = D.defs := by
  unfold dtPut at h
  split at h
  · obtain ⟨x, _, e⟩ := Option.map_eq_some_iff.mp h; rw [← e]
  · split at h
    · obtain ⟨x, _, e⟩ := Option.map_eq_some_iff.mp h; rw [← e]
    · cases h
structure Mk (own₀ o : Own) (m : Nat) (F : List Nat) (D : DT) : Prop where
  data : IsData o m F D
  fresh : ∀ x ∈ F, Fresh own₀ x
  sub : Sub own₀ o
  defs : D.defs = dAll
theorem Mk.step {own₀ o o' : Own} {m : Nat} {F F' : List Nat} {D D' : DT} (M : Mk own₀ o m F D) (I : IsData o' m F' D') (fp : Fp F F' o o') (hd : D'.defs = D.defs) : Mk own₀ o' m F' D' :=
  ⟨I, fun x hx => by
    rcases fp.sub x hx with q | q
    · exact M.fresh x q
    · exact Sub.none q M.sub, fun b x e => fp.fr b x (M.sub b x e) (fun q => ne_base (M.fresh b q) e rfl), hd.trans M.defs⟩
theorem Mk.keep {own₀ o o' : Own} {m : Nat} {F : List Nat} {D : DT} (M : Mk own₀ o m F D) (s : Sub o o') : Mk own₀ o' m F D := ⟨M.data.sub s, M.fresh, M.sub.trans s, M.defs⟩
theorem Mk.other {own₀ o o' : Own} {m : Nat} {F F' : List Nat} {D : DT} (M : Mk own₀ o m F D) (fp : Fp F F' o o') {b : Nat} {x : O} (e : o b = some x) (n : isDD x = false) : o' b = some x := fp.fr b x e fun q => by
  obtain ⟨y, e2, n2⟩ := M.data.kind b q
  rw [e] at e2; cases e2; rw [n] at n2; cases n2
noncomputable def partV (pv : List (Int × PyData)) : List (Int × V) := pv.map fun q => (q.1, vOf q.2)
noncomputable def dmOf (pv : List (Int × PyData)) : List (Int × PyData) := pv.map fun q => (q.1, .tuple [.str ⟨#[]⟩, q.2])
noncomputable def lawData (pv : List (Int × PyData)) : Option DT := ((foldPut sIdna (.tuple [.str ⟨#[100, 105, 115, 97, 108, 108, 111, 119, 101, 100]⟩, .tuple []]) stats ⟨dAll, []⟩).bind (foldPut sCcc (.int 0) clss)).bind (foldPut sDm .none (dmOf pv))
theorem def_idna : kget dAll sIdna = some (vOf (.tuple [.str ⟨#[100, 105, 115, 97, 108, 108, 111, 119, 101, 100]⟩, .tuple []])) := by rfl
theorem def_ccc : kget dAll sCcc = some (vOf (.int 0)) := by rfl
theorem def_dm : kget dAll sDm = some (vOf .none) := by rfl
theorem tc_lawdata (hB : B.K = KK P) {pa ep : Nat} {pv : List (Int × PyData)} {D3 : DT} {Q : V → Own → Prop} (ho : own pa = some (.dicti ep (partV pv))) (hn : (pv.map (·.1)).Nodup) (hl : lawData pv = some D3)
    (h : ∀ own' m F, IsData own' m F D3 → Sub own own' → Q (.obj m) own') : TC prog w B (d + 5) (.ref 361) [.obj pa] own Q := by
  obtain ⟨D2, hl2, hl3⟩ := Option.bind_eq_some_iff.mp hl
  obtain ⟨D1, hl0, hl1⟩ := Option.bind_eq_some_iff.mp hl2
  refine TC.deff (dv := []) (D_law_data hB) F_law_data rfl rfl (fun _ => rfl) (by intro q h; cases h) ?_
  intro Kr hK
  refine' TS.assignf (l := [some (.obj pa), none, none]) ?hi ?hl ?hb ?hs ?_
  case hi => exact rfl
  case hl => exact rfl
  case hb => exact rfl
  case hs => exact fun _ _ _ => rfl
  repeat tb_rel
  refine TC.makef hB (by kernel_rfl) rfl (by kernel_rfl) fun a da (hda : Fresh _ da) (ha : Fresh _ a) hne => ?_
  have ha' : Fresh (own.put da (.dicta [])) a := put_none ha hne
  have s2 : Sub own ((own.put da (.dicta [])).put a (.inst 323 da)) := Sub.alloc ha' (Sub.alloc hda .refl)
  refine tc_datainit hB (by tb_start) (by tb_start) fun o2 M I fM fr => ⟨rfl, ?_⟩
  have M0 : Mk own o2 a [M] ⟨dAll, []⟩ := ⟨I, fun x hx => List.mem_singleton.mp hx ▸ Sub.none fM s2, fun b ob e => fr b ob (s2 b ob e) (ne_base hda e), rfl⟩
  clear I fM fr s2
  with_reducible refine TS.forI ?hs (TI.dicti ?_)
  case hs => (intro _ _; kernel_rfl)
  repeat tb_rel
  refine tc_statuses hB fun o3 f1 e1 s3 hf1 g1 => ?_
  refine ⟨f1, e1, statV, rfl, g1, fun vs l o => ∃ r F D x, vs = r.map (fun q => V.int q.1) ∧ (∀ q ∈ r, q ∈ stats) ∧ l = [some (.obj pa), some (.obj a), x] ∧ o f1 = some (.dicti e1 statV) ∧ foldPut sIdna (.tuple [.str ⟨#[100, 105, 115, 97, 108, 108, 111, 119, 101, 100]⟩, .tuple []]) r D = some D1 ∧ Mk own o a F D,
    (exI4 stats [M] ⟨dAll, []⟩ none ⟨by rfl, fun _ h => h, rfl, g1, hl0, M0.keep s3⟩), ?_, ?_, ?_⟩
  · intro vs l o ha_; (with_reducible refine exE4 ha_ fun r F D x hb_ => aE5 hb_ fun _ _ _ g _ => ?_); clear ha_ hb_; exact g
  rotate_left
  · intro v vs l o ha_; (with_reducible refine exE4 ha_ fun r F D x hb_ => aE6 hb_ fun e hr q2_ g hfp M => ?_); clear ha_ hb_; subst q2_
    cases r with
    | nil => cases e
    | cons q r =>
      cases e
      unfold foldPut at hfp
      cases hp : dtPut D sIdna (.tuple [.str ⟨#[100, 105, 115, 97, 108, 108, 111, 119, 101, 100]⟩, .tuple []]) q.1 q.1 q.2 with
      | none => rw [hp] at hfp; cases hfp
      | some D' =>
        rw [hp] at hfp
        obtain ⟨⟨dm, D0, MM, p, w, maps, ds, i1, i2, i3, i4, i5, i6, i7, i8⟩, hs⟩ := id M.data
        repeat tb_rel
        kts_caught
        repeat tb_rel
        refine tc_statuses hB fun o4 f2 e2 s4 hf2 g2 => ?_
        repeat tb_rel
        refine T2.item_dicti (fun _ _ => rfl) g2 (kget_map stats_nodup q (hr q (.head _))) ?_
        repeat tb_rel
        refine tc_dataput hB (M.keep s4).data (by rw [M.defs]; exact def_idna) hp fun o5 F' I5 fp => ?_
        repeat tb_rel
        exact (exI4 r F' D' _ ⟨rfl, fun z hz => hr z (.tail _ hz), rfl, (M.keep s4).other fp (s4 _ _ g) rfl, hfp, (M.keep s4).step I5 fp (dtPut_defs hp)⟩)
  intro l o ha_; (with_reducible refine exE4 ha_ fun r F D' x hb_ => aE6 hb_ fun e _ q2_ _ hfp M1 => ?_); clear ha_ hb_; subst q2_
  obtain rfl : r = [] := List.map_eq_nil_iff.mp e.symm
  cases hfp
  clear g1 s3 hf1 M0 e
  with_reducible refine TS.forI ?hs (TI.dicti ?_)
  case hs => (intro _ _; kernel_rfl)
  repeat tb_rel
  refine tc_classes hB fun o3 f1 e1 s3 hf1 g1 => ?_
  refine ⟨f1, e1, clsV, rfl, g1, fun vs l o => ∃ r F D x, vs = r.map (fun q => V.int q.1) ∧ (∀ q ∈ r, q ∈ clss) ∧ l = [some (.obj pa), some (.obj a), x] ∧ o f1 = some (.dicti e1 clsV) ∧ foldPut sCcc (.int 0) r D = some D2 ∧ Mk own o a F D,
    (exI4 clss F D1 x ⟨by rfl, fun _ h => h, rfl, g1, hl1, M1.keep s3⟩), ?_, ?_, ?_⟩
  · intro vs l o ha_; (with_reducible refine exE4 ha_ fun r F D x hb_ => aE5 hb_ fun _ _ _ g _ => ?_); clear ha_ hb_; exact g
  rotate_left
  · intro v vs l o ha_; (with_reducible refine exE4 ha_ fun r F D x hb_ => aE6 hb_ fun e hr q2_ g hfp M => ?_); clear ha_ hb_; subst q2_
    cases r with
    | nil => cases e
    | cons q r =>
      cases e
      unfold foldPut at hfp
      cases hp : dtPut D sCcc (.int 0) q.1 q.1 q.2 with
      | none => rw [hp] at hfp; cases hfp
      | some D' =>
        rw [hp] at hfp
        obtain ⟨⟨dm, D0, MM, p, w, maps, ds, i1, i2, i3, i4, i5, i6, i7, i8⟩, hs⟩ := id M.data
        repeat tb_rel
        kts_caught
        repeat tb_rel
        refine tc_classes hB fun o4 f2 e2 s4 hf2 g2 => ?_
        repeat tb_rel
        refine T2.item_dicti (fun _ _ => rfl) g2 (kget_map clss_nodup q (hr q (.head _))) ?_
        repeat tb_rel
        refine tc_dataput hB (M.keep s4).data (by rw [M.defs]; exact def_ccc) hp fun o5 F' I5 fp => ?_
        repeat tb_rel
        exact (exI4 r F' D' _ ⟨rfl, fun z hz => hr z (.tail _ hz), rfl, (M.keep s4).other fp (s4 _ _ g) rfl, hfp, (M.keep s4).step I5 fp (dtPut_defs hp)⟩)
  intro l o4 ha_; (with_reducible refine exE4 ha_ fun r F D' x hb_ => aE6 hb_ fun e _ q2_ _ hfp M2 => ?_); clear ha_ hb_; subst q2_
  obtain rfl : r = [] := List.map_eq_nil_iff.mp e.symm
  cases hfp
  clear g1 s3 hf1 M1 e
  with_reducible refine TS.forI ?hs (TI.dicti ?_)
  case hs => (intro _ _; kernel_rfl)
  repeat tb_rel
  refine ⟨pa, ep, partV pv, rfl, M2.sub _ _ ho, fun vs l o => ∃ r F D x, vs = r.map (fun q => V.int q.1) ∧ (∀ q ∈ r, q ∈ pv) ∧ l = [some (.obj pa), some (.obj a), x] ∧ foldPut sDm .none (dmOf r) D = some D3 ∧ Mk own o a F D,
    (exI4 pv F D2 x ⟨by unfold partV; rw [List.map_map]; rfl, fun _ h => h, rfl, hl3, M2⟩), ?_, ?_, ?_⟩
  · intro vs l o ha_; (with_reducible refine exE4 ha_ fun r F D x hb_ => aE5 hb_ fun _ _ _ _ M => ?_); clear ha_ hb_; exact M.sub _ _ ho
  rotate_left
  · intro v vs l o ha_; (with_reducible refine exE4 ha_ fun r F D x hb_ => aE5 hb_ fun e hr q2_ hfp M => ?_); clear ha_ hb_; subst q2_
    cases r with
    | nil => cases e
    | cons q r =>
      cases e
      unfold dmOf at hfp
      rw [List.map_cons] at hfp
      unfold foldPut at hfp
      dsimp only at hfp
      cases hp : dtPut D sDm .none q.1 q.1 (.tuple [.str ⟨#[]⟩, q.2]) with
      | none => rw [hp] at hfp; cases hfp
      | some D' =>
        rw [hp] at hfp
        obtain ⟨⟨dm, D0, MM, p, w, maps, ds, i1, i2, i3, i4, i5, i6, i7, i8⟩, hs⟩ := id M.data
        repeat tb_rel
        kts_caught
        repeat tb_rel
        refine T2.item_dicti (fun _ _ => rfl) (M.sub _ _ ho) (kget_map hn q (hr q (.head _))) ?_
        repeat tb_rel
        refine tc_dataput hB (v := .tuple [.str ⟨#[]⟩, q.2]) M.data (by rw [M.defs]; exact def_dm) hp fun o5 F' I5 fp => ?_
        repeat tb_rel
        exact (exI4 r F' D' _ ⟨rfl, fun z hz => hr z (.tail _ hz), rfl, hfp, M.step I5 fp (dtPut_defs hp)⟩)
  intro l o5 ha_; (with_reducible refine exE4 ha_ fun r F D' x hb_ => aE5 hb_ fun e _ q2_ hfp M3 => ?_); clear ha_ hb_; subst q2_
  obtain rfl : r = [] := List.map_eq_nil_iff.mp e.symm
  cases hfp
  repeat tb_rel
  exact h _ a F M3.data M3.sub
noncomputable def dmP : Option (List Int) → PyData
  | none => .none
  | some ys => .tuple [.str ⟨#[]⟩, .tuple (ys.map PyData.int)]
structure DOk (D : DT) (T : Int → Str × List Int) (cc : Int → Int) (dq : Int → Option (Int × Int)) (cs : List Int) : Prop where
  fid : ∃ rm, D.map.lookup sIdna = some rm ∧ ∀ c ∈ cs, rmGet rm c = some (.tuple [.str (T c).1, .tuple ((T c).2.map PyData.int)])
  fcc : ∃ rm, D.map.lookup sCcc = some rm ∧ ∀ c ∈ cs, rmGet rm c = some (.int (cc c))
  fdm : ∃ rm, D.map.lookup sDm = some rm ∧ ∀ c ∈ cs, rmGet rm c = some (dmP ((dq c).map fun q => [q.1, q.2]))
  ex : D.map.lookup sEx = none ∧ kget D.defs sEx = some (.bool false)
  str : ∀ c ∈ cs, (PyData.str (T c).1).canLay0 = true
  clT : ∀ c ∈ cs, ∀ o ∈ (T c).2, o ∈ cs
  lenT : ∀ c ∈ cs, (T c).2.length ≤ 2
  clD : ∀ c ∈ cs, ∀ a b, dq c = some (a, b) → a ∈ cs ∧ b ∈ cs ∧ dq a = none ∧ dq b = none
  ok : ∀ c ∈ cs, c < 44032 ∧ (c < 4352 ∨ 4371 ≤ c)
  finj : ∀ x ∈ cs, ∀ y ∈ cs, 0 < cc x → 0 < cc y → cc x = cc y → x = y
  fnn : ∀ x ∈ cs, 0 ≤ cc x
noncomputable def wValid : Str := ⟨#[118, 97, 108, 105, 100]⟩
noncomputable def wMapped : Str := ⟨#[109, 97, 112, 112, 101, 100]⟩
noncomputable def wIgnored : Str := ⟨#[105, 103, 110, 111, 114, 101, 100]⟩
noncomputable def wDev : Str := ⟨#[100, 101, 118, 105, 97, 116, 105, 111, 110]⟩
noncomputable def wDis : Str := ⟨#[100, 105, 115, 97, 108, 108, 111, 119, 101, 100]⟩
noncomputable def wDV : Str := ⟨#[100, 105, 115, 97, 108, 108, 111, 119, 101, 100, 95, 83, 84, 68, 51, 95, 118, 97, 108, 105, 100]⟩
noncomputable def wDM : Str := ⟨#[100, 105, 115, 97, 108, 108, 111, 119, 101, 100, 95, 83, 84, 68, 51, 95, 109, 97, 112, 112, 101, 100]⟩
noncomputable def idSt (s : Str) (only : Bool) : Str := if s = wDV then (if only then wDis else wValid) else if s = wDM then (if only then wDis else wMapped) else s
theorem T2.eqs {x : Str} {y : Str} {ly : List Nat} {Q : V → Own → Prop} (hx : (PyData.str x).canLay0 = true) (hy : (PyData.str y).canLay0 = true) (e : y.cps.toList = ly) (h : Q (.bool (decide (x = y))) own) : T2 prog w B (compareOp .Eq) (.str x.cps.toList) (.str ly) own Q := by
  subst e
  refine T2.eq (rd_of (d := .str x) rfl) (rd_of (d := .str y) rfl) hx hy (Nat.zero_le _) ?_
  have : PyData.eqv (.str x) (.str y) = decide (x = y) := by show (x == y) = _; rfl
  rw [this]; exact h
theorem T2.nes {x : Str} {y : Str} {ly : List Nat} {Q : V → Own → Prop} (hx : (PyData.str x).canLay0 = true) (hy : (PyData.str y).canLay0 = true) (e : y.cps.toList = ly) (h : Q (.bool (!decide (x = y))) own) : T2 prog w B (compareOp .NotEq) (.str x.cps.toList) (.str ly) own Q := by
  subst e
  refine T2.ne (rd_of (d := .str x) rfl) (rd_of (d := .str y) rfl) hx hy (Nat.zero_le _) ?_
  have : PyData.eqv (.str x) (.str y) = decide (x = y) := by show (x == y) = _; rfl
  rw [this]; exact h
theorem idSt_lay {s : Str} {only : Bool} (h : (PyData.str s).canLay0 = true) : (PyData.str (idSt s only)).canLay0 = true := by
  unfold idSt
  split
  · cases only <;> decide +kernel
  · split
    · cases only <;> decide +kernel
    · exact h
theorem tc_idstat (hB : B.K = KK P) {m : Nat} {F : List Nat} {D : DT} {T : Int → Str × List Int} {cc : Int → Int} {dq : Int → Option (Int × Int)} {cs : List Int} {c : Int} {only : Bool} {Q : V → Own → Prop} (I : IsData own m F D) (K : DOk D T cc dq cs) (hc : c ∈ cs)
    (h : Q (.tup [.str (idSt (T c).1 only).cps.toList, .tup ((T c).2.map V.int)]) own) : TC prog w B (d + 4) (.ref 202) [.int c, .obj m, .bool only] own Q := by
  obtain ⟨rm, k1, k2⟩ := K.fid
  have hs := K.str c hc
  obtain ⟨⟨dm', D0, MM, p, w, maps, ds, i1, i2, i3, i4, i5, i6, i7, i8⟩, _⟩ := id I
  have ev : vOf (.tuple [.str (T c).1, .tuple ((T c).2.map PyData.int)]) = .tup [.str (T c).1.cps.toList, .tup ((T c).2.map V.int)] := by
    simp only [vOf, vOfs, vOfs_map, List.map_map]; rfl
  refine TC.deff (dv := []) (D_idna_status hB) F_idna_status rfl rfl (fun _ => rfl) (by intro q h; cases h) ?_
  intro Kr hK
  refine TS.assigntf (l := [some (.int c), some (.obj m), some (.bool only), none, none]) (fun _ => rfl) (fun _ _ _ => rfl) ?_
  kts_caught
  repeat tb_rel
  refine tc_dataget hB I k1 (k2 c hc) ?_
  rw [ev]
  generalize (T c).1 = s at *
  generalize (T c).2 = xs at *
  repeat tb_rel
  unfold idSt at h
  refine TS.iff ?_
  repeat tb_rel
  refine T2.eqs (y := wDV) hs (by decide +kernel) rfl ?_
  repeat tb_rel
  refine ⟨fun e => ?_, fun e => ?_⟩
  · rw [if_pos (of_decide_eq_true e)] at h
    repeat tb_rel
    cases only with
    | true =>
      refine ⟨fun _ => ?_, (by first | exact tf | exact ft)⟩
      repeat tb_rel
      exact h
    | false =>
      refine ⟨(by first | exact tf | exact ft), fun _ => ?_⟩
      repeat tb_rel
      exact h
  rw [if_neg (of_decide_eq_false e)] at h
  repeat tb_rel
  refine TS.iff ?_
  repeat tb_rel
  refine T2.eqs (y := wDM) hs (by decide +kernel) rfl ?_
  repeat tb_rel
  refine ⟨fun e => ?_, fun e => ?_⟩
  · rw [if_pos (of_decide_eq_true e)] at h
    repeat tb_rel
    cases only with
    | true =>
      refine ⟨fun _ => ?_, (by first | exact tf | exact ft)⟩
      repeat tb_rel
      exact h
    | false =>
      refine ⟨(by first | exact tf | exact ft), fun _ => ?_⟩
      repeat tb_rel
      exact h
  rw [if_neg (of_decide_eq_false e)] at h
  repeat tb_rel
  exact h
noncomputable def mapOne (T : Int → Str × List Int) (c : Int) (late only : Bool) : Option (List Int) :=
  if idSt (T c).1 only = wValid then some [c] else if idSt (T c).1 only = wIgnored then some [] else if idSt (T c).1 only = wDev then some (if late then (T c).2 else [c])
  else if idSt (T c).1 only = wMapped then (if late then some ((T c).2.flatMap fun o => if idSt (T o).1 only = wDev then (T o).2 else [o]) else some (T c).2) else none
theorem ints_len {xs : List Int} {n : Nat} (h : xs.length ≤ n) (hn : n ≤ 4000) : (xs.map V.int).length ≤ sizeLine := by rw [List.length_map]; exact fits (Nat.le_trans h hn)
theorem tc_idmap (hB : B.K = KK P) {m : Nat} {F : List Nat} {D : DT} {T : Int → Str × List Int} {cc : Int → Int} {dq : Int → Option (Int × Int)} {cs : List Int} {c : Int} {late only : Bool} {Q : V → Own → Prop} (I : IsData own m F D) (K : DOk D T cc dq cs) (hc : c ∈ cs)
    (h0 : mapOne T c late only = none → Q .none own) (h1 : ∀ xs, mapOne T c late only = some xs → ∀ own' a, Sub own own' → Fresh own a → own' a = some (.list (xs.map V.int)) → Q (.obj a) own') : TC prog w B (d + 5) (.ref 209) [.int c, .obj m, .bool late, .bool only] own Q := by
  have hs := idSt_lay (only := only) (K.str c hc)
  have hlt := K.lenT c hc
  refine TC.deff (dv := []) (D_idna_mapped hB) F_idna_mapped rfl rfl (fun _ => rfl) (by intro q h; cases h) ?_
  intro Kr hK
  refine TS.assigntf (l := [some (.int c), some (.obj m), some (.bool late), some (.bool only), none, none, none, none, none]) (fun _ => rfl) (fun _ _ _ => rfl) ?_
  repeat tb_rel
  refine tc_idstat hB I K hc ?_
  repeat tb_rel
  unfold mapOne at h0 h1
  refine TS.iff ?_
  repeat tb_rel
  refine T2.eqs (y := wValid) hs (by decide +kernel) rfl ?_
  repeat tb_rel
  refine ⟨fun e => ?_, fun e => ?_⟩
  · rw [if_pos (of_decide_eq_true e)] at h1
    repeat tb_rel
    intro a (ha : Fresh _ a)
    exact hK.ret (h1 _ rfl _ a (Sub.alloc ha .refl) ha (Own.put_self _ _ _))
  rw [if_neg (of_decide_eq_false e)] at h0 h1
  repeat tb_rel
  refine TS.iff ?_
  repeat tb_rel
  refine T2.eqs (y := wIgnored) hs (by decide +kernel) rfl ?_
  repeat tb_rel
  refine ⟨fun e => ?_, fun e => ?_⟩
  · rw [if_pos (of_decide_eq_true e)] at h1
    repeat tb_rel
    intro a (ha : Fresh _ a)
    exact hK.ret (h1 _ rfl _ a (Sub.alloc ha .refl) ha (Own.put_self _ _ _))
  rw [if_neg (of_decide_eq_false e)] at h0 h1
  repeat tb_rel
  refine TS.iff ?_
  repeat tb_rel
  refine T2.eqs (y := wDev) hs (by decide +kernel) rfl ?_
  repeat tb_rel
  refine ⟨fun e => ?_, fun e => ?_⟩
  · rw [if_pos (of_decide_eq_true e)] at h1
    repeat tb_rel
    cases late with
    | true =>
      refine ⟨fun _ => ?_, (by first | exact tf | exact ft)⟩
      repeat tb_rel
      refine TN.list_tup (ints_len hlt (by decide)) fun a (ha : Fresh _ a) => ?_
      exact hK.ret (h1 _ rfl _ a (Sub.alloc ha .refl) ha (Own.put_self _ _ _))
    | false =>
      refine ⟨(by first | exact tf | exact ft), fun _ => ?_⟩
      repeat tb_rel
      intro a (ha : Fresh _ a)
      exact hK.ret (h1 _ rfl _ a (Sub.alloc ha .refl) ha (Own.put_self _ _ _))
  rw [if_neg (of_decide_eq_false e)] at h0 h1
  repeat tb_rel
  refine TS.iff ?_
  repeat tb_rel
  refine T2.nes (y := wMapped) hs (by decide +kernel) rfl ?_
  repeat tb_rel
  refine ⟨fun e => ?_, fun e => ?_⟩
  · rw [if_neg (by simpa using e)] at h0
    repeat tb_rel
    exact h0 rfl
  rw [if_pos (by simpa using e)] at h1
  clear h0
  repeat tb_rel
  refine TS.iff ?_
  repeat tb_rel
  cases late with
  | false =>
    refine ⟨fun _ => ?_, (by first | exact tf | exact ft)⟩
    repeat tb_rel
    refine TN.list_tup (ints_len hlt (by decide)) fun a (ha : Fresh _ a) => ?_
    exact hK.ret (h1 _ rfl _ a (Sub.alloc ha .refl) ha (Own.put_self _ _ _))
  | true =>
    refine ⟨(by first | exact tf | exact ft), fun _ => ?_⟩
    repeat tb_rel
    intro f (hf : Fresh _ f)
    repeat tb_rel
    have h1 := h1 _ rfl
    generalize htot : (T c).2.flatMap (fun o => if idSt (T o).1 only = wDev then (T o).2 else [o]) = tot at h1
    with_reducible refine TS.forI ?hs (TI.tup ?_)
    case hs => (intro _ _; kernel_rfl)
    repeat tb_rel
    refine ⟨_, rfl, fun vs l o => ∃ (r acc : List Int) (x y : Option V), vs = r.map V.int ∧ (∀ z ∈ r, z ∈ cs) ∧ acc.length + 2 * r.length ≤ 10 ∧ acc ++ r.flatMap (fun o => if idSt (T o).1 only = wDev then (T o).2 else [o]) = tot ∧
      l = [some (.int c), some (.obj m), some (.bool true), some (.bool only), some (.str (idSt (T c).1 only).cps.toList), some (.tup ((T c).2.map V.int)), some (.obj f), x, y] ∧ o f = some (.list (acc.map V.int)) ∧ Sub own o,
      (exI4 ((T c).2) [] none none ⟨rfl, K.clT c hc, by simp; omega, by simpa using htot, rfl, Own.put_self _ _ _, Sub.alloc hf .refl⟩), fun _ _ _ _ => trivial, ?_, ?_⟩
    · intro l o ha_; (with_reducible refine exE4 ha_ fun r acc x y hb_ => aE7 hb_ fun e1 e2 e3 e4 q4_ e6 e7 => ?_); clear ha_ hb_; subst q4_
      obtain rfl : r = [] := List.map_eq_nil_iff.mp e1.symm
      repeat tb_rel
      refine h1 o f e7 hf ?_
      rw [← e4]; simpa using e6
    · intro v vs l o ha_; (with_reducible refine exE4 ha_ fun r acc x y hb_ => aE7 hb_ fun e1 e2 e3 e4 q4_ e6 e7 => ?_); clear ha_ hb_; subst q4_
      cases r with
      | nil => cases e1
      | cons z r =>
        cases e1
        have hz := e2 z (.head _)
        rw [List.flatMap_cons, ← List.append_assoc] at e4
        rw [List.length_cons] at e3
        have hl2 := K.lenT z hz
        repeat tb_rel
        refine tc_idstat hB (I.sub e7) K hz ?_
        repeat tb_rel
        refine ⟨.list e6, ?_⟩
        repeat tb_rel
        refine T2.eqs (y := wDev) (idSt_lay (K.str z hz)) (by decide +kernel) rfl ?_
        repeat tb_rel
        refine ⟨fun e => ?_, fun e => ?_⟩
        · rw [if_pos (of_decide_eq_true e)] at e4
          repeat tb_rel
          refine TN.list_tup (ints_len hl2 (by decide)) fun a (ha : Fresh _ a) => ?_
          repeat tb_rel
          refine TN.extend (by tb_start) (by tb_start) (fits (by simp only [List.length_map]; omega)) ?_
          repeat tb_rel
          rw [← List.map_append]
          exact (exI4 r (acc ++ (T z).2) _ _ ⟨rfl, fun q hq => e2 q (.tail _ hq), by rw [List.length_append]; omega, e4, rfl, Own.put_self _ _ _, Sub.put (Sub.alloc ha e7) hf⟩)
        · rw [if_neg (of_decide_eq_false e)] at e4
          repeat tb_rel
          intro a (ha : Fresh _ a)
          repeat tb_rel
          refine TN.extend (by tb_start) (by tb_start) (fits (by simp only [List.length_map, List.length_cons, List.length_nil]; omega)) ?_
          repeat tb_rel
          refine (exI4 r (acc ++ [z]) _ _ ⟨rfl, fun q hq => e2 q (.tail _ hq), by rw [List.length_append, List.length_singleton]; omega, e4, rfl, ?_, Sub.put (Sub.alloc ha e7) hf⟩)
          rw [List.map_append]; exact Own.put_self _ _ _
theorem tc_fmap (hB : B.K = KK P) {m : Nat} {F : List Nat} {D : DT} {T : Int → Str × List Int} {cc : Int → Int} {dq : Int → Option (Int × Int)} {cs : List Int} {c : Int} {Q : V → Own → Prop} (I : IsData own m F D) (K : DOk D T cc dq cs) (hc : c ∈ cs)
    (h0 : dq c = none → Q .none own) (h1 : ∀ a b, dq c = some (a, b) → Q (.tup [.int a, .int b]) own) : TC prog w B (d + 4) (.ref 96) [.int c, .obj m, .bool false] own Q := by
  obtain ⟨rm, k1, k2⟩ := K.fdm
  obtain ⟨⟨dm', D0, MM, p, w, maps, ds, i1, i2, i3, i4, i5, i6, i7, i8⟩, _⟩ := id I
  refine TC.deff (dv := []) (D_form_mapping hB) F_form_mapping rfl rfl (fun _ => rfl) (by intro q h; cases h) ?_
  intro Kr hK
  refine' TS.assignf (l := [some (.int c), some (.obj m), some (.bool false), none, none]) ?hi ?hl ?hb ?hs ?_
  case hi => exact rfl
  case hl => exact rfl
  case hb => exact rfl
  case hs => exact fun _ _ _ => rfl
  repeat tb_rel
  refine tc_hparts hB (K.ok c hc).1 ?_
  repeat tb_rel
  refine TS.iff ?_
  repeat tb_rel
  refine ⟨(by first | exact tf | exact ft), fun _ => ?_⟩
  repeat tb_rel
  kts_caught
  repeat tb_rel
  cases hq : dq c with
  | none =>
    have k3 : rmGet rm c = some .none := by rw [k2 c hc, hq]; rfl
    refine tc_dataget hB I k1 k3 ?_
    rw [show vOf .none = V.none from rfl]
    repeat tb_rel
    refine TS.iff ?_
    repeat tb_rel
    refine ⟨fun _ => ?_, (by first | exact tf | exact ft)⟩
    refine ⟨fun _ => ?_, (by first | exact tf | exact ft)⟩
    repeat tb_rel
    exact h0 hq
  | some q =>
    obtain ⟨a, b⟩ := q
    have k3 : rmGet rm c = some (.tuple [.str ⟨#[]⟩, .tuple [.int a, .int b]]) := by rw [k2 c hc, hq]; rfl
    refine tc_dataget hB I k1 k3 ?_
    rw [show vOf (.tuple [.str ⟨#[]⟩, .tuple [.int a, .int b]]) = V.tup [.str [], .tup [.int a, .int b]] from rfl]
    repeat tb_rel
    refine TS.iff ?_
    repeat tb_rel
    refine ⟨(by first | exact tf | exact ft), fun _ => ?_⟩
    repeat tb_rel
    refine T2.nes (x := ⟨#[]⟩) (y := ⟨#[]⟩) (by decide +kernel) (by decide +kernel) rfl ?_
    repeat tb_rel
    refine ⟨(by first | exact tf | exact ft), fun _ => ?_⟩
    refine ⟨(by first | exact tf | exact ft), fun _ => ?_⟩
    repeat tb_rel
    refine ⟨(by first | exact tf | exact ft), fun _ => ?_⟩
    repeat tb_rel
    exact h1 a b hq
inductive Steps (dq : Int → Option (Int × Int)) (cs : List Int) (R : List Int) : List (Option Int) → List Int → List Int → Nat → Prop
  | done {O : List Int} : Steps dq cs R [] O R 0
  | pop {W : List (Option Int)} {O Fd : List Int} {x : Int} {n : Nat} : Steps dq cs R W O Fd n → Steps dq cs R (W ++ [none]) (O ++ [x]) Fd (n + 1)
  | leaf {W : List (Option Int)} {O Fd : List Int} {z : Int} {n : Nat} : z ∈ cs → dq z = none → Steps dq cs R W O (Fd ++ [z]) n → Steps dq cs R (W ++ [some z]) O Fd (n + 1)
  | node {W : List (Option Int)} {O Fd : List Int} {z a b : Int} {n : Nat} : z ∈ cs → dq z = some (a, b) → z ∉ O → Steps dq cs R (W ++ [none, some b, some a]) (O ++ [z]) Fd n → Steps dq cs R (W ++ [some z]) O Fd (n + 1)
noncomputable def oV : Option Int → V
  | none => .none
  | some z => .int z
noncomputable def oP : Option Int → PyData
  | none => .none
  | some z => .int z
theorem rd_oV : ∀ W : List (Option Int), RdAll own (W.map oV) (W.map oP)
  | [] => .nil
  | none :: W => .cons .none (rd_oV W)
  | some z :: W => .cons (.int z) (rd_oV W)
theorem lay_oP : ∀ W : List (Option Int), PyData.canLayAll0 (W.map oP) = true
  | [] => rfl
  | none :: W => by simp [PyData.canLayAll0, oP, PyData.canLay0, lay_oP W]
  | some z :: W => by simp [PyData.canLayAll0, oP, PyData.canLay0, lay_oP W]
theorem T2.ne_nil {a b : Nat} {W : List (Option Int)} {Q : V → Own → Prop} (ha : own a = some (.list (W.map oV))) (hb : own b = some (.list [])) (h : Q (.bool (!W.isEmpty)) own) : T2 prog w B (compareOp .NotEq) (.obj a) (.obj b) own Q := by
  refine T2.ne (.list ha (rd_oV W)) (.list hb .nil) (by show PyData.canLayAll0 _ = true; exact lay_oP W) rfl ?_ ?_
  · refine Nat.le_trans (Nat.min_le_right _ _) ?_
    decide
  · have : PyData.eqv (.list (W.map oP)) (.list []) = W.isEmpty := by cases W <;> rfl
    rw [this]; exact h
theorem any_int (z : Int) : ∀ O : List Int, (O.any fun x => x == z) = decide (z ∈ O)
  | [] => rfl
  | x :: O => by
    rw [List.any_cons, any_int z O]
    by_cases e : z = x
    · subst e; simp
    · have e2 : (x == z) = false := by simpa using Ne.symm e
      rw [e2]; simp [e]
theorem T2.in_ints {z : Int} {a : Nat} {O : List Int} {Q : V → Own → Prop} (ha : own a = some (.list (O.map V.int))) (h : Q (.bool (decide (z ∈ O))) own) : T2 prog w B (compareOp .In) (.int z) (.obj a) own Q := by
  refine T2.in_list ha (.int z) (RdAll.ints own O) rfl (canLay_ints O) (Nat.zero_le _) ?_
  have : ((O.map PyData.int).any fun y => PyData.eqv y (.int z)) = decide (z ∈ O) := by
    rw [List.any_map]
    exact any_int z O
  rw [this]; exact h
theorem Steps.inv {dq : Int → Option (Int × Int)} {cs R : List Int} {W : List (Option Int)} {O Fd : List Int} {k : Nat} (h : Steps dq cs R W O Fd k) : (W = [] ∧ Fd = R) ∨ (∃ W' O' x n, W = W' ++ [none] ∧ O = O' ++ [x] ∧ k = n + 1 ∧ Steps dq cs R W' O' Fd n) ∨
    (∃ W' z n, W = W' ++ [some z] ∧ k = n + 1 ∧ z ∈ cs ∧ dq z = none ∧ Steps dq cs R W' O (Fd ++ [z]) n) ∨ (∃ W' z a b n, W = W' ++ [some z] ∧ k = n + 1 ∧ z ∈ cs ∧ dq z = some (a, b) ∧ z ∉ O ∧ Steps dq cs R (W' ++ [none, some b, some a]) (O ++ [z]) Fd n) := by
  cases h with
  | done => exact .inl ⟨rfl, rfl⟩
  | pop h => exact .inr (.inl (exI4 _ _ _ _ ⟨rfl, rfl, rfl, h⟩))
  | leaf h1 h2 h => exact .inr (.inr (.inl (exI3 _ _ _ ⟨rfl, rfl, h1, h2, h⟩)))
  | node h1 h2 h3 h => exact .inr (.inr (.inr (exI5 _ _ _ _ _ ⟨rfl, rfl, h1, h2, h3, h⟩)))
theorem ne_snoc (W : List (Option Int)) (x : Option Int) : (!(W ++ [x]).isEmpty) = true := by cases W <;> rfl
noncomputable def feOf (dq : Int → Option (Int × Int)) (c : Int) : List Int := match dq c with
  | none => [c]
  | some (a, b) => [a, b]
theorem feOf_len (dq : Int → Option (Int × Int)) (c : Int) : (feOf dq c).length ≤ 2 := by
  unfold feOf; split <;> simp
theorem steps_of {D : DT} {T : Int → Str × List Int} {cc : Int → Int} {dq : Int → Option (Int × Int)} {cs : List Int} (K : DOk D T cc dq cs) {c : Int} (hc : c ∈ cs) : ∃ n, n ≤ 5 ∧ Steps dq cs (feOf dq c) [some c] [] [] n := by
  unfold feOf
  cases hq : dq c with
  | none => exact ⟨1, by decide, .leaf (W := []) hc hq .done⟩
  | some q =>
    obtain ⟨a, b⟩ := q
    obtain ⟨k1, k2, k3, k4⟩ := K.clD c hc a b hq
    exact ⟨4, by decide, .node (W := []) hc hq (by simp) (.leaf (W := [none, some b]) k1 k3 (.leaf (W := [none]) k2 k4 (.pop (W := []) (O := []) .done)))⟩
theorem omap_snoc (W : List (Option Int)) (x : Option Int) : (W ++ [x]).map oV = W.map oV ++ [oV x] := by rw [List.map_append]; rfl
theorem pop_fits {α : Type} {f : α → V} {xs : List α} {x : α} {y : V} {k n : Nat} (h : (xs ++ [x]).length + k ≤ n) (q : Nat.ble n 1000 = true) : (xs.map f ++ [y]).length ≤ sizeLine :=
  fits (Nat.le_trans (by rw [List.length_append, List.length_append, List.length_map]; exact Nat.le_refl _) (Nat.le_trans (Nat.le_trans (Nat.le_add_right _ k) h) (Nat.le_trans (Nat.le_of_ble_eq_true q) (by decide))))
theorem snoc_le {α : Type} {xs : List α} {x : α} {k n : Nat} (h : (xs ++ [x]).length + k ≤ n) : xs.length + k ≤ n := Nat.le_trans (Nat.add_le_add_right (by rw [List.length_append]; exact Nat.le_add_right _ _) k) h
theorem three {a n m : Nat} (h : a + 3 * (n + 1) ≤ m) : a + 3 * n ≤ m := by omega
theorem bd {a k n : Nat} (h : a + k ≤ n) (q : Nat.ble n 1000 = true) : a ≤ 1000 := Nat.le_trans (Nat.le_trans (Nat.le_add_right _ _) h) (Nat.le_of_ble_eq_true q)
theorem tc_fexp (hB : B.K = KK P) {m : Nat} {F : List Nat} {D : DT} {T : Int → Str × List Int} {cc : Int → Int} {dq : Int → Option (Int × Int)} {cs : List Int} {c : Int} {Q : V → Own → Prop} (I : IsData own m F D) (K : DOk D T cc dq cs) (hc : c ∈ cs)
    (h : ∀ own' f, Sub own own' → Fresh own f → own' f = some (.list ((feOf dq c).map V.int)) → Q (.obj f) own') : TC prog w B (d + 5) (.ref 103) [.int c, .obj m, .bool false] own Q := by
  obtain ⟨n0, hn0, st0⟩ := steps_of K hc
  generalize feOf dq c = R at h st0
  refine TC.deff (dv := []) (D_form_expanded hB) F_form_expanded rfl rfl (fun _ => rfl) (by intro q h; cases h) ?_
  intro Kr hK
  refine' TS.assignf (l := [some (.int c), some (.obj m), some (.bool false), none, none, none, none, none, none]) ?hi ?hl ?hb ?hs ?_
  case hi => exact rfl
  case hl => exact rfl
  case hb => exact rfl
  case hs => exact fun _ _ _ => rfl
  repeat tb_rel
  intro f (hf : Fresh _ f)
  repeat tb_rel
  intro wt (hw : Fresh _ wt)
  repeat tb_rel
  intro oc (ho : Fresh _ oc)
  have nfw : f ≠ wt := ne_base (o := .list []) hw (by tb_start)
  have nfo : f ≠ oc := ne_base (o := .list []) ho (by tb_start)
  have nwo : wt ≠ oc := ne_base (o := .list [.int c]) ho (by tb_start)
  have fw : Fresh own wt := by top_name
  have fo : Fresh own oc := by top_name
  have s0 : Sub own (((own.put f (.list [])).put wt (.list [.int c])).put oc (.list [])) := by top_raise0
  have g1 : (((own.put f (.list [])).put wt (.list [.int c])).put oc (.list [])) f = some (.list []) := by tb_start
  have g2 : (((own.put f (.list [])).put wt (.list [.int c])).put oc (.list [])) wt = some (.list [.int c]) := by tb_start
  have g3 : (((own.put f (.list [])).put wt (.list [.int c])).put oc (.list [])) oc = some (.list []) := by tb_start
  generalize (((own.put f (.list [])).put wt (.list [.int c])).put oc (.list [])) = o0 at s0 g1 g2 g3 ⊢
  clear hw ho
  refine TS.conss (TX.whilef (fun k l o => ∃ (W : List (Option Int)) (O Fd : List Int) (x y z : Option V), Steps dq cs R W O Fd k ∧ W.length + 3 * k ≤ 30 ∧ O.length + k ≤ 30 ∧ Fd.length + k ≤ 30 ∧
    l = [some (.int c), some (.obj m), some (.bool false), some (.obj f), some (.obj wt), some (.obj oc), x, y, z] ∧ o f = some (.list (Fd.map V.int)) ∧ o wt = some (.list (W.map oV)) ∧ o oc = some (.list (O.map V.int)) ∧ Sub own o) (fun k l o hI => ?_) n0
    (exI6 [some c] [] [] none none none ⟨st0, by simp; omega, by simp; omega, by simp; omega, rfl, g1, g2, g3, s0⟩))
  clear g1 g2 g3 s0 st0 hn0
  obtain ⟨W, O, Fd, x, y, z, stx, b1, b2, b3, rfl, g1, g2, g3, s0⟩ := hI
  repeat tb_rel
  intro e0 (he0 : Fresh _ e0)
  refine T2.ne_nil (W := W) (by tb_start) (by tb_start) ?_
  have q1 : (o.put e0 (.list [])) f = some (.list (Fd.map V.int)) := by tb_start
  have q2 : (o.put e0 (.list [])) wt = some (.list (W.map oV)) := by tb_start
  have q3 : (o.put e0 (.list [])) oc = some (.list (O.map V.int)) := by tb_start
  have q4 : Sub own (o.put e0 (.list [])) := by top_raise0
  generalize o.put e0 (.list []) = o1 at q1 q2 q3 q4 ⊢
  clear g1 g2 g3 s0 he0
  repeat tb_rel
  rcases stx.inv with ⟨rfl, rfl⟩ | ⟨W', O', u, n, rfl, rfl, rfl, st⟩ | ⟨W', v, n, rfl, rfl, hv, hq, st⟩ | ⟨W', v, a, b, n, rfl, rfl, hv, hq, hn, st⟩
  · refine ⟨fun _ => ?_, (by first | exact tf | exact ft)⟩
    repeat tb_rel
    exact h o1 f q4 hf q1
  · rw [omap_snoc, show oV none = V.none from rfl] at q2
    rw [List.map_append] at q3
    rw [ne_snoc]
    refine ⟨(by first | exact tf | exact ft), fun _ => ?_⟩
    repeat tb_rel
    refine ⟨.list q2, ?_⟩
    refine TN.pop q2 (pop_fits b1 rfl) ?_
    repeat tb_rel
    refine TS.iff ?_
    repeat tb_rel
    refine ⟨fun _ => ?_, (by first | exact tf | exact ft)⟩
    repeat tb_rel
    rw [show [u].map V.int = [V.int u] from rfl] at q3
    refine ⟨.list (vs := O'.map V.int ++ [V.int u]) (by tb_start), ?_⟩
    refine TN.pop (vs := O'.map V.int) (v := .int u) (by tb_start) (pop_fits b2 rfl) ?_
    repeat tb_rel
    exact ⟨n, Nat.lt_succ_self _, exI6 W' O' Fd _ _ _ ⟨st, three (snoc_le b1), Nat.le_of_succ_le (snoc_le b2), Nat.le_of_succ_le b3, rfl, by tb_start, by tb_start, by tb_start, by top_raise0⟩⟩
  · rw [omap_snoc, show oV (some v) = V.int v from rfl] at q2
    rw [ne_snoc]
    refine ⟨(by first | exact tf | exact ft), fun _ => ?_⟩
    repeat tb_rel
    refine ⟨.list q2, ?_⟩
    refine TN.pop q2 (pop_fits b1 rfl) ?_
    repeat tb_rel
    refine TS.iff ?_
    repeat tb_rel
    refine ⟨(by first | exact tf | exact ft), fun _ => ?_⟩
    repeat tb_rel
    have s5 : Sub own (o1.put wt (.list (W'.map oV))) := by top_raise0
    refine tc_fmap hB (I.sub s5) K hv (fun _ => ?_) (fun a b e => by rw [hq] at e; cases e)
    repeat tb_rel
    refine TS.iff ?_
    repeat tb_rel
    refine ⟨fun _ => ?_, (by first | exact tf | exact ft)⟩
    repeat tb_rel
    refine ⟨.list (vs := Fd.map V.int) (by tb_start), ?_⟩
    repeat tb_rel
    refine TN.append (vs := Fd.map V.int) (by tb_start) (mlen4 (bd b3 rfl)) ?_
    repeat tb_rel
    refine ⟨n, Nat.lt_succ_self _, exI6 W' O (Fd ++ [v]) _ _ _ ⟨st, three (snoc_le b1), Nat.le_of_succ_le b2, acc_succ b3, rfl, ?_, by tb_start, by tb_start, by top_raise0⟩⟩
    rw [List.map_append]; exact Own.put_self _ _ _
  · rw [omap_snoc, show oV (some v) = V.int v from rfl] at q2
    rw [ne_snoc]
    refine ⟨(by first | exact tf | exact ft), fun _ => ?_⟩
    repeat tb_rel
    refine ⟨.list q2, ?_⟩
    refine TN.pop q2 (pop_fits b1 rfl) ?_
    repeat tb_rel
    refine TS.iff ?_
    repeat tb_rel
    refine ⟨(by first | exact tf | exact ft), fun _ => ?_⟩
    repeat tb_rel
    have s5 : Sub own (o1.put wt (.list (W'.map oV))) := by top_raise0
    refine tc_fmap hB (I.sub s5) K hv (fun e => by rw [hq] at e; cases e) (fun a' b' e => ?_)
    rw [hq] at e
    cases e
    repeat tb_rel
    refine TS.iff ?_
    repeat tb_rel
    refine ⟨(by first | exact tf | exact ft), fun _ => ?_⟩
    repeat tb_rel
    refine TS.iff ?_
    repeat tb_rel
    refine T2.in_ints (O := O) (by tb_start) ?_
    repeat tb_rel
    rw [decide_eq_false hn]
    refine ⟨(by first | exact tf | exact ft), fun _ => ?_⟩
    repeat tb_rel
    refine ⟨.list (vs := O.map V.int) (by tb_start), ?_⟩
    repeat tb_rel
    refine TN.append (vs := O.map V.int) (by tb_start) (mlen4 (bd b2 rfl)) ?_
    repeat tb_rel
    refine ⟨.list (vs := W'.map oV) (by tb_start), ?_⟩
    repeat tb_rel
    refine TN.append (vs := W'.map oV) (by tb_start) (mlen4 (bd (snoc_le b1) rfl)) ?_
    repeat tb_rel
    have r1 : (((o1.put wt (.list (W'.map oV))).put oc (.list (O.map V.int ++ [.int v]))).put wt (.list (W'.map oV ++ [.none]))) f = some (.list (Fd.map V.int)) := by tb_start
    have r2 : (((o1.put wt (.list (W'.map oV))).put oc (.list (O.map V.int ++ [.int v]))).put wt (.list (W'.map oV ++ [.none]))) wt = some (.list ((W' ++ [none]).map oV)) := by rw [omap_snoc]; exact Own.put_self _ _ _
    have r3 : (((o1.put wt (.list (W'.map oV))).put oc (.list (O.map V.int ++ [.int v]))).put wt (.list (W'.map oV ++ [.none]))) oc = some (.list ((O ++ [v]).map V.int)) := by rw [List.map_append]; exact (Own.put_ne _ _ nwo.symm).trans (Own.put_self _ _ _)
    have r4 : Sub own (((o1.put wt (.list (W'.map oV))).put oc (.list (O.map V.int ++ [.int v]))).put wt (.list (W'.map oV ++ [.none]))) := by top_raise0
    generalize ((o1.put wt (.list (W'.map oV))).put oc (.list (O.map V.int ++ [.int v]))).put wt (.list (W'.map oV ++ [.none])) = o2 at r1 r2 r3 r4 ⊢
    with_reducible refine TS.forI ?hs (TI.tup ?_)
    case hs => (intro _ _; kernel_rfl)
    refine TE.rev2 (fun _ _ => rfl) ?_
    repeat tb_rel
    refine ⟨_, _, rfl, rfl, ?_⟩
    refine ⟨_, rfl, fun vs l o => ∃ (r : List Int) (Wd : List (Option Int)) (z : Option V), vs = r.map V.int ∧ Wd ++ r.map some = W' ++ [none, some b, some a] ∧
      l = [some (.int c), some (.obj m), some (.bool false), some (.obj f), some (.obj wt), some (.obj oc), some (.int v), some (.tup [.int a, .int b]), z] ∧ o f = some (.list (Fd.map V.int)) ∧ o wt = some (.list (Wd.map oV)) ∧ o oc = some (.list ((O ++ [v]).map V.int)) ∧ Sub own o,
      (exI3 [b, a] (W' ++ [none]) _ ⟨rfl, by simp, rfl, r1, r2, r3, r4⟩), fun _ _ _ _ => trivial, ?_, ?_⟩
    · intro l o ha_; (with_reducible refine exE3 ha_ fun r Wd z hb_ => aE7 hb_ fun e1 e2 q2_ e4 e5 e6 e7 => ?_); clear ha_ hb_; subst q2_
      obtain rfl : r = [] := List.map_eq_nil_iff.mp e1.symm
      rw [List.map_nil, List.append_nil] at e2
      subst e2
      repeat tb_rel
      exact ⟨n, Nat.lt_succ_self _, exI6 _ (O ++ [v]) Fd _ _ _ ⟨st, by simp only [List.length_append, List.length_cons, List.length_nil] at b1 ⊢; omega, acc_succ b2, Nat.le_of_succ_le b3, rfl, e4, e5, e6, e7⟩⟩
    · intro u vs l o ha_; (with_reducible refine exE3 ha_ fun r Wd z hb_ => aE7 hb_ fun e1 e2 q2_ e4 e5 e6 e7 => ?_); clear ha_ hb_; subst q2_
      cases r with
      | nil => cases e1
      | cons t r =>
        cases e1
        have lw : Wd.length ≤ 100 := by
          have := congrArg List.length e2
          simp only [List.length_append, List.length_map, List.length_cons] at this b1
          omega
        repeat tb_rel
        refine ⟨.list e5, ?_⟩
        repeat tb_rel
        refine TN.append e5 (fits (by rw [List.length_map]; omega)) ?_
        repeat tb_rel
        refine (exI3 r (Wd ++ [some t]) _ ⟨rfl, by rw [← e2]; simp, rfl, by tb_start, ?_, by tb_start, Sub.put e7 fw⟩)
        rw [omap_snoc]; exact Own.put_self _ _ _
noncomputable def insI (cc : Int → Int) (x : Int) : List Int → List Int
  | [] => [x]
  | y :: t => if cc x ≤ cc y then x :: y :: t else y :: insI cc x t
noncomputable def isort (cc : Int → Int) : List Int → List Int
  | [] => []
  | x :: t => insI cc x (isort cc t)
theorem insI_len (cc : Int → Int) (x : Int) : ∀ l, (insI cc x l).length = l.length + 1
  | [] => rfl
  | y :: t => by
    unfold insI
    split
    · rfl
    · rw [List.length_cons, insI_len cc x t]; rfl
theorem isort_len (cc : Int → Int) : ∀ l, (isort cc l).length = l.length
  | [] => rfl
  | x :: t => by rw [isort, insI_len, isort_len cc t]; rfl
noncomputable def runV (cc : Int → Int) (r : List Int) : List V := r.map fun c => V.tup [.int (cc c), .int c]
noncomputable def A2 (R : Int → Int × Value → Prop) : List Int → List (Int × Value) → Prop
  | [], [] => True
  | c :: r, p :: t => R c p ∧ A2 R r t
  | _, _ => False
theorem A2.perm {R : Int → Int × Value → Prop} {ls ps : List (Int × Value)} (h : ls.Perm ps) : ∀ {r : List Int}, A2 R r ls → ∃ r', r'.Perm r ∧ A2 R r' ps := by
  induction h with
  | nil => intro r x; exact ⟨r, .refl _, x⟩
  | cons q _ ih =>
    intro r x
    cases r with
    | nil => exact x.elim
    | cons c r =>
      obtain ⟨r', h1, h2⟩ := ih x.2
      exact ⟨c :: r', h1.cons c, x.1, h2⟩
  | swap q q' l =>
    intro r x
    match r, x with
    | c :: d :: r, x => exact ⟨d :: c :: r, .swap c d r, x.2.1, x.1, x.2.2⟩
  | trans _ _ ih1 ih2 =>
    intro r x
    obtain ⟨r1, h1, h2⟩ := ih1 x
    obtain ⟨r2, h3, h4⟩ := ih2 h2
    exact ⟨r2, h3.trans h1, h4⟩
theorem insI_perm (cc : Int → Int) (x : Int) : ∀ l, (insI cc x l).Perm (x :: l)
  | [] => .refl _
  | y :: t => by
    rw [insI]
    split
    · exact .refl _
    · exact ((insI_perm cc x t).cons y).trans (.swap x y t)
theorem isort_perm (cc : Int → Int) : ∀ l, (isort cc l).Perm l
  | [] => .refl _
  | x :: t => (insI_perm cc x _).trans ((isort_perm cc t).cons x)
theorem insI_sorted (cc : Int → Int) (x : Int) : ∀ {l : List Int}, l.Pairwise (fun a b => cc a ≤ cc b) → (insI cc x l).Pairwise (fun a b => cc a ≤ cc b)
  | [], _ => List.pairwise_singleton _ _
  | y :: t, h => by
    rw [insI]
    obtain ⟨h1, h2⟩ := List.pairwise_cons.mp h
    split
    · rename_i q
      refine List.pairwise_cons.mpr ⟨fun z hz => ?_, h⟩
      rcases List.mem_cons.mp hz with e | e
      · rw [e]; exact q
      · exact Int.le_trans q (h1 z e)
    · rename_i q
      refine List.pairwise_cons.mpr ⟨fun z hz => ?_, insI_sorted cc x h2⟩
      rcases List.mem_cons.mp ((insI_perm cc x t).mem_iff.mp hz) with e | e
      · rw [e]; exact Int.le_of_lt (Int.not_le.mp q)
      · exact h1 z e
theorem isort_sorted (cc : Int → Int) : ∀ l, (isort cc l).Pairwise (fun a b => cc a ≤ cc b)
  | [] => .nil
  | x :: t => insI_sorted cc x (isort_sorted cc t)
theorem sorted_one {cc : Int → Int} : ∀ {l m : List Int}, l.Perm m → (∀ x ∈ l, ∀ y ∈ l, cc x = cc y → x = y) → l.Pairwise (fun a b => cc a ≤ cc b) → m.Pairwise (fun a b => cc a ≤ cc b) → l = m
  | [], m, p, _, _, _ => (List.Perm.nil_eq p)
  | x :: l, [], p, _, _, _ => absurd p.length_eq (by simp)
  | x :: l, y :: m, p, inj, hl, hm => by
    have e : x = y := by
      have h1 : x ∈ y :: m := p.mem_iff.mp (.head _)
      have h2 : y ∈ x :: l := p.mem_iff.mpr (.head _)
      have a : cc y ≤ cc x := by
        rcases List.mem_cons.mp h1 with q | q
        · rw [q]; exact Int.le_refl _
        · exact (List.pairwise_cons.mp hm).1 x q
      have b : cc x ≤ cc y := by
        rcases List.mem_cons.mp h2 with q | q
        · rw [q]; exact Int.le_refl _
        · exact (List.pairwise_cons.mp hl).1 y q
      exact inj x (.head _) y h2 (Int.le_antisymm b a)
    subst e
    rw [sorted_one (List.Perm.cons_inv p) (fun a ha b hb => inj a (.tail _ ha) b (.tail _ hb)) (List.pairwise_cons.mp hl).2 (List.pairwise_cons.mp hm).2]
noncomputable def trunc (h : Heap) (L : Nat) : Heap := { h with objs := h.objs.extract 0 L }
theorem trunc_get (h : Heap) (L b : Nat) : (trunc h L).get? b = if b < L then h.get? b else none := by
  unfold trunc Heap.get?
  simp only [Array.getElem?_extract, Nat.zero_add, Nat.sub_zero]
  by_cases q : b < L
  · rw [if_pos q]
    by_cases q2 : b < h.objs.size
    · rw [if_pos (by omega)]
    · rw [if_neg (by omega), Array.getElem?_eq_none (Nat.le_of_not_lt q2)]
  · rw [if_neg q, if_neg (by omega)]
noncomputable def above (h : Heap) (L : Nat) : List (Addr × Obj) := (List.range h.objs.size).filterMap fun b => if L < b then (h.get? b).map (b, ·) else none
theorem above_mem {h : Heap} {L b : Nat} {o : Obj} : (b, o) ∈ above h L ↔ L < b ∧ h.get? b = some o := by
  unfold above
  rw [List.mem_filterMap]
  constructor
  · rintro ⟨a, _, e⟩
    split at e
    · rename_i q
      obtain ⟨x, h1, h2⟩ := Option.map_eq_some_iff.mp e
      cases h2
      exact ⟨q, h1⟩
    · cases e
  · rintro ⟨h1, h2⟩
    exact ⟨b, List.mem_range.mpr (Heap.lt_size h2), by rw [if_pos h1, h2]; rfl⟩
theorem trunc_fr {h : Heap} {L : Nat} {m : Str → Option Value} (hm : h.Ns L m) : Fr (trunc h L) L h m :=
  ⟨hm, (fun b o e => by
    rw [trunc_get] at e
    split at e
    · exact e
    · cases e), (by
    show (h.objs.extract 0 L).size ≤ L
    rw [Array.size_extract]; omega)⟩
theorem above_news (h : Heap) (L : Nat) : News (trunc h L) L h (above h L) := fun p hp => by
  obtain ⟨h1, h2⟩ := above_mem.mp hp
  exact ⟨h2, Nat.ne_of_gt h1, by rw [trunc_get, if_neg (by omega)]⟩
theorem kept_of {h h' : Heap} {L : Nat} {m : Str → Option Value} {news : List (Addr × Obj)} (F : Fr (trunc h L) L h' m) (N : News (trunc h L) L h' (above h L ++ news)) : ∀ b o, b ≠ L → h.get? b = some o → h'.get? b = some o := fun b o hb e => by
  by_cases q : b < L
  · exact F.keep b o (by rw [trunc_get, if_pos q]; exact e)
  · exact (N (b, o) (List.mem_append_left _ (above_mem.mpr ⟨by omega, e⟩))).1
theorem seq0 {n : Nat} (h : n ≠ 0) : seqIndex? 0 n = some 0 := by
  have : (decide ((0 : Int) ≤ 0) && decide ((0 : Int) < n)) = true := by
    rw [Bool.and_eq_true]; exact ⟨by decide, decide_eq_true (by omega)⟩
  show (if (decide ((0 : Int) ≤ 0) && decide ((0 : Int) < n)) = true then some (0 : Int).toNat else none) = some 0
  rw [if_pos this]; rfl
theorem lam_call {A : Around} {s : Shared} {E : Value → Shared → Prop} {f t : Addr} {q x : Str} {params : Arguments} {sc : Scope} {p1 p2 p3 : Pos} {k : Nat} {v : Value} {its : Array Value}
    (hroom : A.depth < recursionLimit) (hf : LamAt prog s.heap f params (.Subscript (.Name x p1) (.Constant (.int 0) k p2) p3) sc q) (nl : s.heap.NoLimit)
    (hbind : ∀ (fd : FuncData) y, fd.params = params → fd.defaults = .none → fd.kwdefaults = .none → bindArgs fd ⟨[y], []⟩ = pure [(x, y)]) (hloc : sc.names.lookup x = some .local) (hco : sc.isCoroutine = false) (hgen : sc.isGenerator = false) (hk : sc.kind = .function) (hcell : ∀ y ∈ sc.names, y.2 ≠ .cell) (hd : (x == ("__debug__" : Str)) = false)
    (it : IsTup s.heap t its) (hv : its[0]? = some v) : wpAny (model prog w) A (PySem.call (.ref f) [.ref t]) (fun r s' => ∃ h' tk, s' = { s with heap := h', toks := tk } ∧ r = v ∧ ∀ b o, s.heap.get? b = some o → h'.get? b = some o) E s := by
  obtain ⟨pm, c', ct, hf, hcd⟩ := hf
  refine wpAny_call (kla_callFunE (body := .Subscript (.Name x p1) (.Constant (.int 0) k p2) p3) hroom hf rfl hco hgen rfl hcd ?_)
  rw [hbind _ _ rfl rfl rfl]
  refine wpAny_pure (wpAny_newFunctionEnv hcell (fun y hy => by rw [List.mem_singleton.mp hy]; exact hloc) (fun h₁ hns hsb => ⟨nl.fresh _ hsb, ?_⟩) hk)
  have keep : ∀ b o, s.heap.get? b = some o → h₁.get? b = some o := fun b o e => hsb.extBut b o (Nat.ne_of_lt (Heap.lt_size e)) (Heap.get?_push_of_some _ e)
  have it' : IsTup h₁ t its := it.keeps keep
  refine kla_codeExpr (Subscript_ (wpAny_Name (wpAny_loadName_local hk hloc hns (show [(x, Value.ref t)].reverse.lookup x = some (.ref t) by simp) (wpAny_Constant_int ?_)) hd))
  have sz : its.size ≠ 0 := fun e => by rw [Array.getElem?_eq_none (by omega)] at hv; cases hv
  exact tail_any it'.typeIs slot_tuple_getitem.lookup (getItem_tuple it' (by decide) (by decide) (j := 0) (seq0 sz) hv (exI2 _ _ ⟨rfl, rfl, keep⟩)) rfl
theorem Now.sorted (N : Now prog w B d Γ A env FA l own s) {h' : Heap} {tk D : Nat} {o : O} {m : Str → Option Value} (hl : ∀ (i : Nat) x b, Γ.loc[i]? = some (x, b) → LocAt s.heap env m x b ((l[i]?).getD none)) (hk : ∀ b o, b ≠ env.locals → s.heap.get? b = some o → h'.get? b = some o) (hn : h'.Ns env.locals m) (hD : s.heap.get? D = none) (ho : ObjAt prog w h' D o) :
    Now prog w B d Γ A env FA l (own.put D o) { s with heap := h', toks := tk } ∧ Stp B FA own (own.put D o) s { s with heap := h', toks := tk } := by
  obtain ⟨oL, eL, fL⟩ := N.loc.fa.obj _ N.cx.L
  have dL : ∃ o, h'.get? env.locals = some o ∧ FrD o := by
    obtain ⟨o, es, ep, e, hd, _⟩ := hn
    exact ⟨o, e, .inl ⟨es, ep, hd⟩⟩
  have tu : Tups s.heap h' := fun a o e hc => hk a o (fun q => by rw [q, eL] at e; cases e; exact fL.not hc) e
  have nO : ∀ a o, own a = some o → a ≠ env.locals := fun a o e q => by rw [q, N.loc.fa.own _ N.cx.L] at e; cases e
  have nP : B.P ≠ env.locals := fun q => by
    rcases N.st.tab with z | ⟨_, _, _, _, z, _⟩
    · rw [q, eL] at z; cases z; rcases fL with ⟨_, _, n⟩ | ⟨_, n⟩ <;> cases n
    · rw [q, eL] at z; cases z; rcases fL with ⟨_, _, n⟩ | ⟨_, n⟩ <;> cases n
  have hDP : D ≠ B.P := fun q => by
    obtain ⟨o, e, _⟩ := N.st.tab.get
    rw [← q, hD] at e; cases e
  have hD0 : B.h₀.get? D = none := by
    cases q : B.h₀.get? D with
    | none => rfl
    | some o => have := N.st.keep D o q; rw [hD] at this; cases this
  have nF : ∀ b ∈ FA, b ≠ D := fun b hb q => by
    obtain ⟨o2, q1, q2⟩ := N.loc.fa.obj b hb
    rw [q, hD] at q1; cases q1
  have new : ∀ a, ((own.put D o) a).isSome → (own a).isSome ∨ s.heap.get? a = none := fun b hb => by
    by_cases q : b = D
    · subst q; exact .inr hD
    · rw [Own.put_ne _ _ q] at hb; exact .inl hb
  refine ⟨⟨N.ok, N.bud, N.cx, ⟨fun b o2 e => hk b o2 (fun q => by rw [q, N.loc.fa.hi _ N.cx.L] at e; cases e) (N.st.keep b o2 e), N.st.gens, N.st.os, fun b o2 e => ?_, ?_⟩, ⟨⟨fun b hb => ?_, N.loc.fa.hi, fun b hb => ?_⟩, ⟨m, hn, fun i x b e => (hl i x b e).mono tu fun hb c hc => ?_⟩, N.loc.cells_keep new fun c o2 _ h2 h3 => ?_⟩⟩, ⟨fun b o2 e hf _ _ => hk b o2 (fun q => hf (q ▸ N.cx.L)) e, new, fun b o2 e => ?_⟩⟩
  · by_cases q : b = D
    · subst q; rw [Own.put_self] at e; cases e; exact ⟨ho, hD0, hDP⟩
    · rw [Own.put_ne _ _ q] at e
      obtain ⟨y1, y2, y3⟩ := N.st.obj b o2 e
      obtain ⟨ob, e1, _⟩ := y1.get
      exact ⟨y1.mono tu ((hk b ob (nO b o2 e) e1).trans e1.symm), y2, y3⟩
  · obtain ⟨o2, e, _⟩ := N.st.tab.get
    exact N.st.tab.mono tu ((hk _ o2 nP e).trans e.symm)
  · show own.put D o b = none
    rw [Own.put_ne _ _ (nF b hb)]; exact N.loc.fa.own b hb
  · by_cases q : b = env.locals
    · rw [q]; exact dL
    · obtain ⟨o2, q1, q2⟩ := N.loc.fa.obj b hb
      exact ⟨o2, hk b o2 q q1, q2⟩
  · subst hb
    obtain ⟨_, o2, e2, _⟩ := N.loc.cells x c (List.mem_of_getElem? e) hc
    obtain ⟨c', h1, _, h3⟩ := N.cx.cell x (List.mem_of_getElem? e)
    rw [hc] at h1; cases h1
    exact (hk c o2 h3 e2).trans e2.symm
  · by_cases q : c = env.locals
    · rw [q]; exact dL
    · exact ⟨o2, hk c o2 q h3, h2⟩
  · by_cases q : b = env.locals
    · rw [q]; obtain ⟨o3, e3, _⟩ := dL; exact ⟨o3, e3⟩
    · exact ⟨o2, hk b o2 q e⟩
noncomputable def RowAt (h : Heap) (cc : Int → Int) (c : Int) (p : Int × Value) : Prop := p.1 = cc c ∧ VR h (.tup [.int (cc c), .int c]) p.2
theorem a2_zip {h : Heap} {cc : Int → Int} : ∀ {r : List Int} {xs : List Value}, VRs h (runV cc r) xs → A2 (RowAt h cc) r ((r.map cc).zip xs)
  | [], xs, _ => trivial
  | c :: r, xs, e => by
    obtain ⟨x, t, rfl, h1, h2⟩ := e
    exact ⟨⟨rfl, h1⟩, a2_zip h2⟩
theorem a2_vrs {h : Heap} {cc : Int → Int} : ∀ {r : List Int} {ps : List (Int × Value)}, A2 (RowAt h cc) r ps → VRs h (runV cc r) (ps.map Prod.snd) ∧ ps.map Prod.fst = r.map cc
  | [], [], _ => ⟨rfl, rfl⟩
  | c :: r, p :: ps, x => by
    obtain ⟨h1, h2⟩ := a2_vrs x.2
    exact ⟨⟨_, _, rfl, x.1.2, h1⟩, by rw [List.map_cons, List.map_cons, h2, x.1.1]⟩
  | [], _ :: _, x => x.elim
  | _ :: _, [], x => x.elim
theorem sort_out {h : Heap} {cc : Int → Int} {r : List Int} {xs out : List Value} (hv : VRs h (runV cc r) xs) (inj : ∀ x ∈ r, ∀ y ∈ r, cc x = cc y → x = y) (k : KskOut false (r.map cc) xs out) : VRs h (runV cc (isort cc r)) out := by
  obtain ⟨ps, hp, rfl, hs⟩ := k
  obtain ⟨r', h1, h2⟩ := A2.perm hp.symm (a2_zip hv)
  obtain ⟨h3, h4⟩ := a2_vrs h2
  have hs : ps.Pairwise (fun p q => p.1 ≤ q.1) := hs
  have hs' : r'.Pairwise (fun a b => cc a ≤ cc b) := by
    have : (ps.map Prod.fst).Pairwise (· ≤ ·) := List.pairwise_map.mpr hs
    rw [h4] at this
    exact List.pairwise_map.mp this
  have : r' = isort cc r := sorted_one (h1.trans (isort_perm cc r).symm) (fun x hx y hy => inj x (h1.mem_iff.mp hx) y (h1.mem_iff.mp hy)) hs' (isort_sorted cc r)
  rw [← this]; exact h3
noncomputable def keyS : Str := Str.ofString "key"
theorem sortkey_te (hB : B.K = KK P) {e : Expr} {x : Str} {params : Arguments} {sc : Scope} {np lp kp pos p1 p2 p3 : Pos} {k : Nat} {kn q : Str} {Q : V → Own → Prop} (hg : memS y1 Γ.glb = true) (hG : Γ.code = some (.ref 114, q)) (hkn : kn = keyS)
    (hq : q ++ ("<lambda>" : Str) = ⟨#[102, 111, 114, 109, 95, 115, 111, 114, 116, 101, 100, 46, 60, 108, 111, 99, 97, 108, 115, 62, 46, 60, 108, 97, 109, 98, 100, 97, 62]⟩) (hl1 : (lp.line : Int) = 92) (hc1 : (lp.col : Int) = 53)
    (hdef : ∀ env : Env, defaultsOf params env = ([], [])) (hfree : ∀ x ∈ sc.names, x.2 ≠ .free) (hes : starEach [e] = fun env => [(false, eval e env)])
    (hbind : ∀ (fd : FuncData) y, fd.params = params → fd.defaults = .none → fd.kwdefaults = .none → bindArgs fd ⟨[y], []⟩ = pure [(x, y)]) (hloc : sc.names.lookup x = some .local) (hco : sc.isCoroutine = false) (hgen : sc.isGenerator = false) (hk : sc.kind = .function) (hcell : ∀ y ∈ sc.names, y.2 ≠ .cell) (hd : (x == ("__debug__" : Str)) = false)
    (h : TA prog w B d Γ [e] l own (fun vs own₁ => ∃ a cc r, vs = [.obj a] ∧ own₁ a = some (.list (runV cc r)) ∧ r.length ≤ 60 ∧ (∀ x ∈ r, ∀ y ∈ r, cc x = cc y → x = y) ∧ ∀ D, Fresh own₁ D → Q (.obj D) (own₁.put D (.list (runV cc (isort cc r)))))) :
    TE prog w B d Γ (.Call (.Name y1 np) [e] [⟨some kn, .Lambda params (.Subscript (.Name x p1) (.Constant (.int 0) k p2) p3) sc lp, kp⟩] pos) l own Q := by
  intro A env FA s N Q' E p
  subst hkn
  refine wpAny_Call_Name_kw (bname N (memS_iff hg) (notDbg (bn_sorted (P := P)).hd) (by rw [hB]; exact bn_sorted.en) (bn_sorted (P := P)).hv (bn_sorted (P := P)).ne (callWith_kw (h pos A env FA s N _ E fun vs xs o1 s1 q1 r1 N1 S1 => ?_) (by rw [hes]; rfl) (by rw [hes]; rfl) rfl rfl))
  obtain ⟨a, cc, r, rfl, ha, hz, inj, fin⟩ := q1
  obtain ⟨xv, rfl, rx⟩ := r1.one
  simp only [VR] at rx; subst rx
  refine kws_cons (lam_make N1 ⟨N.ok.lam.1, N.ok.lam.2⟩ hG (hq.trans N.ok.pin.2.2.symm) (hl1.trans N.ok.pin.1.symm) (hc1.trans N.ok.pin.2.1.symm) hdef hfree fun f s2 lam fo N2 S2 => kws_nil ?_)
  show wpAny _ _ (PySem.call (.builtin "sorted") [.ref a] [(Str.ofString "key", .ref f)]) Q' E s2
  obtain ⟨its, n, e1, il, rv⟩ := (N2.st.obj a _ ha).1.isList
  obtain ⟨m, hm, hl⟩ := N2.loc.ns
  obtain ⟨oL, eL, fL⟩ := N2.loc.fa.obj _ N2.cx.L
  have rl : its.toList.length = r.length := by rw [rv.length]; unfold runV; rw [List.length_map]
  refine ksk_sorted (kz := r.map cc) (vs := its.toList) (b := false) (m := m) (L := env.locals) (h₀ := trunc s2.heap env.locals) (news := above s2.heap env.locals) (f := .ref f) (trunc_fr hm) (above_news _ _) (by rw [Array.toArray_toList]; exact il) (by rw [List.length_map, rl]) (by omega)
    (ksk_s1 _ _) (fun x => ksk_l1 (.ref x) _) (fun x => ksk_t1 f x) (fun i v kk hv hkk hh tk ownn F' N' => ?_) (fun D h' tk out c F' N' l1 ko => ?_)
  · have kept := kept_of F' N'
    have tu : Tups s2.heap hh := fun b o e hc => kept b o (fun q => by rw [q, eL] at e; cases e; exact fL.not hc) e
    obtain ⟨c, hc, hcc⟩ : ∃ c, r[i]? = some c ∧ cc c = kk := by
      rw [List.getElem?_map] at hkk
      exact Option.map_eq_some_iff.mp hkk
    obtain ⟨v', hv', rv'⟩ := rv.at i (.tup [.int (cc c), .int c]) (by unfold runV; rw [List.getElem?_map, hc]; rfl)
    rw [hv] at hv'; cases hv'
    obtain ⟨t, its', rfl, it', rt, _⟩ := (rv'.mono tu).tupIs
    obtain ⟨z, hz0, ⟨tz, rfl⟩⟩ := rt.atA (i := 0) (v := .int (cc c)) rfl
    obtain ⟨pm, c', ct, hf, c2, oc, vs, tq, g0, g1, g2, g3⟩ := lam
    have nf : f ≠ env.locals := fun q => by
      rw [q, eL] at hf; cases hf
      rcases fL with ⟨_, _, n⟩ | ⟨_, n⟩ <;> cases n
    have nc : c2 ≠ env.locals := fun q => by
      rw [q, eL] at g1; cases g1
      rcases fL with ⟨_, _, n⟩ | ⟨_, n⟩ <;> rw [g2] at n <;> cases n
    have hL0 := N2.loc.fa.hi _ N2.cx.L
    have room : A.in1.in1.depth < recursionLimit := by
      have z : A.depth + 3 * d + 3 ≤ recursionLimit := N2.bud.depth
      show A.depth < recursionLimit
      omega
    refine wpAny_mono (lam_call (s := { s2 with heap := hh, toks := tk }) room ⟨pm, c', ct, kept _ _ nf hf, c2, oc, vs, tq, g0, kept _ _ nc g1, g2, g3⟩ (N2.ok.T.nolimit.keeps fun b o e => kept b o (fun q => by rw [q, hL0] at e; cases e) (N2.st.keep b o e)) hbind hloc hco hgen hk hcell hd it' hz0) (fun rr s' hr => ?_) fun _ _ e => e
    obtain ⟨h3, tk3, rfl, rfl, k3⟩ := hr
    subst hcc
    exact ⟨h3, tk3, tz, rfl, rfl, ⟨F'.ns.keeps k3, fun b o e => k3 _ _ (F'.keep b o e), F'.above⟩, fun p hp => ⟨k3 _ _ (N' p hp).1, (N' p hp).2⟩⟩
  · have kept := kept_of (news := []) F' (fun p hp => N' p (.tail _ (by rw [List.append_nil] at hp; exact hp)))
    have tu : Tups s2.heap h' := fun b o e hc => kept b o (fun q => by rw [q, eL] at e; cases e; exact fL.not hc) e
    obtain ⟨d1, d2, d3⟩ := N' _ (.head _)
    have hD : s2.heap.get? D = none := by
      cases q : s2.heap.get? D with
      | none => rfl
      | some o =>
        have d2 : D ≠ env.locals := d2
        by_cases q2 : D < env.locals
        · have : (trunc s2.heap env.locals).get? D = none := d3
          rw [trunc_get, if_pos q2, q] at this; cases this
        · exact absurd (l1 (D, o) (above_mem.mpr ⟨Nat.lt_of_le_of_ne (Nat.le_of_not_lt q2) (Ne.symm d2), q⟩)) (Nat.lt_irrefl _)
    obtain ⟨N3, S3⟩ := N2.sorted (tk := tk) (o := .list (runV cc (isort cc r))) hl kept F'.ns hD ⟨out, c, d1, (sort_out rv inj ko).mono tu⟩
    exact p (.obj D) _ _ _ (fin D (N2.fresh hD)) rfl N3 ((S1.trans S2).trans S3)
noncomputable def yWeight : PySem.Str := ⟨#[119, 101, 105, 103, 104, 116]⟩
noncomputable def yCode : PySem.Str := ⟨#[99, 111, 100, 101]⟩
noncomputable def G_fs_c : Fn := ⟨[(yWeight, false), (yCode, false)], [], true, none⟩
theorem tc_fsorted (hB : B.K = KK P) {a : Nat} {cc : Int → Int} {r : List Int} {Q : V → Own → Prop} (ha : own a = some (.list (runV cc r))) (hz : r.length ≤ 60) (hinj : ∀ x ∈ r, ∀ y ∈ r, cc x = cc y → x = y)
    (h : ∀ own' f, Sub own own' → Fresh own f → own' f = some (.list ((isort cc r).map V.int)) → Q (.obj f) own') : TC prog w B (d + 3) (.ref 115) [.obj a] own Q := by
  refine TC.deff (dv := []) (D_form_sorted hB) F_form_sorted rfl rfl (fun _ => rfl) (by rintro q h; cases h; exact ⟨by kernel_rfl, by kernel_rfl⟩) ?_
  intro Kr hK
  refine TS.exp (ss := _ :: _) (l := [some (.obj a)]) ?_
  repeat tb_rel
  with_reducible refine TE.compI G_fs_c [none, none] ?hs ?hk (TI.list ?_)
  case hs => (intro _ _; kernel_rfl)
  case hk => kernel_rfl
  refine sortkey_te hB (q := ⟨#[102, 111, 114, 109, 95, 115, 111, 114, 116, 101, 100, 46, 60, 108, 111, 99, 97, 108, 115, 62, 46]⟩) ?g1 ?g2 ?g3 ?g4 ?g5 ?g6 ?g7 ?g8 ?g9 ?g10 ?g11 ?g12 ?g13 ?g14 ?g15 ?g16 ?_
  case g1 => kernel_rfl
  case g2 => exact rfl
  case g3 => decide +kernel
  case g4 => decide +kernel
  case g5 => exact rfl
  case g6 => exact rfl
  case g7 => exact fun _ => rfl
  case g8 => decide +kernel
  case g9 => exact rfl
  case g10 =>
    intro fd y h1 h2 h3
    cases fd
    cases h1; cases h2; cases h3
    kernel_rfl
  case g11 => decide +kernel
  case g12 => exact rfl
  case g13 => exact rfl
  case g14 => exact rfl
  case g15 => decide +kernel
  case g16 => decide +kernel
  repeat tb_rel
  have il := isort_len cc r
  refine ⟨a, cc, r, rfl, ha, hz, hinj, fun D (hD : Fresh _ D) => ⟨D, _, rfl, Own.put_self _ _ _, fun b (hb : Fresh _ b) => ⟨fun vs l o => ∃ (t acc : List Int) (x y : Option V), vs = runV cc t ∧ acc.length + t.length ≤ 60 ∧ acc ++ t = isort cc r ∧ l = [x, y] ∧ o b = some (.list (acc.map V.int)) ∧ Sub (own.put D (.list (runV cc (isort cc r)))) o,
    (exI4 (isort cc r) [] none none ⟨rfl, by rw [List.length_nil]; omega, rfl, rfl, Own.put_self _ _ _, Sub.alloc hb .refl⟩), ?_, ?_, ?_⟩⟩⟩
  · intro vs l o ha_; (with_reducible refine exE4 ha_ fun t acc x y hb_ => aE6 hb_ fun _ _ _ _ _ s => ?_); clear ha_ hb_; exact s _ _ (Own.put_self _ _ _)
  · intro l o ha_; (with_reducible refine exE4 ha_ fun t acc x y hb_ => aE6 hb_ fun z1 z2 z3 q3_ z5 z6 => ?_); clear ha_ hb_; subst q3_
    obtain rfl : t = [] := List.map_eq_nil_iff.mp z1.symm
    rw [List.append_nil] at z3
    subst z3
    exact hK.ret (h o b ((Sub.alloc hD .refl).trans z6) (Gr.none hb (Gr.put .refl)) z5)
  · intro v vs l o ha_; (with_reducible refine exE4 ha_ fun t acc x y hb_ => aE6 hb_ fun z1 z2 z3 q3_ z5 z6 => ?_); clear ha_ hb_; subst q3_
    cases t with
    | nil => cases z1
    | cons c t =>
      cases z1
      rw [List.length_cons] at z2
      repeat tb_rel
      refine TIfs.none ⟨(by first | exact tf | exact ft), fun _ => ?_⟩
      repeat tb_rel
      refine ⟨_, z5, mlen (acc_le (by assumption) rfl), t, acc ++ [c], _, _, rfl, acc_succ (by assumption), by rw [← z3]; simp, rfl, ?_, Sub.put z6 hb⟩
      rw [List.map_append]; exact Own.put_self _ _ _
noncomputable def ordGo (cc : Int → Int) : List Int → List Int → List Int → List Int
  | f, r, [] => f ++ isort cc r
  | f, r, c :: t => if 0 < cc c then ordGo cc f (r ++ [c]) t else ordGo cc (f ++ isort cc r ++ [c]) [] t
theorem ordGo_len (cc : Int → Int) : ∀ t f r, (ordGo cc f r t).length = f.length + r.length + t.length
  | [], f, r => by rw [ordGo, List.length_append, isort_len]; rfl
  | c :: t, f, r => by
    rw [ordGo]
    split
    · rw [ordGo_len cc t]; simp only [List.length_append, List.length_cons, List.length_nil]; omega
    · rw [ordGo_len cc t]; simp only [List.length_append, List.length_cons, List.length_nil, isort_len]; omega
theorem tc_ordered (hB : B.K = KK P) {m a : Nat} {F : List Nat} {D : DT} {T : Int → Str × List Int} {cc : Int → Int} {dq : Int → Option (Int × Int)} {cs text : List Int} {Q : V → Own → Prop} (I : IsData own m F D) (K : DOk D T cc dq cs) (ha : own a = some (.list (text.map V.int))) (ht : ∀ c ∈ text, c ∈ cs) (hz : text.length ≤ 60)
    (h : ∀ own' f, Sub own own' → Fresh own f → own' f = some (.list ((ordGo cc [] [] text).map V.int)) → Q (.obj f) own') : TC prog w B (d + 4) (.ref 110) [.obj a, .obj m] own Q := by
  obtain ⟨rm, k1, k2⟩ := K.fcc
  refine TC.deff (dv := []) (D_ordered hB) F_ordered rfl rfl (fun _ => rfl) (by intro q h; cases h) ?_
  intro Kr hK
  refine TS.exp (ss := _ :: _) (l := [some (.obj a), some (.obj m), none, none, none, none]) ?_
  repeat tb_rel
  intro f (hf : Fresh _ f)
  repeat tb_rel
  intro rn (hr : Fresh _ rn)
  repeat tb_rel
  have nfr : f ≠ rn := ne_base (o := .list []) hr (by tb_start)
  have fr : Fresh own rn := by top_name
  have g1 : ((own.put f (.list [])).put rn (.list [])) f = some (.list []) := by tb_start
  have g2 : ((own.put f (.list [])).put rn (.list [])) rn = some (.list []) := by tb_start
  have s0 : Sub own ((own.put f (.list [])).put rn (.list [])) := by top_raise0
  generalize (own.put f (.list [])).put rn (.list []) = o0 at g1 g2 s0 ⊢
  clear hr
  with_reducible refine TS.forI ?hs (TI.list ?_)
  case hs => (intro _ _; kernel_rfl)
  repeat tb_rel
  refine ⟨a, _, rfl, s0 _ _ ha, fun vs l o => ∃ (t fd r : List Int) (rn : Nat) (x y : Option V), vs = t.map V.int ∧ (∀ c ∈ t, c ∈ cs) ∧ (∀ c ∈ r, c ∈ cs ∧ 0 < cc c) ∧ fd.length + r.length + t.length ≤ 60 ∧ ordGo cc fd r t = ordGo cc [] [] text ∧
    l = [some (.obj a), some (.obj m), some (.obj f), some (.obj rn), x, y] ∧ o f = some (.list (fd.map V.int)) ∧ o rn = some (.list (runV cc r)) ∧ f ≠ rn ∧ Fresh own rn ∧ Sub own o,
    (exI6 text [] [] rn none none ⟨rfl, ht, by simp, by simpa using hz, rfl, rfl, g1, g2, nfr, fr, s0⟩), ?_, ?_, ?_⟩
  · intro vs l o ha_; (with_reducible refine exE6 ha_ fun t fd r rn x y hb_ => aE11 hb_ fun _ _ _ _ _ _ _ _ _ _ s => ?_); clear ha_ hb_; exact s _ _ ha
  · intro l o ha_; (with_reducible refine exE6 ha_ fun t fd r rn x y hb_ => aE11 hb_ fun e1 e2 e3 e4 e5 q5_ e7 e8 e9 e10 e11 => ?_); clear ha_ hb_; subst q5_
    obtain rfl : t = [] := List.map_eq_nil_iff.mp e1.symm
    rw [ordGo] at e5
    repeat tb_rel
    refine ⟨.list e7, ?_⟩
    repeat tb_rel
    refine tc_fsorted hB (r := r) e8 (by omega) (fun x hx y hy e => K.finj x (e3 x hx).1 y (e3 y hy).1 (e3 x hx).2 (e3 y hy).2 e) fun o2 u s2 (hu : Fresh _ u) g => ?_
    repeat tb_rel
    have il := isort_len cc r
    refine TN.extend (s2 _ _ e7) g (fits (by simp only [List.length_map]; omega)) ?_
    repeat tb_rel
    rw [← List.map_append, e5]
    exact h _ f (Sub.put (e11.trans s2) hf) hf (Own.put_self _ _ _)
  · intro v vs l o ha_; (with_reducible refine exE6 ha_ fun t fd r rn x y hb_ => aE11 hb_ fun e1 e2 e3 e4 e5 q5_ e7 e8 e9 e10 e11 => ?_); clear ha_ hb_; subst q5_
    cases t with
    | nil => cases e1
    | cons c t =>
      cases e1
      have hc := e2 c (.head _)
      obtain ⟨⟨dm', D0, MM, p, w, maps, ds, i1, i2, i3, i4, i5, i6, i7, i8⟩, _⟩ := id (I.sub e11)
      rw [List.length_cons] at e4
      repeat tb_rel
      kts_caught
      repeat tb_rel
      refine tc_dataget hB (I.sub e11) k1 (k2 c hc) ?_
      rw [show vOf (.int (cc c)) = V.int (cc c) from rfl]
      repeat tb_rel
      refine TS.iff ?_
      repeat tb_rel
      refine ⟨fun q => ?_, fun q => ?_⟩
      · have q := of_decide_eq_true q
        rw [ordGo, if_pos q] at e5
        repeat tb_rel
        refine ⟨.list e8, ?_⟩
        repeat tb_rel
        refine TN.append e8 (fits (by unfold runV; rw [List.length_map]; omega)) ?_
        repeat tb_rel
        refine (exI6 t fd (r ++ [c]) rn _ _ ⟨rfl, fun z hz => e2 z (.tail _ hz), fun z hz => ?_, by rw [List.length_append, List.length_singleton]; omega, e5, rfl, by tb_start, ?_, e9, e10, Sub.put e11 e10⟩)
        · rcases List.mem_append.mp hz with hz | hz
          · exact e3 z hz
          · rw [List.mem_singleton.mp hz]; exact ⟨hc, q⟩
        · unfold runV
          rw [List.map_append]; exact Own.put_self _ _ _
      · have q := of_decide_eq_false q
        rw [ordGo, if_neg q] at e5
        repeat tb_rel
        refine ⟨.list e7, ?_⟩
        repeat tb_rel
        refine tc_fsorted hB (r := r) e8 (by omega) (fun x hx y hy e => K.finj x (e3 x hx).1 y (e3 y hy).1 (e3 x hx).2 (e3 y hy).2 e) fun o2 u s2 (hu : Fresh _ u) g => ?_
        repeat tb_rel
        have il := isort_len cc r
        refine TN.extend (s2 _ _ e7) g (fits (by simp only [List.length_map]; omega)) ?_
        repeat tb_rel
        refine ⟨.list (vs := fd.map V.int ++ (isort cc r).map V.int) (by tb_start), ?_⟩
        repeat tb_rel
        refine TN.append (vs := fd.map V.int ++ (isort cc r).map V.int) (by tb_start) (fits (by simp only [List.length_append, List.length_map]; omega)) ?_
        repeat tb_rel
        have s3 : Sub own ((o2.put f (.list (fd.map V.int ++ (isort cc r).map V.int))).put f (.list (fd.map V.int ++ (isort cc r).map V.int ++ [.int c]))) := Sub.put (Sub.put (e11.trans s2) hf) hf
        have g3 : ((o2.put f (.list (fd.map V.int ++ (isort cc r).map V.int))).put f (.list (fd.map V.int ++ (isort cc r).map V.int ++ [.int c]))) f = some (.list ((fd ++ isort cc r ++ [c]).map V.int)) := by rw [List.map_append, List.map_append]; exact Own.put_self _ _ _
        generalize (o2.put f (.list (fd.map V.int ++ (isort cc r).map V.int))).put f (.list (fd.map V.int ++ (isort cc r).map V.int ++ [.int c])) = o3 at s3 g3 ⊢
        intro rn2 (hr2 : Fresh _ rn2)
        repeat tb_rel
        exact (exI6 t (fd ++ isort cc r ++ [c]) [] rn2 _ _ ⟨rfl, fun z hz => e2 z (.tail _ hz), by simp, by simp only [List.length_append, List.length_cons, List.length_nil]; omega, e5, rfl, by tb_start, Own.put_self _ _ _, ne_base (o := .list ((fd ++ isort cc r ++ [c]).map V.int)) hr2 g3, by top_name, by top_raise0⟩)
theorem feOf_mem {D : DT} {T : Int → Str × List Int} {cc : Int → Int} {dq : Int → Option (Int × Int)} {cs : List Int} (K : DOk D T cc dq cs) {c : Int} (hc : c ∈ cs) : ∀ z ∈ feOf dq c, z ∈ cs := by
  intro z hz
  unfold feOf at hz
  cases hq : dq c with
  | none => rw [hq] at hz; rw [List.mem_singleton.mp hz]; exact hc
  | some q =>
    obtain ⟨a, b⟩ := q
    rw [hq] at hz
    obtain ⟨k1, k2, _, _⟩ := K.clD c hc a b hq
    rcases List.mem_cons.mp hz with e | e
    · rw [e]; exact k1
    · rw [List.mem_singleton.mp e]; exact k2
noncomputable def deco (cc : Int → Int) (dq : Int → Option (Int × Int)) (text : List Int) : List Int := ordGo cc [] [] (text.flatMap (feOf dq))
theorem tc_decomposed (hB : B.K = KK P) {m a : Nat} {F : List Nat} {D : DT} {T : Int → Str × List Int} {cc : Int → Int} {dq : Int → Option (Int × Int)} {cs text : List Int} {Q : V → Own → Prop} (I : IsData own m F D) (K : DOk D T cc dq cs) (ha : own a = some (.list (text.map V.int))) (ht : ∀ c ∈ text, c ∈ cs) (hz : text.length ≤ 30)
    (h : ∀ own' f, Sub own own' → Fresh own f → own' f = some (.list ((deco cc dq text).map V.int)) → Q (.obj f) own') : TC prog w B (d + 6) (.ref 123) [.obj a, .obj m, .bool false] own Q := by
  refine TC.deff (dv := []) (D_decomposed_all hB) F_decomposed rfl rfl (fun _ => rfl) (by intro q h; cases h) ?_
  intro Kr hK
  refine TS.exp (ss := _ :: _) (l := [some (.obj a), some (.obj m), some (.bool false), none, none]) ?_
  repeat tb_rel
  intro f (hf : Fresh _ f)
  repeat tb_rel
  with_reducible refine TS.forI ?hs (TI.list ?_)
  case hs => (intro _ _; kernel_rfl)
  repeat tb_rel
  refine ⟨a, _, rfl, by tb_start, fun vs l o => ∃ (t acc : List Int) (x : Option V), vs = t.map V.int ∧ (∀ c ∈ t, c ∈ cs) ∧ (∀ c ∈ acc, c ∈ cs) ∧ acc.length + 2 * t.length ≤ 60 ∧ acc ++ t.flatMap (feOf dq) = text.flatMap (feOf dq) ∧
    l = [some (.obj a), some (.obj m), some (.bool false), some (.obj f), x] ∧ o f = some (.list (acc.map V.int)) ∧ Sub own o,
    (exI3 text [] none ⟨rfl, ht, by simp, by simp; omega, rfl, rfl, Own.put_self _ _ _, Sub.alloc hf .refl⟩), ?_, ?_, ?_⟩
  · intro vs l o ha_; (with_reducible refine exE3 ha_ fun t acc x hb_ => aE8 hb_ fun _ _ _ _ _ _ _ s => ?_); clear ha_ hb_; exact s _ _ ha
  · intro l o ha_; (with_reducible refine exE3 ha_ fun t acc x hb_ => aE8 hb_ fun e1 e2 e3 e4 e5 q5_ e7 e8 => ?_); clear ha_ hb_; subst q5_
    obtain rfl : t = [] := List.map_eq_nil_iff.mp e1.symm
    rw [List.flatMap_nil, List.append_nil] at e5
    repeat tb_rel
    refine tc_ordered hB (I.sub e8) K e7 e3 (by omega) fun o2 u s2 hu g => ?_
    repeat tb_rel
    refine h o2 u (e8.trans s2) (Sub.none hu e8) ?_
    unfold deco
    rw [← e5]; exact g
  · intro v vs l o ha_; (with_reducible refine exE3 ha_ fun t acc x hb_ => aE8 hb_ fun e1 e2 e3 e4 e5 q5_ e7 e8 => ?_); clear ha_ hb_; subst q5_
    cases t with
    | nil => cases e1
    | cons c t =>
      cases e1
      have hc := e2 c (.head _)
      have lf := feOf_len dq c
      rw [List.flatMap_cons, ← List.append_assoc] at e5
      rw [List.length_cons] at e4
      repeat tb_rel
      refine ⟨.list e7, ?_⟩
      repeat tb_rel
      refine tc_fexp hB (I.sub e8) K hc fun o2 u s2 (hu : Fresh _ u) g => ?_
      repeat tb_rel
      refine TN.extend (s2 _ _ e7) g (fits (by simp only [List.length_map]; omega)) ?_
      repeat tb_rel
      rw [← List.map_append]
      exact ⟨t, acc ++ feOf dq c, _, rfl, fun z hz => e2 z (.tail _ hz), fun z hz => by
        rcases List.mem_append.mp hz with hz | hz
        · exact e3 z hz
        · exact feOf_mem K hc z hz, by rw [List.length_append]; omega, e5, rfl, Own.put_self _ _ _, Sub.put (e8.trans s2) hf⟩
noncomputable def en (i : Nat) : List PyData → List V
  | [] => []
  | v :: t => V.tup [.int i, vOf v] :: en (i + 1) t
theorem en_eq : ∀ (t : List PyData) (i : Nat), ((List.range' i t.length).zip (t.map vOf)).map (fun q => V.tup [.int q.1, q.2]) = en i t
  | [], _ => rfl
  | v :: t, i => by
    rw [List.length_cons, List.range'_succ, List.map_cons, List.zip_cons_cons, List.map_cons, en_eq t (i + 1), en]
noncomputable def rowsAux (st : List Int) : Nat → List PyData → List (Int × Int × PyData)
  | _, [] => []
  | i, v :: t => (st.getD i 0, if i + 1 < st.length then st.getD (i + 1) 0 - 1 else 1114111, v) :: rowsAux st (i + 1) t
theorem rowsAux_len (st : List Int) : ∀ (t : List PyData) (i : Nat), (rowsAux st i t).length = t.length
  | [], _ => rfl
  | v :: t, i => by rw [rowsAux, List.length_cons, rowsAux_len st t]; rfl
noncomputable def rowV (q : Int × Int × PyData) : V := .tup [.int q.1, .int q.2.1, vOf q.2.2]
theorem enumf {ts : List Expr} {k : Nat} {tp : Pos} {x : Str} {np pos : Pos} {e : Expr} {Q : (Own → Prop) → List V → Own → Prop} (hB : B.K = KK P) (he : eqS x y7 = true) (hx : memS x Γ.glb = true) (hs : noStar [e] = true)
    (h : TE prog w B d Γ e l own (fun v own₁ => ∃ a vs, v = .obj a ∧ own₁ a = some (.list vs) ∧ Q (fun o => o a = some (.list vs)) ((List.range vs.length).zip vs |>.map fun q => V.tup [.int q.1, q.2]) own₁)) : TI prog w B d Γ (.Tuple ts k tp) (.Call (.Name x np) [e] [] pos) l own Q := by
  have e1 := eqS_iff.mp he
  subst e1
  exact TI.enum (memS_iff hx) (notDbg (bn_enumerate (P := P)).hd) (by rw [hB]; exact bn_enumerate.en) (bn_enumerate (P := P)).hv (bn_enumerate (P := P)).ne hs h
theorem tc_rows (hB : B.K = KK P) {r dd : Nat} {m : RM} {Q : V → Own → Prop} (R : IsRM own r dd m) (hl : m.starts.length = m.vals.length)
    (h : ∀ own' f, Sub own own' → Fresh own f → own' f = some (.list ((rowsAux m.starts 0 m.vals).map rowV)) → Q (.obj f) own') : TC prog w B (d + 1) (.ref 278) [.obj r] own Q := by
  obtain ⟨⟨s, vv, h1, h2, h3, h4⟩, ls, lv⟩ := R
  refine TC.deff (dv := []) (D_range_rows hB) F_range_rows rfl rfl (fun _ => rfl) (by intro q h; cases h) ?_
  intro Kr hK
  refine TS.exp (ss := _ :: _) (l := [some (.obj r), none, none, none, none, none]) ?_
  repeat tb_rel
  intro f (hf : Fresh _ f)
  repeat tb_rel
  have s0 : Sub own (own.put f (.list [])) := by top_raise0
  have g0 : (own.put f (.list [])) f = some (.list []) := Own.put_self _ _ _
  generalize own.put f (.list []) = o0 at s0 g0 ⊢
  with_reducible refine TS.forI ?hs (enumf hB ?he ?hx ?hs2 ?_)
  case hs => (intro _ _; kernel_rfl)
  case he => exact rfl
  case hx => kernel_rfl
  case hs2 => kernel_rfl
  have q1 := s0 _ _ h1
  have q2 := s0 _ _ h2
  repeat tb_rel
  refine ⟨vv, _, rfl, s0 _ _ h4, fun vs l o => ∃ (i : Nat) (t : List PyData) (acc : List (Int × Int × PyData)) (x y z : Option V), vs = en i t ∧ i + t.length = m.vals.length ∧ acc.length + t.length ≤ 900 ∧ acc ++ rowsAux m.starts i t = rowsAux m.starts 0 m.vals ∧
    l = [some (.obj r), some (.obj s), some (.obj f), x, y, z] ∧ o f = some (.list (acc.map rowV)) ∧ Sub own o,
    (exI6 0 m.vals [] none none none ⟨by rw [List.length_map, List.range_eq_range']; exact en_eq m.vals 0, by simp, by simpa using lv, rfl, rfl, g0, s0⟩), ?_, ?_, ?_⟩
  · intro vs l o ha_; (with_reducible refine exE6 ha_ fun i t acc x y z hb_ => aE7 hb_ fun _ _ _ _ _ _ s => ?_); clear ha_ hb_; exact s _ _ h4
  · intro l o ha_; (with_reducible refine exE6 ha_ fun i t acc x y z hb_ => aE7 hb_ fun e1 e2 e3 e4 q4_ e6 e7 => ?_); clear ha_ hb_; subst q4_
    have : t = [] := by cases t; rfl; cases e1
    subst this
    rw [rowsAux, List.append_nil] at e4
    repeat tb_rel
    refine h o f e7 hf ?_
    rw [← e4]; exact e6
  · intro u vs l o ha_; (with_reducible refine exE6 ha_ fun i t acc x y z hb_ => aE7 hb_ fun e1 e2 e3 e4 q4_ e6 e7 => ?_); clear ha_ hb_; subst q4_
    cases t with
    | nil => cases e1
    | cons v t =>
      cases e1
      rw [rowsAux, List.append_cons] at e4
      rw [List.length_cons] at e2 e3
      have hi : i < m.starts.length := by rw [hl, ← e2]; exact Nat.lt_add_of_pos_right (Nat.succ_pos _)
      have l9 : m.starts.length ≤ 1000 := Nat.le_trans ls (by decide)
      have g3 := e7 _ _ h3
      repeat tb_rel
      refine TN.len_list g3 (mlen4 l9) ?_
      repeat tb_rel
      rw [List.length_map]
      refine ⟨fun q => ?_, fun q => ?_⟩
      · have q : i + 1 < m.starts.length := Int.ofNat_lt.mp (of_decide_eq_true q)
        rw [if_pos q] at e4
        repeat tb_rel
        refine T2.item_nat (m := i + 1) (fun _ _ => rfl) g3 (mlen l9) (getI q) ?_
        repeat tb_rel
        refine ⟨.list e6, ?_⟩
        repeat tb_rel
        refine T2.item_nat (fun _ _ => rfl) g3 (mlen l9) (getI hi) ?_
        repeat tb_rel
        refine TN.append e6 (mlen4 (acc_le e3 rfl)) ?_
        repeat tb_rel
        refine (exI6 (i + 1) t _ _ _ _ ⟨rfl, len_succ e2, acc_succ e3, e4, rfl, ?_, Sub.put e7 hf⟩)
        rw [List.map_append]; exact Own.put_self _ _ _
      · have q : ¬ i + 1 < m.starts.length := fun e => of_decide_eq_false q (Int.ofNat_lt.mpr e)
        rw [if_neg q] at e4
        repeat tb_rel
        refine ⟨.list e6, ?_⟩
        repeat tb_rel
        refine T2.item_nat (fun _ _ => rfl) g3 (mlen l9) (getI hi) ?_
        repeat tb_rel
        refine TN.append e6 (mlen4 (acc_le e3 rfl)) ?_
        repeat tb_rel
        refine (exI6 (i + 1) t _ _ _ _ ⟨rfl, len_succ e2, acc_succ e3, e4, rfl, ?_, Sub.put e7 hf⟩)
        rw [List.map_append]; exact Own.put_self _ _ _
noncomputable def yRow : Str := ⟨#[114, 111, 119]⟩
noncomputable def G_ranges_c : Fn := ⟨[(yRow, false), (z24, true)], [z95], true, none⟩
noncomputable def rowsOf (m : RM) : List (Int × Int × PyData) := (rowsAux m.starts 0 m.vals).filter fun q => !(rlike q.2.2 m.dflt)
theorem rowsAux_ok (st : List Int) : ∀ (t : List PyData) (i : Nat), (∀ v ∈ t, okD v = true) → ∀ q ∈ rowsAux st i t, okD q.2.2 = true
  | [], _, _, q, h => by cases h
  | v :: t, i, hv, q, h => by
    rw [rowsAux] at h
    rcases List.mem_cons.mp h with e | e
    · rw [e]; exact hv v (.head _)
    · exact rowsAux_ok st t (i + 1) (fun x hx => hv x (.tail _ hx)) q e
theorem tc_ranges (hB : B.K = KK P) {r dd : Nat} {m : RM} {Q : V → Own → Prop} (R : IsRM own r dd m) (hl : m.starts.length = m.vals.length) (hok : ∀ v ∈ m.vals, okD v = true) (hdf : okD m.dflt = true)
    (h : ∀ own' f, Sub own own' → Fresh own f → own' f = some (.list ((rowsOf m).map rowV)) → Q (.obj f) own') : TC prog w B (d + 2) (.ref 257) [.obj r] own Q := by
  obtain ⟨⟨s, vv, h1, h2, h3, h4⟩, ls, lv⟩ := id R
  refine TC.deffc (D_RangeMap_ranges hB) F_RangeMap_ranges rfl rfl rfl ?_
  intro Kr hK
  refine TS.exp (ss := _ :: _) (l := [some (.obj r)]) ?_
  repeat tb_rel
  with_reducible refine TE.compI G_ranges_c [none, some 0] ?hs ?hk (TI.list ?_)
  case hs => (intro _ _; kernel_rfl)
  case hk => kernel_rfl
  repeat tb_rel
  refine tc_rows hB R hl fun o1 f1 s1 hf1 g1 => ?_
  refine ⟨f1, _, rfl, g1, fun a (ha : Fresh _ a) => ⟨fun vs l o => ∃ (t acc : List (Int × Int × PyData)) (x : Option V), vs = t.map rowV ∧ (∀ q ∈ t, okD q.2.2 = true) ∧ acc.length + t.length ≤ 900 ∧ acc ++ t.filter (fun q => !(rlike q.2.2 m.dflt)) = rowsOf m ∧
    l = [x, some (.obj r)] ∧ o a = some (.list (acc.map rowV)) ∧ o f1 = some (.list ((rowsAux m.starts 0 m.vals).map rowV)) ∧ Sub own o,
    (exI3 _ [] none ⟨rfl, rowsAux_ok _ _ _ hok, by rw [rowsAux_len]; simpa using lv, rfl, rfl, Own.put_self _ _ _, by tb_start, by top_raise0⟩), ?_, ?_, ?_⟩⟩
  · intro vs l o ha_; (with_reducible refine exE3 ha_ fun t acc x hb_ => aE8 hb_ fun _ _ _ _ _ _ g _ => ?_); clear ha_ hb_; exact g
  · intro l o ha_; (with_reducible refine exE3 ha_ fun t acc x hb_ => aE8 hb_ fun e1 e2 e3 e4 e5 e6 e7 e8 => ?_); clear ha_ hb_
    obtain rfl : t = [] := List.map_eq_nil_iff.mp e1.symm
    rw [List.filter_nil, List.append_nil] at e4
    subst e4
    exact hK.ret (h o a e8 (Sub.none ha s1) e6)
  · intro v vs l o ha_; (with_reducible refine exE3 ha_ fun t acc x hb_ => aE8 hb_ fun e1 e2 e3 e4 q4_ e6 e7 e8 => ?_); clear ha_ hb_; subst q4_
    cases t with
    | nil => cases e1
    | cons q t =>
      cases e1
      have nf : f1 ≠ a := ne_base ha g1
      rw [List.length_cons] at e3
      rw [show rowV q = V.tup [.int q.1, .int q.2.1, vOf q.2.2] from rfl]
      repeat tb_rel
      with_reducible refine TIfs.one ?_
      repeat tb_rel
      refine tc_like hB (e2 q (.head _)) hdf ?_
      repeat tb_rel
      rw [List.filter_cons] at e4
      refine ⟨fun c => ?_, fun c => ?_⟩
      · rw [if_neg (by rw [c]; exact Bool.false_ne_true)] at e4
        repeat tb_rel
        exact (exI3 t acc _ ⟨rfl, fun z hz => e2 z (.tail _ hz), by omega, e4, rfl, e6, e7, e8⟩)
      · rw [if_pos c] at e4
        repeat tb_rel
        refine ⟨_, e6, mlen (acc_le (by assumption) rfl), t, acc ++ [q], _, rfl, fun z hz => e2 z (.tail _ hz), acc_succ (by assumption), by rw [← e4]; simp, rfl, ?_, by tb_start, Sub.put e8 (Sub.none ha s1)⟩
        rw [List.map_append]; exact Own.put_self _ _ _
theorem tc_isprim (hB : B.K = KK P) {m : Nat} {F : List Nat} {D : DT} {T : Int → Str × List Int} {cc : Int → Int} {dq : Int → Option (Int × Int)} {cs : List Int} {c a b : Int} {Q : V → Own → Prop} (I : IsData own m F D) (K : DOk D T cc dq cs) (hc : c ∈ cs) (ha : a ∈ cs) (h0 : cc c = 0) (h1 : cc a = 0)
    (h : Q (.bool true) own) : TC prog w B (d + 4) (.ref 137) [.int c, .tup [.int a, .int b], .obj m] own Q := by
  obtain ⟨rm, k1, k2⟩ := K.fcc
  obtain ⟨⟨dm', D0, MM, p, w, maps, ds, i1, i2, i3, i4, i5, i6, i7, i8⟩, _⟩ := id I
  have kc : rmGet rm c = some (.int 0) := by rw [k2 c hc, h0]
  have ka : rmGet rm a = some (.int 0) := by rw [k2 a ha, h1]
  refine TC.deff (dv := []) (D_form_is_primary hB) F_form_is_primary rfl rfl (fun _ => rfl) (by intro q h; cases h) ?_
  intro Kr hK
  refine TS.exp (ss := _ :: _) (l := [some (.int c), some (.tup [.int a, .int b]), some (.obj m)]) ?_
  refine TS.iff ?_
  refine TT.orf ?_
  with_reducible refine TT.plain ?_ ?he
  case he => exact fun _ _ => rfl
  kts_caught
  repeat tb_rel
  refine tc_dataget0 hB I K.ex.1 K.ex.2 ?_
  repeat tb_rel
  refine ⟨(by first | exact tf | exact ft), fun _ => ?_⟩
  repeat tb_rel
  refine tc_hparts hB (K.ok c hc).1 ?_
  repeat tb_rel
  refine ⟨(by first | exact tf | exact ft), fun _ => ?_⟩
  repeat tb_rel
  refine ⟨(by first | exact tf | exact ft), fun _ => ?_⟩
  repeat tb_rel
  refine TE.andb ?_
  refine TE.cmp rfl ?_
  kts_caught
  repeat tb_rel
  refine tc_dataget hB I k1 kc ?_
  rw [show vOf (.int 0) = V.int 0 from rfl]
  repeat tb_rel
  refine ⟨_, rfl, (by first | exact tf | exact ft), fun _ => ?_⟩
  refine TE.cmp rfl ?_
  kts_caught
  repeat tb_rel
  refine tc_dataget hB I k1 ka ?_
  rw [show vOf (.int 0) = V.int 0 from rfl]
  repeat tb_rel
  exact h
theorem range2f {target : Expr} {x : Str} {np pos : Pos} {e f : Expr} {Q : (Own → Prop) → List V → Own → Prop} (hB : B.K = KK P) (he : eqS x y2 = true) (hx : memS x Γ.glb = true) (hs : noStar [e, f] = true)
    (h : TE prog w B d Γ e l own (fun v own₁ => TE prog w B d Γ f l own₁ (fun u own₂ => ∃ a b : Int, v = .int a ∧ u = .int b ∧ -(2 ^ 62) ≤ a ∧ a ≤ b ∧ b < 2 ^ 62 ∧ Q (fun _ => True) ((List.range (b - a).toNat).map fun (i : Nat) => V.int (a + i)) own₂))) : TI prog w B d Γ target (.Call (.Name x np) [e, f] [] pos) l own Q := by
  have e1 := eqS_iff.mp he
  subst e1
  exact TI.range2 (memS_iff hx) (notDbg (bn_range (P := P)).hd) (by rw [hB]; exact bn_range.en) (bn_range (P := P)).hv (bn_range (P := P)).ne hs h
theorem range1f {target : Expr} {x : Str} {np pos : Pos} {e : Expr} {Q : (Own → Prop) → List V → Own → Prop} (hB : B.K = KK P) (he : eqS x y2 = true) (hx : memS x Γ.glb = true) (hs : noStar [e] = true)
    (h : TE prog w B d Γ e l own (fun v own₁ => ∃ n : Nat, v = .int n ∧ n ≤ 1000000 ∧ Q (fun _ => True) ((List.range n).map fun (i : Nat) => V.int i) own₁)) : TI prog w B d Γ target (.Call (.Name x np) [e] [] pos) l own Q := by
  have e1 := eqS_iff.mp he
  subst e1
  exact TI.range1 (memS_iff hx) (notDbg (bn_range (P := P)).hd) (by rw [hB]; exact bn_range.en) (bn_range (P := P)).hv (bn_range (P := P)).ne hs h
noncomputable def prRow (q : Int × Int × Int) : Int × Int × PyData := (q.1, q.1, .tuple [.str ⟨#[]⟩, .tuple [.int q.2.1, .int q.2.2]])
noncomputable def prKV (q : Int × Int × Int) : List Int × V := ([q.2.1, q.2.2], .int q.1)
structure PrOk (D : DT) (cc : Int → Int) (cs : List Int) (prs : List (Int × Int × Int)) : Prop where
  rm : ∃ rm, D.map.lookup sDm = some rm ∧ rowsOf rm = prs.map prRow ∧ rm.starts.length = rm.vals.length ∧ (∀ v ∈ rm.vals, okD v = true) ∧ okD rm.dflt = true
  mem : ∀ q ∈ prs, q.1 ∈ cs ∧ q.2.1 ∈ cs ∧ cc q.1 = 0 ∧ cc q.2.1 = 0 ∧ 0 ≤ q.1
  nod : (prs.map fun q => [q.2.1, q.2.2]).Nodup
  few : prs.length ≤ 20
theorem kget_none {acc : List (Int × Int × Int)} {k : List Int} (h : k ∉ acc.map fun q => [q.2.1, q.2.2]) : kget (acc.map prKV) k = none := by
  unfold kget
  rw [List.lookup_eq_none_iff]
  intro p hp
  obtain ⟨q, hq, rfl⟩ := List.mem_map.mp hp
  have : k ≠ [q.2.1, q.2.2] := fun e => h (e ▸ List.mem_map_of_mem (f := fun q : Int × Int × Int => [q.2.1, q.2.2]) hq)
  simpa [prKV] using this
theorem tc_prim (hB : B.K = KK P) {m : Nat} {F : List Nat} {D : DT} {T : Int → Str × List Int} {cc : Int → Int} {dq : Int → Option (Int × Int)} {cs : List Int} {prs : List (Int × Int × Int)} {Q : V → Own → Prop} (I : IsData own m F D) (K : DOk D T cc dq cs) (Pr : PrOk D cc cs prs)
    (h : ∀ own' f ep, Sub own own' → Fresh own f → own' f = some (.dictt ep (prs.map prKV)) → Q (.obj f) own') : TC prog w B (d + 5) (.ref 130) [.obj m] own Q := by
  obtain ⟨rm, k1, k2, k3, k4, k5⟩ := Pr.rm
  obtain ⟨⟨dm', D0, MM, p, w, maps, ds, i1, i2, i3, i4, i5, i6, i7, i8⟩, _⟩ := id I
  have few := Pr.few
  refine TC.deff (dv := []) (D_primary_composites hB) F_primary_composites rfl rfl (fun _ => rfl) (by intro q h; cases h) ?_
  intro Kr hK
  refine TS.exp (ss := _ :: _) (l := [some (.obj m), none, none, none, none, none]) ?_
  repeat tb_rel
  with_reducible refine TE.dict0t ?_
  intro f ep (hf : Fresh _ f)
  repeat tb_rel
  have s0 : Sub own (own.put f (.dictt ep [])) := by top_raise0
  have g0 : (own.put f (.dictt ep [])) f = some (.dictt ep []) := Own.put_self _ _ _
  generalize own.put f (.dictt ep []) = o0 at s0 g0 ⊢
  with_reducible refine TS.forI ?hs (TI.list ?_)
  case hs => (intro _ _; kernel_rfl)
  kts_caught
  kts_caught
  repeat tb_rel
  refine tc_mapof_old hB (I.sub s0) k1 fun a dd A => ?_
  obtain ⟨⟨s, vv, j1, j2, j3, j4⟩, _, _⟩ := id A.rm
  repeat tb_rel
  refine tc_ranges hB A.rm k3 k4 k5 fun o1 f1 s1 (hf1 : Fresh _ f1) g1 => ?_
  rw [k2] at g1
  refine ⟨f1, _, rfl, g1, fun vs l o => ∃ (t acc : List (Int × Int × Int)) (ep : Nat) (x y z u : Option V), vs = (t.map prRow).map rowV ∧ acc ++ t = prs ∧ l = [some (.obj m), some (.obj f), x, y, z, u] ∧ o f = some (.dictt ep (acc.map prKV)) ∧ o f1 = some (.list ((prs.map prRow).map rowV)) ∧ Sub own o,
    (exI7 prs [] ep none none none none ⟨rfl, rfl, rfl, s1 _ _ g0, g1, s0.trans s1⟩), ?_, ?_, ?_⟩
  · intro vs l o ha_; (with_reducible refine exE7 ha_ fun t acc ep x y z u hb_ => aE6 hb_ fun _ _ _ _ g _ => ?_); clear ha_ hb_; exact g
  · intro l o ha_; (with_reducible refine exE7 ha_ fun t acc ep x y z u hb_ => aE6 hb_ fun e1 e2 q2_ e4 e5 e6 => ?_); clear ha_ hb_; subst q2_
    obtain rfl : t = [] := List.map_eq_nil_iff.mp (List.map_eq_nil_iff.mp e1.symm)
    rw [List.append_nil] at e2
    subst e2
    repeat tb_rel
    exact h o f ep e6 hf e4
  · have nff : f ≠ f1 := ne_base hf1 g0
    intro v vs l oo ha_; (with_reducible refine exE7 ha_ fun t acc ep0 x y z u hb_ => aE6 hb_ fun e1 e2 q2_ x4 x5 x6 => ?_); clear ha_ hb_; subst q2_
    cases t with
    | nil => cases e1
    | cons q t =>
      cases e1
      obtain ⟨c, qa, qb⟩ := q
      obtain ⟨m1, m2, m3, m4, m5⟩ := Pr.mem (c, qa, qb) (by rw [← e2]; simp)
      have lc := (K.ok c m1).1
      have hn : [qa, qb] ∉ acc.map fun q => [q.2.1, q.2.2] := by
        have := Pr.nod
        rw [← e2, List.map_append, List.map_cons] at this
        have := (List.nodup_append.mp this).2.2
        exact fun z => this _ z _ (.head _) rfl
      have la : acc.length ≤ 20 := by
        have := congrArg List.length e2
        rw [List.length_append] at this; omega
      rw [show rowV (prRow (c, qa, qb)) = V.tup [.int c, .int c, .tup [.str [], .tup [.int qa, .int qb]]] from rfl]
      repeat tb_rel
      refine TS.iff ?_
      repeat tb_rel
      refine ⟨(by first | exact tf | exact ft), fun _ => ?_⟩
      repeat tb_rel
      refine T2.nes (x := ⟨#[]⟩) (y := ⟨#[]⟩) (by decide +kernel) (by decide +kernel) rfl ?_
      repeat tb_rel
      refine ⟨(by first | exact tf | exact ft), fun _ => ?_⟩
      repeat tb_rel
      refine TN.len_tup (fits (by simp)) ?_
      repeat tb_rel
      refine ⟨(by first | exact tf | exact ft), fun _ => ?_⟩
      repeat tb_rel
      refine ⟨(by first | exact tf | exact ft), fun _ => ?_⟩
      repeat tb_rel
      with_reducible refine TS.forI ?hs (range2f hB ?he ?hx ?hs2 ?_)
      case hs => (intro _ _; kernel_rfl)
      case he => exact rfl
      case hx => kernel_rfl
      case hs2 => kernel_rfl
      repeat tb_rel
      refine ⟨_, _, rfl, rfl, by omega, by omega, by omega, ?_⟩
      rw [show (c + 1 - c).toNat = 1 by omega, show (List.range 1).map (fun (i : Nat) => V.int (c + i)) = [.int c] by simp]
      refine ⟨fun vs l o => ∃ (acc' : List (Int × Int × Int)) (ep : Nat) (u : Option V), ((vs = [.int c] ∧ acc' = acc) ∨ (vs = [] ∧ acc' = acc ++ [(c, qa, qb)])) ∧ l = [some (.obj m), some (.obj f), some (.int c), some (.int c), some (.tup [.str [], .tup [.int qa, .int qb]]), u] ∧ o f = some (.dictt ep (acc'.map prKV)) ∧ o f1 = some (.list ((prs.map prRow).map rowV)) ∧ Sub own o,
        (exI3 acc ep0 _ ⟨.inl ⟨rfl, rfl⟩, rfl, x4, x5, x6⟩), fun _ _ _ _ => trivial, ?_, ?_⟩
      · intro l o ha_; (with_reducible refine exE3 ha_ fun acc' ep u hb_ => aE5 hb_ fun hv q1_ e4 e5 e6 => ?_); clear ha_ hb_; subst q1_
        rcases hv with ⟨hv, _⟩ | ⟨_, rfl⟩
        · cases hv
        repeat tb_rel
        exact (exI7 t (acc ++ [(c, qa, qb)]) ep _ _ _ _ ⟨rfl, by rw [← e2]; simp, rfl, e4, e5, e6⟩)
      · intro v vs l o ha_; (with_reducible refine exE3 ha_ fun acc' ep u hb_ => aE5 hb_ fun hv q1_ e4 e5 e6 => ?_); clear ha_ hb_; subst q1_
        rcases hv with ⟨hv, rfl⟩ | ⟨hv, _⟩
        · cases hv
          repeat tb_rel
          refine TS.iff ?_
          repeat tb_rel
          refine tc_isprim hB (I.sub e6) K m1 m2 m3 m4 ?_
          repeat tb_rel
          refine ⟨fun _ => ?_, (by first | exact tf | exact ft)⟩
          repeat tb_rel
          refine T2.in_dictt (ks := [qa, qb]) e4 ?_
          rw [kget_none hn]
          repeat tb_rel
          refine ⟨fun _ => ?_, (by first | exact tf | exact ft)⟩
          repeat tb_rel
          refine ⟨fun _ => ?_, (by first | exact tf | exact ft)⟩
          repeat tb_rel
          refine TSI.dictt (ks := [qa, qb]) e4 (by rw [List.length_map]; omega) (kget_none hn) fun ep' => ?_
          repeat tb_rel
          refine (exI3 (acc' ++ [(c, qa, qb)]) ep' _ ⟨.inr ⟨rfl, rfl⟩, rfl, ?_, by tb_start, Sub.put e6 hf⟩)
          rw [List.map_append]; exact Own.put_self _ _ _
        · cases hv
structure IsComp (own : Own) (c : Nat) (prs : List (Int × Int × Int)) : Prop where
  ex : ∃ dc f ep sd, own c = some (.inst 168 dc) ∧ own dc = some (.dicta [(z84, .obj f), (z85, .obj sd)]) ∧ own f = some (.dictt ep (prs.map prKV))
theorem IsComp.sub {o o' : Own} {c : Nat} {prs : List (Int × Int × Int)} (I : IsComp o c prs) (h : Sub o o') : IsComp o' c prs := by
  obtain ⟨dc, f, ep, sd, h1, h2, h3⟩ := I.ex
  exact ⟨dc, f, ep, sd, h _ _ h1, h _ _ h2, h _ _ h3⟩
theorem tc_cinit (hB : B.K = KK P) {m a da : Nat} {F : List Nat} {D : DT} {T : Int → Str × List Int} {cc : Int → Int} {dq : Int → Option (Int × Int)} {cs : List Int} {prs : List (Int × Int × Int)} {Q : V → Own → Prop} (I : IsData own m F D) (K : DOk D T cc dq cs) (Pr : PrOk D cc cs prs)
    (h1 : own a = some (.inst 168 da)) (h2 : own da = some (.dicta []))
    (h : ∀ own', IsComp own' a prs → (∀ b o, own b = some o → b ≠ da → own' b = some o) → Q .none own') : TC prog w B (d + 6) (.ref 151) [.obj a, .obj m] own Q := by
  have n1 : a ≠ da := fun q => by rw [q, h2] at h1; cases h1
  refine TC.deff (dv := []) (D_Composer_init hB) F_Composer_init rfl rfl (fun _ => rfl) (by intro q h; cases h) ?_
  intro Kr hK
  refine TS.exp (ss := _ :: _) (l := [some (.obj a), some (.obj m), none, none]) ?_
  repeat tb_rel
  refine tc_prim hB I K Pr fun o1 f ep s1 (hf : Fresh _ f) g1 => ?_
  have nf : f ≠ da := Ne.symm (ne_base hf h2)
  repeat tb_rel
  with_reducible refine TE.dict0i ?_
  intro sd ep2 (hsd : Fresh _ sd)
  have nsd : sd ≠ da := fun q => by
    have hsd : _ = none := hsd
    rw [q, Own.put_self] at hsd; cases hsd
  have nfs : f ≠ sd := ne_base (o := .dictt ep (prs.map prKV)) hsd (by tb_start)
  have fsd : Fresh own sd := Gr.none hsd (Gr.put (Gr.of_sub s1))
  repeat tb_rel
  have few := Pr.few
  change TS prog w B (d + 5) _ _ _ (((o1.put da (.dicta (aputS z84 (.obj f) []))).put sd (.dicti ep2 [])).put da (.dicta (aputS z85 (.obj sd) (aputS z84 (.obj f) [])))) _
  generalize ho2 : ((o1.put da (.dicta (aputS z84 (.obj f) []))).put sd (.dicti ep2 [])).put da (.dicta (aputS z85 (.obj sd) (aputS z84 (.obj f) []))) = o2
  have g2 : o2 a = some (.inst 168 da) := by rw [← ho2]; tb_start
  have g3 : o2 da = some (.dicta [(z84, .obj f), (z85, .obj sd)]) := by rw [← ho2]; exact Own.put_self _ _ _
  have g4 : o2 f = some (.dictt ep (prs.map prKV)) := by rw [← ho2]; tb_start
  have g5 : o2 sd = some (.dicti ep2 []) := by rw [← ho2]; tb_start
  have fr : ∀ b ob, own b = some ob → b ≠ da → o2 b = some ob := fun b ob e nb => by rw [← ho2]; tb_start
  clear ho2 hsd
  with_reducible refine TS.forI ?hs (TI.dictt ?_)
  case hs => (intro _ _; kernel_rfl)
  repeat tb_rel
  refine ⟨f, ep, _, rfl, g4, fun vs l o => ∃ (t : List (Int × Int × Int)) (kv : List (Int × V)) (ep2 : Nat) (x y : Option V), vs = (t.map prKV).map (fun q => V.tup (q.1.map V.int)) ∧ kv.length + t.length ≤ 100 ∧ l = [some (.obj a), some (.obj m), x, y] ∧ o sd = some (.dicti ep2 kv) ∧ o a = some (.inst 168 da) ∧ o da = some (.dicta [(z84, .obj f), (z85, .obj sd)]) ∧ o f = some (.dictt ep (prs.map prKV)) ∧ (∀ b ob, own b = some ob → b ≠ da → o b = some ob),
    (exI5 prs [] ep2 none none ⟨rfl, by simp; omega, rfl, g5, g2, g3, g4, fr⟩), ?_, ?_, ?_⟩
  · intro vs l o ha_; (with_reducible refine exE5 ha_ fun t kv ep2 x y hb_ => aE8 hb_ fun _ _ _ _ _ _ g _ => ?_); clear ha_ hb_; exact g
  · intro l o ha_; (with_reducible refine exE5 ha_ fun t kv ep2 x y hb_ => aE8 hb_ fun e1 e2 q2_ e4 e5 e6 e7 e8 => ?_); clear ha_ hb_; subst q2_
    repeat tb_rel
    exact h o ⟨⟨da, f, ep, sd, e5, e6, e7⟩⟩ e8
  · intro v vs l o ha_; (with_reducible refine exE5 ha_ fun t kv ep2 x y hb_ => aE8 hb_ fun e1 e2 q2_ e4 e5 e6 e7 e8 => ?_); clear ha_ hb_; subst q2_
    cases t with
    | nil => cases e1
    | cons q t =>
      cases e1
      obtain ⟨c, qa, qb⟩ := q
      intro Kt hKt
      change TG prog w B (d + 5) _ _ (V.tup [.int qa, .int qb]) _ _ _
      rw [List.length_cons] at e2
      have nas : a ≠ sd := fun q => by rw [q, e4] at e5; cases e5
      repeat tb_rel
      refine TSI.dicti e4 (by omega) fun ep3 => ?_
      repeat tb_rel
      have kl := kput_len kv qb (.bool true)
      exact (exI5 t (kput kv qb (.bool true)) ep3 _ _ ⟨rfl, by omega, rfl, Own.put_self _ _ _, by tb_start, (Own.put_ne _ _ nsd.symm).trans e6, by tb_start, fun b ob e nb => (Own.put_ne _ _ (ne_base fsd e)).trans (e8 b ob e nb)⟩)
noncomputable def prLook (prs : List (Int × Int × Int)) (a b : Int) : Option Int := (prs.find? fun q => q.2.1 = a ∧ q.2.2 = b).map (·.1)
noncomputable def optV : Option Int → V
  | none => .none
  | some c => .int c
theorem kget_pr (a b : Int) : ∀ prs : List (Int × Int × Int), (kget (prs.map prKV) [a, b]).getD .none = optV (prLook prs a b)
  | [] => rfl
  | q :: t => by
    obtain ⟨c, x, y⟩ := q
    unfold kget prLook
    rw [List.map_cons, show prKV (c, x, y) = ([x, y], V.int c) from rfl, List.lookup_cons, List.find?_cons]
    by_cases e : x = a ∧ y = b
    · obtain ⟨rfl, rfl⟩ := e
      simp [optV]
    · have e1 : ([a, b] == [x, y]) = false := by
        simp only [beq_eq_false_iff_ne, ne_eq, List.cons.injEq, and_true, not_and]
        exact fun h1 h2 => e ⟨h1.symm, h2.symm⟩
      have e2 : decide (x = a ∧ y = b) = false := decide_eq_false e
      simp only [e1, e2]
      exact kget_pr a b t
theorem tc_cpair (hB : B.K = KK P) {c : Nat} {prs : List (Int × Int × Int)} {x y : Int} {Q : V → Own → Prop} (C : IsComp own c prs) (hx : x < 44032 ∧ (x < 4352 ∨ 4371 ≤ x)) (h : Q (optV (prLook prs x y)) own) : TC prog w B (d + 3) (.ref 158) [.obj c, .int x, .int y] own Q := by
  obtain ⟨dc, f, ep, sd, h1, h2, h3⟩ := C.ex
  refine TC.deff (dv := []) (D_Composer_pair hB) F_Composer_pair rfl rfl (fun _ => rfl) (by intro q h; cases h) ?_
  intro Kr hK
  refine TS.exp (ss := _ :: _) (l := [some (.obj c), some (.int x), some (.int y), none]) ?_
  repeat tb_rel
  refine tc_hpair hB hx.1 hx.2 ?_
  repeat tb_rel
  refine ⟨(by first | exact tf | exact ft), fun _ => ?_⟩
  top_caught0
  repeat tb_rel
  refine ⟨.dictt h3, ?_⟩
  repeat tb_rel
  refine TN.get_dictt (ks := [x, y]) h3 ?_
  rw [kget_pr]; exact hK.ret h
noncomputable def compTry (cc : Int → Int) (prs : List (Int × Int × Int)) (found : List Int) (st mo c : Int) : Option Int :=
  if 0 ≤ st ∧ (st = found.length - 1 ∨ mo < cc c) then prLook prs (found.getD st.toNat 0) c else none
noncomputable def compGo (cc : Int → Int) (prs : List (Int × Int × Int)) : List Int → Int → Int → List Int → List Int
  | found, _, _, [] => found
  | found, st, mo, c :: t => match compTry cc prs found st mo c with
    | some p => compGo cc prs (found.set st.toNat p) st mo t
    | none => if cc c = 0 then compGo cc prs (found ++ [c]) found.length (-1) t else compGo cc prs (found ++ [c]) st (if cc c > mo then cc c else mo) t
theorem prLook_mem {prs : List (Int × Int × Int)} {a b p : Int} (h : prLook prs a b = some p) : ∃ q ∈ prs, q.1 = p := by
  unfold prLook at h
  cases hf : prs.find? (fun q => q.2.1 = a ∧ q.2.2 = b) with
  | none => rw [hf] at h; cases h
  | some q =>
    rw [hf] at h; cases h
    exact ⟨q, List.mem_of_find?_eq_some hf, rfl⟩
theorem getD_mem {l : List Int} {n : Nat} (h : n < l.length) : l.getD n 0 ∈ l := by
  rw [List.getD_eq_getElem?_getD, List.getElem?_eq_getElem h]; exact List.getElem_mem h
theorem getV {l : List Int} {n : Nat} (h : n < l.length) : (l.map V.int)[n]? = some (.int (l.getD n 0)) := by
  rw [List.getElem?_map, List.getD_eq_getElem?_getD, List.getElem?_eq_getElem h]; rfl
theorem set_map (l : List Int) (n : Nat) (x : Int) : (l.map V.int).set n (.int x) = (l.set n x).map V.int := (List.map_set ..).symm
noncomputable def isListO : O → Bool
  | .list _ => true
  | _ => false
theorem IsComp.put {own : Own} {c f : Nat} {prs : List (Int × Int × Int)} {ob nb : O} (I : IsComp own c prs) (h : own f = some ob) (n : isListO ob = true) : IsComp (own.put f nb) c prs := by
  obtain ⟨dc, f', ep, sd, h1, h2, h3⟩ := I.ex
  refine ⟨dc, f', ep, sd, (Own.put_ne _ _ ?_).trans h1, (Own.put_ne _ _ ?_).trans h2, (Own.put_ne _ _ ?_).trans h3⟩
  · intro q; rw [q, h] at h1; cases h1; cases n
  · intro q; rw [q, h] at h2; cases h2; cases n
  · intro q; rw [q, h] at h3; cases h3; cases n
theorem tc_composed (hB : B.K = KK P) {m a : Nat} {F : List Nat} {D : DT} {T : Int → Str × List Int} {cc : Int → Int} {dq : Int → Option (Int × Int)} {cs text : List Int} {prs : List (Int × Int × Int)} {Q : V → Own → Prop} (I : IsData own m F D) (K : DOk D T cc dq cs) (Pr : PrOk D cc cs prs) (ha : own a = some (.list (text.map V.int))) (ht : ∀ c ∈ text, c ∈ cs) (hz : text.length ≤ 60)
    (h : ∀ own' f, Sub own own' → Fresh own f → own' f = some (.list ((compGo cc prs [] (-1) (-1) text).map V.int)) → Q (.obj f) own') : TC prog w B (d + 8) (.ref 180) [.obj a, .obj m, .none] own Q := by
  obtain ⟨rm, k1, k2⟩ := K.fcc
  refine TC.deff (dv := []) (D_composed_all hB) F_composed rfl rfl (fun _ => rfl) (by intro q h; cases h) ?_
  intro Kr hK
  refine TS.exp (ss := _ :: _) (l := [some (.obj a), some (.obj m), some .none, none, none, none, none, none, none]) ?_
  repeat tb_rel
  refine ⟨fun _ => ?_, (by first | exact tf | exact ft)⟩
  repeat tb_rel
  refine TC.makef hB (by kernel_rfl) rfl (by kernel_rfl) fun p dp (hdp : Fresh _ dp) (hp : Fresh _ p) hne => ?_
  have hp' : Fresh (own.put dp (.dicta [])) p := put_none hp hne
  have s2 : Sub own ((own.put dp (.dicta [])).put p (.inst 168 dp)) := Sub.alloc hp' (Sub.alloc hdp .refl)
  refine tc_cinit hB (I.sub s2) K Pr (by tb_start) (by tb_start) fun o2 C fr => ⟨rfl, ?_⟩
  have s3 : Sub own o2 := fun b ob e => fr b ob (s2 b ob e) (ne_base hdp e)
  clear fr s2 hp' hne hdp hp
  repeat tb_rel
  intro f (hf : Fresh _ f)
  repeat tb_rel
  have s4 : Sub o2 (o2.put f (.list [])) := by top_raise0
  have g4 : (o2.put f (.list [])) f = some (.list []) := Own.put_self _ _ _
  have f0 : Fresh own f := Sub.none hf s3
  replace C := C.sub s4
  replace s4 := s3.trans s4
  generalize o2.put f (.list []) = o3 at s4 g4 C ⊢
  clear hf s3
  with_reducible refine TS.forI ?hs (TI.list ?_)
  case hs => (intro _ _; kernel_rfl)
  repeat tb_rel
  refine ⟨a, _, rfl, s4 _ _ ha, fun vs l o => ∃ (t fd : List Int) (st mo : Int) (x y z : Option V), vs = t.map V.int ∧ (∀ c ∈ t, c ∈ cs) ∧ (∀ c ∈ fd, c ∈ cs) ∧ fd.length + t.length ≤ 60 ∧ -1 ≤ st ∧ st < fd.length ∧ compGo cc prs fd st mo t = compGo cc prs [] (-1) (-1) text ∧
    l = [some (.obj a), some (.obj m), some (.obj p), some (.obj f), some (.int st), some (.int mo), x, y, z] ∧ o f = some (.list (fd.map V.int)) ∧ IsComp o p prs ∧ Sub own o,
    (exI7 text [] (-1) (-1) none none none ⟨rfl, ht, all_nil, by simpa using hz, by decide, by decide, rfl, rfl, g4, C, s4⟩), ?_, ?_, ?_⟩
  · intro vs l o ha_; (with_reducible refine exE7 ha_ fun t fd st mo x y z hb_ => aE11 hb_ fun _ _ _ _ _ _ _ _ _ _ s => ?_); clear ha_ hb_; exact s _ _ ha
  · intro l o ha_; (with_reducible refine exE7 ha_ fun t fd st mo x y z hb_ => aE11 hb_ fun e1 e2 e3 e4 e5 e6 e7 q7_ e9 e10 e11 => ?_); clear ha_ hb_; subst q7_
    obtain rfl : t = [] := List.map_eq_nil_iff.mp e1.symm
    rw [compGo] at e7
    repeat tb_rel
    refine h o f e11 f0 ?_
    rw [← e7]; exact e9
  · intro v vs l o ha_; (with_reducible refine exE7 ha_ fun t fd st mo x y z hb_ => aE11 hb_ fun e1 e2 e3 e4 e5 e6 e7 q7_ e9 e10 e11 => ?_); clear ha_ hb_; subst q7_
    cases t with
    | nil => cases e1
    | cons c t =>
      cases e1
      have hc := e2 c (.head _)
      obtain ⟨⟨dm', D0, MM, pp, w, maps, ds, i1, i2, i3, i4, i5, i6, i7, i8⟩, _⟩ := id (I.sub e11)
      rw [List.length_cons] at e4
      have hzz : fd.length ≤ 60 := by omega
      repeat tb_rel
      kts_caught
      repeat tb_rel
      refine tc_dataget hB (I.sub e11) k1 (k2 c hc) ?_
      rw [show vOf (.int (cc c)) = V.int (cc c) from rfl]
      repeat tb_rel
      refine TS.ifj (fun l o' => o' = o ∧ compTry cc prs fd st mo c = none ∧ ∃ z, l = [some (.obj a), some (.obj m), some (.obj p), some (.obj f), some (.int st), some (.int mo), some (.int c), some (.int (cc c)), z]) ?_ ?_
      · intro Kj hKj
        refine TT.mono (Q := fun b o' => b = decide (0 ≤ st ∧ (st = fd.length - 1 ∨ mo < cc c)) ∧ o' = o) ?_ fun b o' ⟨eb, eo⟩ => ?_
        · repeat tb_rel
          refine ⟨fun q0 => ?_, fun q0 => ?_⟩
          · have q0 := of_decide_eq_true q0
            repeat tb_rel
            refine TN.len_list e9 (mlen4 (acc_le (by assumption) rfl)) ?_
            repeat tb_rel
            rw [List.length_map]
            refine ⟨fun q1 => ?_, fun q1 => ?_⟩
            · have q1 := eq_of_beq q1
              repeat tb_rel
              refine ⟨fun _ => ?_, (by first | exact tf | exact ft)⟩
              repeat tb_rel
              exact ⟨(decide_eq_true ⟨q0, .inl q1⟩).symm, rfl⟩
            · have q1 : ¬ st = fd.length - 1 := fun e => by rw [e, beq_self_eq_true] at q1; cases q1
              repeat tb_rel
              refine ⟨fun q2 => ?_, fun q2 => ?_⟩
              · refine ⟨fun _ => ?_, (by first | exact tf | exact ft)⟩
                repeat tb_rel
                exact ⟨(decide_eq_true ⟨q0, .inr (of_decide_eq_true q2)⟩).symm, rfl⟩
              · repeat tb_rel
                refine ⟨(by first | exact tf | exact ft), fun _ => ?_⟩
                exact ⟨(decide_eq_false fun q => q.2.elim q1 (of_decide_eq_false q2)).symm, rfl⟩
          · exact ⟨(decide_eq_false fun q => of_decide_eq_false q0 q.1).symm, rfl⟩
        subst eb eo
        refine ⟨fun q => ?_, fun q => ?_⟩
        · have q := of_decide_eq_true q
          have hT : compTry cc prs fd st mo c = prLook prs (fd.getD st.toNat 0) c := if_pos q
          have hst : st.toNat < fd.length := by omega
          repeat tb_rel
          kts_caught
          obtain ⟨dc, f', ep, sd, c1, c2, c3⟩ := id e10
          repeat tb_rel
          refine T2.item_list ?hs e9 q.1 (by omega) (getV hst) ?_
          case hs => exact fun _ _ => rfl
          repeat tb_rel
          refine tc_cpair hB e10 (K.ok _ (e3 _ (getD_mem hst))) ?_
          repeat tb_rel
          refine TS.iff ?_
          repeat tb_rel
          cases hp : prLook prs (fd.getD st.toNat 0) c with
          | none =>
            refine ⟨(by first | exact tf | exact ft), fun _ => ?_⟩
            repeat tb_rel
            exact ⟨rfl, hT.trans hp, _, rfl⟩
          | some pr =>
            obtain ⟨qq, m1, m2⟩ := prLook_mem hp
            refine ⟨fun _ => ?_, (by first | exact tf | exact ft)⟩
            rw [compGo, hT.trans hp] at e7
            repeat tb_rel
            refine TSI.list e9 q.1 (by rw [List.length_map]; omega) (fits (by rw [List.length_map]; omega)) ?_
            repeat tb_rel
            rw [show optV (some pr) = V.int pr from rfl, set_map]
            refine (exI7 t (fd.set st.toNat pr) st mo _ _ _ ⟨rfl, fun z hz => e2 z (.tail _ hz), fun z hz => ?_, by rw [List.length_set]; omega, e5, by rw [List.length_set]; exact e6, e7, rfl, Own.put_self _ _ _, e10.put e9 rfl, Sub.put e11 f0⟩)
            rcases List.mem_or_eq_of_mem_set hz with hz | hz
            · exact e3 z hz
            · rw [hz, ← m2]; exact (Pr.mem qq m1).1
        · repeat tb_rel
          exact ⟨rfl, if_neg (of_decide_eq_false q), _, rfl⟩
      · rintro l o' ⟨rfl, hn, z', rfl⟩
        rw [compGo, hn] at e7
        refine TS.iff ?_
        repeat tb_rel
        refine ⟨fun q => ?_, fun q => ?_⟩
        · have e7 : (if cc c = 0 then _ else _) = _ := e7
          rw [if_pos (eq_of_beq q)] at e7
          repeat tb_rel
          refine TN.len_list e9 (mlen4 (acc_le (by assumption) rfl)) ?_
          repeat tb_rel
          rw [List.length_map]
          refine ⟨.list e9, ?_⟩
          repeat tb_rel
          refine TN.append e9 (mlen4 (acc_le (by assumption) rfl)) ?_
          repeat tb_rel
          refine (exI7 t (fd ++ [c]) fd.length (-1) _ _ _ ⟨rfl, fun z hz => e2 z (.tail _ hz), fun z hz => ?_, by rw [List.length_append, List.length_singleton]; omega, by omega, by rw [List.length_append, List.length_singleton]; omega, e7, rfl, ?_, e10.put e9 rfl, Sub.put e11 f0⟩)
          · rcases List.mem_append.mp hz with hz | hz
            · exact e3 z hz
            · rw [List.mem_singleton.mp hz]; exact hc
          · rw [List.map_append]; exact Own.put_self _ _ _
        · have e7 : (if cc c = 0 then _ else _) = _ := e7
          rw [if_neg (fun e => by rw [e, beq_self_eq_true] at q; cases q)] at e7
          repeat tb_rel
          refine TN.max2 ?_
          repeat tb_rel
          refine ⟨.list e9, ?_⟩
          repeat tb_rel
          refine TN.append e9 (mlen4 (acc_le (by assumption) rfl)) ?_
          repeat tb_rel
          refine (exI7 t (fd ++ [c]) st (if cc c > mo then cc c else mo) _ _ _ ⟨rfl, fun z hz => e2 z (.tail _ hz), fun z hz => ?_, by rw [List.length_append, List.length_singleton]; omega, e5, by rw [List.length_append, List.length_singleton]; omega, e7, rfl, ?_, e10.put e9 rfl, Sub.put e11 f0⟩)
          · rcases List.mem_append.mp hz with hz | hz
            · exact e3 z hz
            · rw [List.mem_singleton.mp hz]; exact hc
          · rw [List.map_append]; exact Own.put_self _ _ _
theorem T2.in_tupf {a : V} {vs : List V} {da : PyData} {ds : List PyData} {b : Bool} {Q : V → Own → Prop} (ra : Rd own a da) (rb : RdAll own vs ds) (ca : da.canLay0 = true) (cb : PyData.canLayAll0 ds = true) (hd : da.depth ≤ 100) (e : (ds.any fun y => PyData.eqv y da) = b) (h : Q (.bool b) own) : T2 prog w B (compareOp .In) a (.tup vs) own Q := by
  subst e; exact T2.in_tup ra rb ca cb hd h
noncomputable def wNfc : Str := ⟨#[110, 102, 99]⟩
noncomputable def wNfd : Str := ⟨#[110, 102, 100]⟩
noncomputable def wNfkc : Str := ⟨#[110, 102, 107, 99]⟩
noncomputable def wNfkd : Str := ⟨#[110, 102, 107, 100]⟩
noncomputable def nfcL (cc : Int → Int) (dq : Int → Option (Int × Int)) (prs : List (Int × Int × Int)) (text : List Int) : List Int := compGo cc prs [] (-1) (-1) (deco cc dq text)
theorem feL {dq : Int → Option (Int × Int)} (text : List Int) : (text.flatMap (feOf dq)).length ≤ 2 * text.length := by
  induction text with
  | nil => exact Nat.le_refl _
  | cons c t ih =>
    rw [List.flatMap_cons, List.length_append, List.length_cons]
    have := feOf_len dq c
    omega
theorem isort_mem {cc : Int → Int} {x : Int} : ∀ {l : List Int}, x ∈ isort cc l → x ∈ l
  | [], h => h
  | y :: t, h => by
    have ins : ∀ l : List Int, x ∈ insI cc y l → x = y ∨ x ∈ l := by
      intro l
      induction l with
      | nil => intro h; exact .inl (List.mem_singleton.mp h)
      | cons z u ih =>
        unfold insI
        split
        · intro h; exact List.mem_cons.mp h
        · intro h
          rcases List.mem_cons.mp h with h | h
          · exact .inr (h ▸ .head _)
          · exact (ih h).imp id (.tail _)
    rcases ins _ h with h | h
    · exact h ▸ .head _
    · exact .tail _ (isort_mem h)
theorem ordGo_mem {cc : Int → Int} {x : Int} : ∀ (t f r : List Int), x ∈ ordGo cc f r t → x ∈ f ∨ x ∈ r ∨ x ∈ t
  | [], f, r, h => by
    rw [ordGo] at h
    rcases List.mem_append.mp h with h | h
    · exact .inl h
    · exact .inr (.inl (isort_mem h))
  | c :: t, f, r, h => by
    rw [ordGo] at h
    split at h
    · rcases ordGo_mem t _ _ h with h | h | h
      · exact .inl h
      · rcases List.mem_append.mp h with h | h
        · exact .inr (.inl h)
        · exact .inr (.inr (List.mem_singleton.mp h ▸ .head _))
      · exact .inr (.inr (.tail _ h))
    · rcases ordGo_mem t _ _ h with h | h | h
      · rcases List.mem_append.mp h with h | h
        · rcases List.mem_append.mp h with h | h
          · exact .inl h
          · exact .inr (.inl (isort_mem h))
        · exact .inr (.inr (List.mem_singleton.mp h ▸ .head _))
      · exact nomatch h
      · exact .inr (.inr (.tail _ h))
theorem tc_formof (hB : B.K = KK P) {m a : Nat} {F : List Nat} {D : DT} {T : Int → Str × List Int} {cc : Int → Int} {dq : Int → Option (Int × Int)} {cs text : List Int} {prs : List (Int × Int × Int)} {Q : V → Own → Prop} (I : IsData own m F D) (K : DOk D T cc dq cs) (Pr : PrOk D cc cs prs) (ha : own a = some (.list (text.map V.int))) (ht : ∀ c ∈ text, c ∈ cs) (hz : text.length ≤ 30)
    (h : ∀ own' f, Sub own own' → Fresh own f → own' f = some (.list ((nfcL cc dq prs text).map V.int)) → Q (.obj f) own') : TC prog w B (d + 9) (.ref 188) [.obj a, .obj m, .str wNfc.cps.toList] own Q := by
  refine TC.deff (dv := [.none]) (D_form_of hB) F_form_of rfl rfl (fun _ => ⟨_, _, rfl, rfl, rfl⟩) (by intro q h; cases h) ?_
  intro Kr hK
  refine TS.exp (ss := _ :: _) (l := [some (.obj a), some (.obj m), some (.str wNfc.cps.toList), some .none, none]) ?_
  repeat tb_rel
  refine T2.in_tupf (rd_of (d := .str wNfc) rfl) (ds := [.str wNfkd, .str wNfkc]) (b := false) (.cons (rd_of (d := .str wNfkd) rfl) (.cons (rd_of (d := .str wNfkc) rfl) .nil)) (by decide +kernel) (by decide +kernel) (by decide) (by decide +kernel) ?_
  repeat tb_rel
  refine tc_decomposed hB I K ha ht hz fun o1 u s1 (hu : Fresh _ u) g1 => ?_
  repeat tb_rel
  refine T2.in_tupf (rd_of (d := .str wNfc) rfl) (ds := [.str wNfd, .str wNfkd]) (b := false) (.cons (rd_of (d := .str wNfd) rfl) (.cons (rd_of (d := .str wNfkd) rfl) .nil)) (by decide +kernel) (by decide +kernel) (by decide) (by decide +kernel) ?_
  repeat tb_rel
  refine ⟨(by first | exact tf | exact ft), fun _ => ?_⟩
  repeat tb_rel
  have lf := feL (dq := dq) text
  refine tc_composed hB (I.sub s1) K Pr g1 ?_ ?_ fun o2 v s2 hv g2 => ?_
  · intro c hc
    rcases ordGo_mem _ _ _ hc with h | h | h
    · cases h
    · cases h
    · obtain ⟨z, z1, z2⟩ := List.mem_flatMap.mp h
      exact feOf_mem K (ht z z1) c z2
  · unfold deco
    rw [ordGo_len]; simp only [List.length_nil]; omega
  repeat tb_rel
  exact h o2 v (s1.trans s2) (Sub.none hv s1) g2
theorem tc_nfc (hB : B.K = KK P) {m a : Nat} {F : List Nat} {D : DT} {T : Int → Str × List Int} {cc : Int → Int} {dq : Int → Option (Int × Int)} {cs text : List Int} {prs : List (Int × Int × Int)} {Q : V → Own → Prop} (I : IsData own m F D) (K : DOk D T cc dq cs) (Pr : PrOk D cc cs prs) (ha : own a = some (.list (text.map V.int))) (ht : ∀ c ∈ text, c ∈ cs) (hz : text.length ≤ 30)
    (h : ∀ own' f, Sub own own' → Fresh own f → own' f = some (.list ((nfcL cc dq prs text).map V.int)) → Q (.obj f) own') : TC prog w B (d + 10) (.ref 195) [.obj a, .obj m] own Q := by
  refine TC.deff (dv := []) (D_nfc hB) F_nfc rfl rfl (fun _ => rfl) (by intro q h; cases h) ?_
  intro Kr hK
  refine TS.exp (ss := _ :: _) (l := [some (.obj a), some (.obj m)]) ?_
  repeat tb_rel
  refine tc_formof hB I K Pr ha ht hz fun o1 u s1 hu g1 => ?_
  repeat tb_rel
  exact h o1 u s1 hu g1
noncomputable def mapD (T : Int → Str × List Int) (late only : Bool) (c : Int) : List Int := (mapOne T c late only).getD [c]
noncomputable def badD (T : Int → Str × List Int) (late only : Bool) (c : Int) : Bool := (mapOne T c late only).isNone
theorem mapD_mem {D : DT} {T : Int → Str × List Int} {cc : Int → Int} {dq : Int → Option (Int × Int)} {cs : List Int} (K : DOk D T cc dq cs) {late only : Bool} {c : Int} (hc : c ∈ cs) : ∀ z ∈ mapD T late only c, z ∈ cs := by
  have h1 : ∀ z ∈ [c], z ∈ cs := fun z hz => List.mem_singleton.mp hz ▸ hc
  have h2 := K.clT c hc
  unfold mapD mapOne
  split
  · exact h1
  split
  · exact fun z hz => nomatch hz
  split
  · cases late
    · exact h1
    · exact h2
  split
  · cases late
    · exact h2
    · intro z hz
      obtain ⟨o, o1, o2⟩ := List.mem_flatMap.mp hz
      have ho := h2 o o1
      split at o2
      · exact K.clT o ho z o2
      · exact List.mem_singleton.mp o2 ▸ ho
  · exact h1
noncomputable def wordsV (b : Bool) : List V := if b then [.str wDis.cps.toList] else []
theorem tc_maplabel (hB : B.K = KK P) {m a : Nat} {F : List Nat} {D : DT} {T : Int → Str × List Int} {cc : Int → Int} {dq : Int → Option (Int × Int)} {cs text : List Int} {prs : List (Int × Int × Int)} {late only : Bool} {Q : V → Own → Prop} (I : IsData own m F D) (K : DOk D T cc dq cs) (Pr : PrOk D cc cs prs) (ha : own a = some (.list (text.map V.int))) (ht : ∀ c ∈ text, c ∈ cs) (hz : (text.flatMap (mapD T late only)).length ≤ 30)
    (h : ∀ own' f wd, Sub own own' → own' f = some (.list ((nfcL cc dq prs (text.flatMap (mapD T late only))).map V.int)) → own' wd = some (.list (wordsV (text.any (badD T late only)))) → Q (.tup [.obj f, .obj wd]) own') : TC prog w B (d + 11) (.ref 217) [.obj a, .obj m, .bool late, .bool only] own Q := by
  refine TC.deff (dv := []) (D_map_label_all hB) F_map_label rfl rfl (fun _ => rfl) (by intro q h; cases h) ?_
  intro Kr hK
  refine TS.exp (ss := _ :: _) (l := [some (.obj a), some (.obj m), some (.bool late), some (.bool only), none, none, none, none]) ?_
  repeat tb_rel
  intro f (hf : Fresh _ f)
  repeat tb_rel
  intro wd (hw : Fresh _ wd)
  repeat tb_rel
  have nfr : f ≠ wd := ne_base (o := .list []) hw (by tb_start)
  have g1 : ((own.put f (.list [])).put wd (.list [])) f = some (.list []) := by tb_start
  have g2 : ((own.put f (.list [])).put wd (.list [])) wd = some (.list []) := by tb_start
  have s0 : Sub own ((own.put f (.list [])).put wd (.list [])) := by top_raise0
  generalize (own.put f (.list [])).put wd (.list []) = o0 at g1 g2 s0 ⊢
  clear hw
  with_reducible refine TS.forI ?hs (TI.list ?_)
  case hs => (intro _ _; kernel_rfl)
  repeat tb_rel
  refine ⟨a, _, rfl, s0 _ _ ha, fun vs l o => ∃ (t acc : List Int) (b : Bool) (wd : Nat) (x y : Option V), vs = t.map V.int ∧ (∀ c ∈ t, c ∈ cs) ∧ (∀ c ∈ acc, c ∈ cs) ∧ acc ++ t.flatMap (mapD T late only) = text.flatMap (mapD T late only) ∧ (b || t.any (badD T late only)) = text.any (badD T late only) ∧
    l = [some (.obj a), some (.obj m), some (.bool late), some (.bool only), some (.obj f), some (.obj wd), x, y] ∧ o f = some (.list (acc.map V.int)) ∧ o wd = some (.list (wordsV b)) ∧ f ≠ wd ∧ Sub own o,
    (exI6 text [] false wd none none ⟨rfl, ht, all_nil, rfl, rfl, rfl, g1, g2, nfr, s0⟩), ?_, ?_, ?_⟩
  · intro vs l o ha_; (with_reducible refine exE6 ha_ fun t acc b wd x y hb_ => aE10 hb_ fun _ _ _ _ _ _ _ _ _ s => ?_); clear ha_ hb_; exact s _ _ ha
  · intro l o ha_; (with_reducible refine exE6 ha_ fun t acc b wd x y hb_ => aE10 hb_ fun e1 e2 e3 e4 e5 q5_ e7 e8 e9 e10 => ?_); clear ha_ hb_; subst q5_
    obtain rfl : t = [] := List.map_eq_nil_iff.mp e1.symm
    rw [List.flatMap_nil, List.append_nil] at e4
    rw [List.any_nil, Bool.or_false] at e5
    repeat tb_rel
    refine tc_nfc hB (I.sub e10) K Pr e7 e3 (by rw [e4]; exact hz) fun o2 u s2 hu g => ?_
    repeat tb_rel
    refine h o2 u wd (e10.trans s2) ?_ ?_
    · rw [← e4]; exact g
    · rw [← e5]; exact s2 _ _ e8
  · intro v vs l o ha_; (with_reducible refine exE6 ha_ fun t acc b wd x y hb_ => aE10 hb_ fun e1 e2 e3 e4 e5 q5_ e7 e8 e9 e10 => ?_); clear ha_ hb_; subst q5_
    cases t with
    | nil => cases e1
    | cons c t =>
      cases e1
      have hc := e2 c (.head _)
      rw [List.flatMap_cons, ← List.append_assoc] at e4
      rw [List.any_cons, ← Bool.or_assoc] at e5
      have hl : (acc ++ mapD T late only c).length ≤ 30 := by
        have := congrArg List.length e4
        rw [List.length_append] at this; omega
      rw [List.length_append] at hl
      have hm : ∀ z ∈ acc ++ mapD T late only c, z ∈ cs := fun z hz => by
        rcases List.mem_append.mp hz with hz | hz
        · exact e3 z hz
        · exact mapD_mem K hc z hz
      repeat tb_rel
      refine tc_idmap hB (I.sub e10) K hc (fun hn => ?_) (fun xs hn o2 u s2 (hu : Fresh _ u) g => ?_)
      · have hd : mapD T late only c = [c] := by unfold mapD; rw [hn]; rfl
        have hb : badD T late only c = true := by unfold badD; rw [hn]; rfl
        rw [hd] at e4 hl hm
        rw [hb, Bool.or_true] at e5
        repeat tb_rel
        refine TS.iff ?_
        repeat tb_rel
        refine ⟨fun _ => ?_, (by first | exact tf | exact ft)⟩
        repeat tb_rel
        intro wd2 (hw2 : Fresh _ wd2)
        repeat tb_rel
        intro u (hu : Fresh _ u)
        repeat tb_rel
        have nw : f ≠ wd2 := ne_base hw2 e7
        have nwu : wd2 ≠ u := ne_base (o := .list (wordsV true)) hu (Own.put_self _ _ _)
        have fu : f ≠ u := ne_base (o := .list (acc.map V.int)) hu ((Own.put_ne _ _ nw).trans e7)
        refine ⟨.list (by tb_start), ?_⟩
        repeat tb_rel
        refine TN.extend (by tb_start) (by tb_start) (fits (by simp only [List.length_map, List.length_cons, List.length_nil]; omega)) ?_
        repeat tb_rel
        refine (exI6 t (acc ++ [c]) true wd2 _ _ ⟨rfl, fun z hz => e2 z (.tail _ hz), hm, e4, e5, rfl, ?_, (Own.put_ne _ _ nw.symm).trans ((Own.put_ne _ _ nwu).trans (Own.put_self _ _ _)), nw, Sub.put (Sub.alloc hu (Sub.alloc hw2 e10)) hf⟩)
        rw [List.map_append]; exact Own.put_self _ _ _
      · have hd : mapD T late only c = xs := by unfold mapD; rw [hn]; rfl
        have hb : badD T late only c = false := by unfold badD; rw [hn]; rfl
        rw [hd] at e4 hl hm
        rw [hb, Bool.or_false] at e5
        repeat tb_rel
        refine TS.iff ?_
        repeat tb_rel
        refine ⟨(by first | exact tf | exact ft), fun _ => ?_⟩
        repeat tb_rel
        refine ⟨.list (s2 _ _ e7), ?_⟩
        repeat tb_rel
        refine TN.extend (s2 _ _ e7) g (fits (by simp only [List.length_map]; omega)) ?_
        repeat tb_rel
        refine (exI6 t (acc ++ xs) b wd _ _ ⟨rfl, fun z hz => e2 z (.tail _ hz), hm, e4, e5, rfl, ?_, (Own.put_ne _ _ e9.symm).trans (s2 _ _ e8), e9, Sub.put (e10.trans s2) hf⟩)
        rw [List.map_append]; exact Own.put_self _ _ _
theorem TE.slice0 {e : Expr} {lo hi : Option Expr} {p1 pos : Pos} {Q : V → Own → Prop} (hs : ∀ o i, subscripted (.Slice lo hi Option.none p1) false o i = operate [i, o] (getItem o i))
    (h : TE prog w B d Γ e l own (fun x own₁ => TEo prog w B d Γ lo l own₁ (fun a own₂ => TEo prog w B d Γ hi l own₂ (fun b own₃ => ∃ o its vs pa pb, x = .obj o ∧ B.h₀.IsList o its ∧ (∀ h, VRs h vs its.toList) ∧ vs.length ≤ 1000 ∧ partOf a = some pa ∧ partOf b = some pb ∧ ∀ c, own₃ c = Option.none → Q (.obj c) (own₃.put c (.list (vpick vs pa pb))))))) :
    TE prog w B d Γ (.Subscript e (.Slice lo hi Option.none p1) pos) l own Q := by
  intro A env FA s N Q' E p
  refine Subscript_ (h A env FA s N _ E fun v x o1 s1 q1 r1 N1 S1 => wpAny_Slice (TEo.run q1 N1 _ E fun va xa o2 s2 q2 r2 N2 S2 => TEo.run q2 N2 _ E fun vb xb o3 s3 q3 r3 N3 S3 => wpAny_pure ?_))
  obtain ⟨o, its, vs, pa, pb, rfl, ⟨ob, ho, ho2⟩, hv, hz, ea, eb, q⟩ := q3
  simp only [VR] at r1; subst r1
  obtain ⟨N4, S4⟩ := N3.ext (tk := s3.toks) (Ext.push s3.heap { cls := .type "slice", data := .fields #[xa, xb, .none] })
  have e := N4.st.keep o _ ho
  have r := hv (s3.heap.push { cls := .type "slice", data := .fields #[xa, xb, .none] })
  have il : (s3.heap.push { cls := .type "slice", data := .fields #[xa, xb, .none] }).IsList o its := ⟨_, e, ho2⟩
  refine tail_any il.typeIs slot_list_getitem.lookup ?_ (hs _ _)
  refine wpAny_getItem_list_slice il (Heap.IsSliceOf.new ..) (partOf.is ea (r2.mono (N2.tups S3))) (partOf.is eb r3) .none (by simp) ?_ (Nat.le_trans (by rw [VRs.size r]; exact hz) size_1000)
  have X := Ext.push (s3.heap.push { cls := .type "slice", data := .fields #[xa, xb, .none] }) { cls := .type "list", data := .seq (slicePick its pa pb Option.none) }
  obtain ⟨N5, S5⟩ := N4.gain (tk := s3.toks) (o := .list (vpick vs pa pb)) X (top _) ⟨_, _, Heap.get?_push_size _ rfl, (r.mono X.tups).pick _ _⟩
  exact p _ _ _ _ (q _ (N4.fresh (top _))) rfl N5 ((((S1.trans S2).trans S3).trans S4).trans S5)
theorem vpick_all {vs : List V} (h : vs.length ≤ 63) : vpick vs none (some 63) = vs := by
  unfold vpick
  have : clipAt vs.length 63 = vs.length := by unfold clipAt; simp; omega
  simp [this]
noncomputable def yCell : PySem.Str := ⟨#[99, 101, 108, 108]⟩
noncomputable def G_deck_c : Fn := ⟨[(yCell, false)], [intS], true, none⟩
noncomputable def sCells : List Nat := [99, 101, 108, 108, 115]
noncomputable def sAt : List Nat := [97, 116]
structure IsDeck (own : Own) (dk c : Nat) (cells : List Int) (at' : Nat) : Prop where
  ex : own dk = some (.dicts [(sCells, .obj c), (sAt, .int at')]) ∧ own c = some (.list (cells.map V.int))
theorem tc_deck (hB : B.K = KK P) {o : Nat} {its : Array Value} {is : List Int} {Q : V → Own → Prop} (ho : B.h₀.IsList o its) (hv : ∀ h, VRs h (is.map V.int) its.toList) (hz : is.length ≤ 63)
    (h : ∀ own' dk c cells, Sub own own' → cells.length ≤ 63 → Fresh own dk → IsDeck own' dk c cells 0 → Q (.obj dk) own') : TC prog w B (d + 1) (.ref 347) [.obj o] own Q := by
  refine TC.deff (dv := []) (D_law_deck hB) F_law_deck rfl rfl (fun _ => rfl) (by intro q h; cases h) ?_
  intro Kr hK
  refine TS.exp (ss := _ :: _) (l := [some (.obj o)]) ?_
  with_reducible refine TS.retf ?_
  with_reducible refine TE.dicts ?h1 ?h2 ?h3 ?h4 ?_
  case h1 => kernel_rfl
  case h2 => kernel_rfl
  case h3 => exact List.cons_ne_nil _ _
  case h4 => exact Nat.le_of_ble_eq_true (by kernel_rfl)
  intro f (hf : Fresh _ f)
  repeat tb_rel
  with_reducible refine TE.compI G_deck_c [none] ?hs ?hk (TI.list ?_)
  case hs => (intro _ _; kernel_rfl)
  case hk => kernel_rfl
  with_reducible refine TE.slice0 ?hs ?_
  case hs => exact fun _ _ => rfl
  repeat tb_rel
  refine ⟨o, its, _, none, some 63, rfl, ho, hv, mlen (Nat.le_trans (by assumption) (by decide)), rfl, rfl, fun c (hc : Fresh _ c) => ?_⟩
  rw [vpick_all (by rw [List.length_map]; exact hz)]
  refine ⟨c, _, rfl, Own.put_self _ _ _, fun a (ha : Fresh _ a) => ?_⟩
  have naf : a ≠ f := Ne.symm (ne_base (o := .dicts []) ha (by tb_start))
  have nca : c ≠ a := ne_base (o := .list (is.map V.int)) ha (by tb_start)
  have fa : Fresh own a := by top_name
  refine ⟨fun vs l o => ∃ (t acc : List Int) (x : Option V), vs = t.map V.int ∧ acc.length + t.length ≤ 63 ∧ l = [x] ∧ o a = some (.list (acc.map V.int)) ∧ o c = some (.list (is.map V.int)) ∧ o f = some (.dicts []) ∧ Sub own o, (exI3 is [] none ⟨rfl, by simpa using hz, rfl, Own.put_self _ _ _, by tb_start, by tb_start, ?_⟩), ?_, ?_, ?_⟩
  · exact Sub.alloc ha (Sub.alloc hc (Sub.alloc hf .refl))
  · intro vs l o ha_; (with_reducible refine exE3 ha_ fun t acc x hb_ => aE6 hb_ fun _ _ _ _ g _ => ?_); clear ha_ hb_; exact g
  · intro l o ha_; (with_reducible refine exE3 ha_ fun t acc x hb_ => aE7 hb_ fun e1 e2 q2_ e4 e5 e6 e7 => ?_); clear ha_ hb_; subst q2_
    obtain rfl : t = [] := List.map_eq_nil_iff.mp e1.symm
    repeat tb_rel
    refine ⟨[(sCells, .obj a), (sAt, .int 0)], rfl, e6, ?_⟩
    rw [show [(sCells, V.obj a), (sAt, .int 0)].foldl (fun acc kv => kput acc kv.1 kv.2) [] = [(sCells, V.obj a), (sAt, .int 0)] from rfl]
    exact hK.ret (h _ f a acc (Sub.put e7 hf) e2 hf ⟨⟨Own.put_self _ _ _, (Own.put_ne _ _ naf).trans e4⟩⟩)
  · intro v vs l o ha_; (with_reducible refine exE3 ha_ fun t acc x hb_ => aE7 hb_ fun e1 e2 q2_ e4 e5 e6 e7 => ?_); clear ha_ hb_; subst q2_
    cases t with
    | nil => cases e1
    | cons z t =>
      cases e1
      rw [List.length_cons] at e2
      repeat tb_rel
      refine TIfs.none ⟨(by first | exact tf | exact ft), fun _ => ?_⟩
      repeat tb_rel
      refine TN.int1 ?_
      repeat tb_rel
      refine ⟨_, e4, mlen (acc_le (by assumption) rfl), t, acc ++ [z.fmod 1000000007], _, rfl, acc_succ (by assumption), rfl, ?_, (Own.put_ne _ _ nca).trans e5, (Own.put_ne _ _ naf.symm).trans e6, Sub.put e7 fa⟩
      rw [List.map_append]; exact Own.put_self _ _ _
theorem IsDeck.sub {o o' : Own} {dk c : Nat} {cells : List Int} {n : Nat} (h : IsDeck o dk c cells n) (s : Sub o o') : IsDeck o' dk c cells n :=
  ⟨s _ _ h.ex.1, s _ _ h.ex.2⟩
theorem fmod_in {a b : Int} (h : 0 < b) : 0 ≤ a.fmod b ∧ a.fmod b < b := ⟨Int.fmod_nonneg_of_pos a h, Int.fmod_lt_of_pos a h⟩
theorem tc_draw (hB : B.K = KK P) {dk c n : Nat} {cells : List Int} {bl : Int} {Q : V → Own → Prop} (I : IsDeck own dk c cells n) (hz : cells.length ≤ 63) (hn : n ≤ 1000) (hb : 0 < bl)
    (h : ∀ own' v, 0 ≤ v → v < bl → IsDeck own' dk c cells (n + 1) → (∀ b o, own b = some o → b ≠ dk → own' b = some o) → (∀ b, own' b = none → own b = none) → Q (.int v) own') : TC prog w B (d + 1) (.ref 354) [.obj dk, .int bl] own Q := by
  obtain ⟨h1, h2⟩ := I.ex
  have ncd : c ≠ dk := fun q => by rw [q, h1] at h2; cases h2
  refine TC.deff (dv := []) (D_law_draw hB) F_law_draw rfl rfl (fun _ => rfl) (by intro q h; cases h) ?_
  intro Kr hK
  refine TS.exp (ss := _ :: _) (l := [some (.obj dk), some (.int bl), none, none]) ?_
  repeat tb_rel
  refine T2.item_dicts (fun _ _ => rfl) h1 (v := .int n) (by kernel_rfl) ?_
  repeat tb_rel
  refine T2.item_dicts (fun _ _ => rfl) h1 (v := .obj c) (by kernel_rfl) ?_
  repeat tb_rel
  refine TSI.dicts h1 (Nat.le_of_ble_eq_true rfl) ?_
  change TS prog w B d _ _ _ (own.put dk (.dicts [(sCells, V.obj c), (sAt, .int ((n + 1 : Nat) : Int))])) _
  have D : IsDeck (own.put dk (.dicts [(sCells, V.obj c), (sAt, .int ((n + 1 : Nat) : Int))])) dk c cells (n + 1) := ⟨⟨Own.put_self _ _ _, (Own.put_ne _ _ ncd).trans h2⟩⟩
  have fr : ∀ b o, own b = some o → b ≠ dk → (own.put dk (.dicts [(sCells, V.obj c), (sAt, .int ((n + 1 : Nat) : Int))])) b = some o := fun b o e nb => (Own.put_ne _ _ nb).trans e
  have fn : ∀ b, (own.put dk (.dicts [(sCells, V.obj c), (sAt, .int ((n + 1 : Nat) : Int))])) b = none → own b = none := fun b e => by
    by_cases q : b = dk
    · rw [q, Own.put_self] at e; cases e
    · rw [← e]; exact (Own.put_ne _ _ q).symm
  have g2 : (own.put dk (.dicts [(sCells, V.obj c), (sAt, .int ((n + 1 : Nat) : Int))])) c = some (.list (cells.map V.int)) := (Own.put_ne _ _ ncd).trans h2
  generalize own.put dk (.dicts [(sCells, V.obj c), (sAt, .int ((n + 1 : Nat) : Int))]) = o1 at D fr fn g2 ⊢
  repeat tb_rel
  refine TS.iff ?_
  repeat tb_rel
  refine TN.len_list g2 (mlen4 (Nat.le_trans (by assumption) (by decide))) ?_
  repeat tb_rel
  rw [List.length_map]
  refine ⟨fun q => ?_, fun q => ?_⟩
  · have q := of_decide_eq_true q
    repeat tb_rel
    refine T2.item_list (fun _ _ => rfl) g2 (by omega) (by omega) (v := .int (cells.getD n 0)) (getV (by omega)) ?_
    repeat tb_rel
    refine T2.mod (by omega) ?_
    repeat tb_rel
    exact h _ _ (fmod_in hb).1 (fmod_in hb).2 D fr fn
  have q := of_decide_eq_false q
  have m5 : ∀ k : Int, IntMulOk k 5 := fun k => .of_right (intBits_le_64 (by decide) (by decide))
  repeat tb_rel
  refine TS.iff ?_
  repeat tb_rel
  intro e (he : Fresh _ e)
  repeat tb_rel
  have g3 : (o1.put e (.list [])) c = some (.list (cells.map V.int)) := by tb_start
  refine T2.eq (.list g3 (RdAll.ints _ cells)) (.list (Own.put_self _ _ _) .nil) (canLay_ints cells) rfl (Nat.le_trans (Nat.min_le_right _ _) (by decide)) ?_
  replace D : IsDeck (o1.put e (.list [])) dk c cells (n + 1) := D.sub (Sub.alloc he .refl)
  replace fr : ∀ b o, own b = some o → b ≠ dk → (o1.put e (.list [])) b = some o := fun b o x y => Sub.alloc he .refl _ _ (fr b o x y)
  replace fn : ∀ b, (o1.put e (.list [])) b = none → own b = none := fun b x => fn b (Gr.none x (Gr.put .refl))
  generalize o1.put e (.list []) = o2 at D fr fn g3 ⊢
  cases cells with
  | nil =>
    repeat tb_rel
    refine ⟨fun _ => ?_, (by first | exact tf | exact ft)⟩
    repeat tb_rel
    refine T2.mul (m5 _) ?_
    repeat tb_rel
    refine T2.mod (by omega) ?_
    repeat tb_rel
    exact h _ _ (fmod_in hb).1 (fmod_in hb).2 D fr fn
  | cons z t =>
    repeat tb_rel
    refine ⟨(by first | exact tf | exact ft), fun _ => ?_⟩
    repeat tb_rel
    refine TN.len_list g3 (mlen4 (Nat.le_trans (by assumption) (by decide))) ?_
    repeat tb_rel
    rw [List.length_map]
    have lp : (0 : Int) < (((z :: t).length : Nat) : Int) := by rw [List.length_cons]; omega
    generalize hcl : z :: t = cl at *
    refine T2.mod (by omega) ?_
    repeat tb_rel
    have fi := fmod_in (a := (n : Int)) lp
    refine T2.item_list (fun _ _ => rfl) g3 fi.1 (by omega) (v := .int (cl.getD ((n : Int).fmod cl.length).toNat 0)) (getV (by omega)) ?_
    repeat tb_rel
    refine T2.fdiv (by omega) (by omega) ?_
    repeat tb_rel
    refine T2.mul (m5 _) ?_
    repeat tb_rel
    refine T2.mod (by omega) ?_
    repeat tb_rel
    exact h _ _ (fmod_in hb).1 (fmod_in hb).2 D fr fn
noncomputable def stT : List (Int × (Str × List Int)) := [(97, wValid, []), (98, wValid, []), (115, wValid, []), (65, wMapped, [97]), (66, wMapped, [97, 769]), (173, wIgnored, []), (7838, wMapped, [223]), (223, wDev, [115, 115]), (8205, wDev, []),
  (8226, wDis, []), (95, wDV, []), (8800, wDM, [61, 803]), (769, wValid, []), (803, wValid, []), (225, wValid, []), (833, wMapped, [769])]
noncomputable def stV (q : Str × List Int) : V := .tup [.str q.1.cps.toList, .tup (q.2.map V.int)]
theorem statV_eq : statV = stT.map fun q => (q.1, stV q.2) := by rfl
theorem kget_stV (c : Int) : ∀ t : List (Int × (Str × List Int)), kget (t.map fun q => (q.1, stV q.2)) c = (t.lookup c).map stV
  | [] => rfl
  | q :: t => by
    have ih := kget_stV c t
    unfold kget at ih ⊢
    rw [List.map_cons, List.lookup_cons, List.lookup_cons]
    split
    · rfl
    · exact ih
theorem kget_stat (c : Int) (d : Str × List Int) : (kget statV c).getD (stV d) = stV ((stT.lookup c).getD d) := by
  rw [statV_eq, kget_stV]
  cases stT.lookup c <;> rfl
noncomputable def T0 (c : Int) : Str × List Int := (stT.lookup c).getD (wDis, [])
noncomputable def T0e (c : Int) : Str × List Int := (stT.lookup c).getD (⟨#[]⟩, [])
noncomputable def wDisU : Str := ⟨#[100, 105, 115, 97, 108, 108, 111, 119, 101, 100, 95]⟩
noncomputable def stOk (q : Str × List Int) : Bool := (PyData.str q.1).canLay0 && (PyData.str (Txt.slice q.1 none (some 11))).canLay0 && Nat.ble q.1.cps.toList.length 1000 && Nat.ble q.2.length 2
theorem stT_ok : ∀ q ∈ stT, stOk q.2 = true := by decide +kernel
theorem lookup_ok (c : Int) (d : Str × List Int) (h : stOk d = true) : stOk ((stT.lookup c).getD d) = true := by
  have : ∀ t : List (Int × (Str × List Int)), (∀ q ∈ t, stOk q.2 = true) → stOk ((t.lookup c).getD d) = true := by
    intro t
    induction t with
    | nil => intro _; exact h
    | cons q t ih =>
      intro ht
      rw [List.lookup_cons]
      split
      · exact ht q (.head _)
      · exact ih fun q hq => ht q (.tail _ hq)
  exact this _ stT_ok
theorem stOk_and {q : Str × List Int} (h : stOk q = true) : (PyData.str q.1).canLay0 = true ∧ (PyData.str (Txt.slice q.1 none (some 11))).canLay0 = true ∧ q.1.cps.toList.length ≤ 1000 ∧ q.2.length ≤ 2 := by
  unfold stOk at h
  rw [Bool.and_eq_true, Bool.and_eq_true, Bool.and_eq_true] at h
  exact ⟨h.1.1.1, h.1.1.2, Nat.le_of_ble_eq_true h.1.2, Nat.le_of_ble_eq_true h.2⟩
noncomputable def lawFar (late : Bool) (x : Int) : List Int := if late = true ∧ (T0e x).1 = wDev then (T0 x).2 else [x]
noncomputable def lawOne (c : Int) (late only : Bool) : Option (List Int) :=
  if (T0 c).1 = wDis ∨ (only = true ∧ Txt.slice (T0 c).1 none (some 11) = wDisU) then none
  else if (T0 c).1 = wDev then some (if late then (T0 c).2 else [c])
  else if (T0 c).1 = wValid ∨ (T0 c).1 = wDV then some [c]
  else some ((T0 c).2.flatMap (lawFar late))
theorem TN.get_stat {a ep : Nat} {k : Int} {v : V} {d : Str × List Int} {Q : V → Own → Prop} (e : v = stV d) (ho : own a = some (.dicti ep statV)) (h : Q (.tup [.str ((stT.lookup k).getD d).1.cps.toList, .tup (((stT.lookup k).getD d).2.map V.int)]) own) : TN prog w B (fun xs => PySem.call (.builtin "dict.get") xs) [.obj a, .int k, v] own Q := by
  subst e
  refine TN.get_dicti ho ?_
  rw [kget_stat]; exact h
theorem kget_key (c : Int) (h : ((stT.lookup c).getD (⟨#[]⟩, [])).1 = wDev) : kget statV c = some (.tup [.str (T0 c).1.cps.toList, .tup ((T0 c).2.map V.int)]) := by
  rw [statV_eq, kget_stV]
  unfold T0
  cases e : stT.lookup c with
  | none => rw [e] at h; exact absurd h (by decide +kernel)
  | some q => rfl
theorem tc_lawone (hB : B.K = KK P) {c : Int} {late only : Bool} {Q : V → Own → Prop}
    (h0 : lawOne c late only = none → ∀ own', Sub own own' → Q .none own') (h1 : ∀ xs, lawOne c late only = some xs → ∀ own' a, Sub own own' → own' a = some (.list (xs.map V.int)) → Q (.obj a) own') : TC prog w B (d + 3) (.ref 368) [.int c, .bool late, .bool only] own Q := by
  obtain ⟨p1, p2, p3, p4⟩ := stOk_and (lookup_ok c (wDis, []) (by decide +kernel))
  refine TC.deff (dv := []) (D_law_one hB) F_law_one rfl rfl (fun _ => rfl) (by intro q h; cases h) ?_
  intro Kr hK
  refine TS.exp (ss := _ :: _) (l := [some (.int c), some (.bool late), some (.bool only), none, none, none, none, none]) ?_
  with_reducible refine TS.assigntf (fun _ => rfl) (fun _ _ _ => rfl) ?_
  top_caught0
  repeat tb_rel
  refine tc_statuses hB fun o1 f1 e1 s1 (hf1 : Fresh _ f1) g1 => ?_
  repeat tb_rel
  refine ⟨.dicti g1, ?_⟩
  repeat tb_rel
  refine TN.get_dicti g1 ?_
  change TG prog w B (d + 2) _ _ ((kget statV c).getD (stV (wDis, []))) _ _ _
  rw [kget_stat]
  change TG prog w B (d + 2) _ _ (V.tup [.str (T0 c).1.cps.toList, .tup ((T0 c).2.map V.int)]) _ _ _
  change (PyData.str (T0 c).1).canLay0 = true at p1
  change (PyData.str (Txt.slice (T0 c).1 none (some 11))).canLay0 = true at p2
  change (T0 c).1.cps.toList.length ≤ 1000 at p3
  change (T0 c).2.length ≤ 2 at p4
  unfold lawOne at h0 h1
  generalize T0 c = st at p1 p2 p3 p4 h0 h1 ⊢
  obtain ⟨st, os⟩ := st
  repeat tb_rel
  refine TS.iff ?_
  refine TT.mono (Q := fun b o' => b = decide (st = wDis ∨ (only = true ∧ Txt.slice st none (some 11) = wDisU)) ∧ o' = o1) ?_ fun b o' ⟨eb, eo⟩ => ?_
  · repeat tb_rel
    refine T2.eqs (y := wDis) p1 (by decide +kernel) rfl ?_
    repeat tb_rel
    refine ⟨fun q => ?_, fun q => ?_⟩
    · exact ⟨(decide_eq_true (.inl (of_decide_eq_true q))).symm, rfl⟩
    have q := of_decide_eq_false q
    refine TT.orf ?_
    refine TT.andf ?_
    repeat tb_rel
    refine ⟨fun qo => ?_, fun qo => ?_⟩
    · refine TT.andf ?_
      with_reducible refine TT.cmp ?hm ?_
      case hm => kernel_rfl
      with_reducible refine TE.slice_str ?hs ?_
      case hs => exact fun _ _ => rfl
      repeat tb_rel
      refine ⟨_, _, rfl, rfl, p3, ?_⟩
      change TE prog w B (d + 2) _ _ _ _ _
      repeat tb_rel
      refine T2.eqs (x := Txt.slice st none (some 11)) (y := wDisU) p2 (by decide +kernel) rfl ?_
      repeat tb_rel
      refine ⟨fun q2 => ?_, fun q2 => ?_⟩
      · repeat tb_rel
        refine ⟨fun _ => ?_, (by first | exact tf | exact ft)⟩
        exact ⟨(decide_eq_true (.inr ⟨qo, of_decide_eq_true q2⟩)).symm, rfl⟩
      · refine ⟨(by first | exact tf | exact ft), fun _ => ?_⟩
        repeat tb_rel
        exact ⟨(decide_eq_false fun h => h.elim q fun h => of_decide_eq_false q2 h.2).symm, rfl⟩
    · refine ⟨(by first | exact tf | exact ft), fun _ => ?_⟩
      repeat tb_rel
      exact ⟨(decide_eq_false fun h => h.elim q fun h => by rw [qo] at h; exact nomatch h.1).symm, rfl⟩
  subst eb eo
  refine ⟨fun q => ?_, fun q => ?_⟩
  · rw [if_pos (of_decide_eq_true q)] at h0
    repeat tb_rel
    exact h0 rfl _ s1
  rw [if_neg (of_decide_eq_false q)] at h0 h1
  repeat tb_rel
  refine TS.iff ?_
  repeat tb_rel
  refine T2.eqs (y := wDev) p1 (by decide +kernel) rfl ?_
  repeat tb_rel
  refine ⟨fun e => ?_, fun e => ?_⟩
  · rw [if_pos (of_decide_eq_true e)] at h1
    repeat tb_rel
    cases late with
    | true =>
      refine ⟨fun _ => ?_, (by first | exact tf | exact ft)⟩
      repeat tb_rel
      refine TN.list_tup (ints_len p4 (by decide)) fun a (ha : Fresh _ a) => ?_
      exact hK.ret (h1 _ rfl _ a (Sub.alloc ha s1) (Own.put_self _ _ _))
    | false =>
      refine ⟨(by first | exact tf | exact ft), fun _ => ?_⟩
      repeat tb_rel
      intro a (ha : Fresh _ a)
      exact hK.ret (h1 _ rfl _ a (Sub.alloc ha s1) (Own.put_self _ _ _))
  rw [if_neg (of_decide_eq_false e)] at h0 h1
  repeat tb_rel
  refine TS.iff ?_
  repeat tb_rel
  have ein : ([PyData.str wValid, .str wDV].any fun y => PyData.eqv y (.str st)) = decide (st = wValid ∨ st = wDV) := by
    show (decide (wValid = st) || (decide (wDV = st) || false)) = _
    by_cases a : st = wValid
    · subst a; simp
    · by_cases b : st = wDV
      · subst b; simp
      · rw [decide_eq_false (Ne.symm a), decide_eq_false (Ne.symm b), decide_eq_false (fun h => h.elim a b)]; rfl
  refine T2.in_tupf (rd_of (d := .str st) rfl) (ds := [.str wValid, .str wDV]) (.cons (rd_of (d := .str wValid) rfl) (.cons (rd_of (d := .str wDV) rfl) .nil)) p1 (by decide +kernel) (Nat.zero_le _) ein ?_
  repeat tb_rel
  refine ⟨fun e => ?_, fun e => ?_⟩
  · rw [if_pos (of_decide_eq_true e)] at h1
    repeat tb_rel
    intro a (ha : Fresh _ a)
    exact hK.ret (h1 _ rfl _ a (Sub.alloc ha s1) (Own.put_self _ _ _))
  rw [if_neg (of_decide_eq_false e)] at h0 h1
  clear h0
  repeat tb_rel
  intro f (hf : Fresh _ f)
  repeat tb_rel
  have h1 := h1 _ rfl
  change os.length ≤ 2 at p4
  change ∀ own' a, Sub own own' → own' a = some (.list ((os.flatMap (lawFar late)).map V.int)) → Q (.obj a) own' at h1
  have s2 : Sub own (o'.put f (.list [])) := Sub.alloc hf s1
  have g2 : (o'.put f (.list [])) f = some (.list []) := Own.put_self _ _ _
  have f0 : Fresh own f := Sub.none hf s1
  generalize o'.put f (.list []) = o2 at s2 g2 ⊢
  with_reducible refine TS.forI ?hs (TI.tup ?_)
  case hs => (intro _ _; kernel_rfl)
  repeat tb_rel
  refine ⟨_, rfl, fun vs l o => ∃ (r acc : List Int) (x y : Option V), vs = r.map V.int ∧ acc.length + 2 * r.length ≤ 4 ∧ acc ++ r.flatMap (lawFar late) = os.flatMap (lawFar late) ∧
    l = [some (.int c), some (.bool late), some (.bool only), some (.str st.cps.toList), some (.tup (os.map V.int)), some (.obj f), x, y] ∧ o f = some (.list (acc.map V.int)) ∧ Sub own o,
    (exI4 os [] none none ⟨rfl, by simp; omega, rfl, rfl, g2, s2⟩), fun _ _ _ _ => trivial, ?_, ?_⟩
  · intro l o ha_; (with_reducible refine exE4 ha_ fun r acc x y hb_ => aE6 hb_ fun x1 x2 x3 q3_ x5 x6 => ?_); clear ha_ hb_; subst q3_
    obtain rfl : r = [] := List.map_eq_nil_iff.mp x1.symm
    rw [List.flatMap_nil, List.append_nil] at x3
    repeat tb_rel
    refine h1 o f x6 ?_
    rw [← x3]; exact x5
  · intro v vs l o ha_; (with_reducible refine exE4 ha_ fun r acc x y hb_ => aE6 hb_ fun x1 x2 x3 q3_ x5 x6 => ?_); clear ha_ hb_; subst q3_
    cases r with
    | nil => cases x1
    | cons z r =>
      cases x1
      rw [List.flatMap_cons, ← List.append_assoc] at x3
      rw [List.length_cons] at x2
      obtain ⟨z1, z2, z3, z4⟩ := stOk_and (lookup_ok z (⟨#[]⟩, []) (by decide +kernel))
      obtain ⟨w1, w2, w3, w4⟩ := stOk_and (lookup_ok z (wDis, []) (by decide +kernel))
      repeat tb_rel
      refine TE.mono (Q := fun v o2 => v = .bool (decide (late = true ∧ (T0e z).1 = wDev)) ∧ Sub o o2) ?_ fun v o3 ⟨ev, s3⟩ => ?_
      · refine TE.andb ?_
        repeat tb_rel
        refine ⟨_, rfl, fun q => ⟨by rw [decide_eq_false fun h => by rw [q] at h; exact nomatch h.1], .refl⟩, fun q => ?_⟩
        repeat tb_rel
        top_caught0
        repeat tb_rel
        refine tc_statuses hB fun o4 f4 e4 s4 (hf4 : Fresh _ f4) g4 => ?_
        repeat tb_rel
        refine ⟨.dicti g4, ?_⟩
        repeat tb_rel
        refine TN.get_stat (d := (⟨#[]⟩, [])) rfl g4 ?_
        repeat tb_rel
        refine T2.eqs (y := wDev) z1 (by decide +kernel) rfl ?_
        refine ⟨?_, s4⟩
        change V.bool (decide ((T0e z).1 = wDev)) = _
        simp [q]
      subst ev
      repeat tb_rel
      refine ⟨.list (s3 _ _ x5), ?_⟩
      repeat tb_rel
      unfold lawFar at x3
      refine ⟨fun q => ?_, fun q => ?_⟩
      · have q := of_decide_eq_true q
        rw [if_pos q] at x3
        repeat tb_rel
        refine tc_statuses hB fun o4 f4 e4 s4 (hf4 : Fresh _ f4) g4 => ?_
        repeat tb_rel
        refine T2.item_dicti (fun _ _ => rfl) g4 (kget_key z q.2) ?_
        repeat tb_rel
        refine TN.list_tup (ints_len w4 (by decide)) fun a (ha : Fresh _ a) => ?_
        repeat tb_rel
        have nfa : f ≠ a := ne_base ha (s4 _ _ (s3 _ _ x5))
        change (T0 z).2.length ≤ 2 at w4
        refine TN.extend ((Own.put_ne _ _ nfa).trans (s4 _ _ (s3 _ _ x5))) (Own.put_self _ _ _) (fits (by simp only [List.length_map]; omega)) ?_
        repeat tb_rel
        rw [← List.map_append]
        exact (exI4 r (acc ++ (T0 z).2) _ _ ⟨rfl, by rw [List.length_append]; omega, x3, rfl, Own.put_self _ _ _, Sub.put (Sub.alloc ha ((x6.trans s3).trans s4)) f0⟩)
      · have q := of_decide_eq_false q
        rw [if_neg q] at x3
        repeat tb_rel
        intro a (ha : Fresh _ a)
        repeat tb_rel
        have nfa : f ≠ a := ne_base ha (s3 _ _ x5)
        refine TN.extend ((Own.put_ne _ _ nfa).trans (s3 _ _ x5)) (Own.put_self _ _ _) (fits (by simp only [List.length_map, List.length_cons, List.length_nil]; omega)) ?_
        repeat tb_rel
        refine (exI4 r (acc ++ [z]) _ _ ⟨rfl, by rw [List.length_append, List.length_singleton]; omega, x3, rfl, ?_, Sub.put (Sub.alloc ha (x6.trans s3)) f0⟩)
        rw [List.map_append]; exact Own.put_self _ _ _
noncomputable def lcc (c : Int) : Int := if c = 769 then 230 else if c = 803 then 220 else 0
theorem kget_cls (c : Int) : (kget clsV c).getD (.int 0) = .int (lcc c) := by
  unfold kget lcc clsV
  by_cases a : c = 769
  · subst a; rfl
  · by_cases b : c = 803
    · subst b; rfl
    · have e1 : (c == 769) = false := by simpa using a
      have e2 : (c == 803) = false := by simpa using b
      simp [List.lookup, e1, e2, a, b]
noncomputable def backN (own : Int) (found : List Int) : Nat → Nat
  | 0 => 0
  | n + 1 => if 0 < own ∧ own < lcc (found.getD n 0) then backN own found n else n + 1
theorem backN_le (own : Int) (found : List Int) : ∀ n, backN own found n ≤ n
  | 0 => Nat.le_refl _
  | n + 1 => by
    unfold backN
    split
    · exact Nat.le_succ_of_le (backN_le own found n)
    · exact Nat.le_refl _
noncomputable def lawIns (found : List Int) (c : Int) : List Int := found.take (backN (lcc c) found found.length) ++ c :: found.drop (backN (lcc c) found found.length)
noncomputable def lawOrd : List Int → List Int → List Int
  | found, [] => found
  | found, c :: t => lawOrd (lawIns found c) t
theorem lawIns_len (found : List Int) (c : Int) : (lawIns found c).length = found.length + 1 := by
  have := backN_le (lcc c) found found.length
  unfold lawIns
  rw [List.length_append, List.length_take, List.length_cons, List.length_drop]; omega
theorem lawOrd_len : ∀ (t found : List Int), (lawOrd found t).length = found.length + t.length
  | [], found => rfl
  | c :: t, found => by rw [lawOrd, lawOrd_len t, lawIns_len, List.length_cons]; omega
theorem TN.get_cls {a ep : Nat} {k : Int} {Q : V → Own → Prop} (ho : own a = some (.dicti ep clsV)) (h : Q (.int (lcc k)) own) : TN prog w B (fun xs => PySem.call (.builtin "dict.get") xs) [.obj a, .int k, .int 0] own Q := by
  refine TN.get_dicti ho ?_
  rw [kget_cls]; exact h
theorem tc_lawordered (hB : B.K = KK P) {a : Nat} {text : List Int} {Q : V → Own → Prop} (ha : own a = some (.list (text.map V.int))) (hz : text.length ≤ 60)
    (h : ∀ own' f, Sub own own' → Fresh own f → own' f = some (.list ((lawOrd [] text).map V.int)) → Q (.obj f) own') : TC prog w B (d + 3) (.ref 375) [.obj a] own Q := by
  refine TC.deff (dv := []) (D_law_ordered hB) F_law_ordered rfl rfl (fun _ => rfl) (by intro q h; cases h) ?_
  intro Kr hK
  refine TS.exp (ss := _ :: _) (l := [some (.obj a), none, none, none, none]) ?_
  repeat tb_rel
  intro f (hf : Fresh _ f)
  repeat tb_rel
  with_reducible refine TS.forI ?hs (TI.list ?_)
  case hs => (intro _ _; kernel_rfl)
  repeat tb_rel
  refine ⟨a, _, rfl, by tb_start, fun vs l o => ∃ (t fd : List Int) (x y z : Option V), vs = t.map V.int ∧ fd.length + t.length ≤ 60 ∧ lawOrd fd t = lawOrd [] text ∧
    l = [some (.obj a), some (.obj f), x, y, z] ∧ o f = some (.list (fd.map V.int)) ∧ Sub own o,
    (exI5 text [] none none none ⟨rfl, by simpa using hz, rfl, rfl, Own.put_self _ _ _, Sub.alloc hf .refl⟩), ?_, ?_, ?_⟩
  · intro vs l o ha_; (with_reducible refine exE5 ha_ fun t fd x y z hb_ => aE6 hb_ fun _ _ _ _ _ s => ?_); clear ha_ hb_; exact s _ _ ha
  · intro l o ha_; (with_reducible refine exE5 ha_ fun t fd x y z hb_ => aE6 hb_ fun e1 e2 e3 q3_ e5 e6 => ?_); clear ha_ hb_; subst q3_
    obtain rfl : t = [] := List.map_eq_nil_iff.mp e1.symm
    rw [lawOrd] at e3
    repeat tb_rel
    refine h o f e6 hf ?_
    rw [← e3]; exact e5
  · intro v vs l o ha_; (with_reducible refine exE5 ha_ fun t fd x y z hb_ => aE6 hb_ fun e1 e2 e3 q3_ e5 e6 => ?_); clear ha_ hb_; subst q3_
    cases t with
    | nil => cases e1
    | cons c t =>
      cases e1
      rw [List.length_cons] at e2
      have hl : (fd.map V.int).length ≤ 4000 := by rw [List.length_map]; omega
      repeat tb_rel
      refine TN.len_list e5 (fits hl) ?_
      repeat tb_rel
      top_caught0
      repeat tb_rel
      refine tc_classes hB fun o1 f1 ep1 s1 (hf1 : Fresh _ f1) g1 => ?_
      repeat tb_rel
      refine ⟨.dicti g1, ?_⟩
      repeat tb_rel
      refine TN.get_cls g1 ?_
      repeat tb_rel
      rw [List.length_map]
      refine TS.conss (TX.whilef (fun k l o => l = [some (.obj a), some (.obj f), some (.int c), some (.int k), some (.int (lcc c))] ∧ backN (lcc c) fd k = backN (lcc c) fd fd.length ∧ k ≤ fd.length ∧ o f = some (.list (fd.map V.int)) ∧ Sub own o) (fun k l o2 hI => ?_) fd.length ⟨rfl, rfl, Nat.le_refl _, s1 _ _ e5, e6.trans s1⟩)
      obtain ⟨rfl, h2, h3, h4, h5⟩ := hI
      refine TT.mono (Q := fun b o' => b = decide (0 < lcc c ∧ 0 < k ∧ lcc c < lcc (fd.getD (k - 1) 0)) ∧ Sub o2 o') ?_ fun b o' ⟨eb, s2⟩ => ?_
      · refine TT.andf ?_
        repeat tb_rel
        refine ⟨fun q1 => ?_, fun q1 => ⟨(decide_eq_false fun q => of_decide_eq_false q1 q.1).symm, .refl⟩⟩
        have q1 := of_decide_eq_true q1
        refine TT.andf ?_
        repeat tb_rel
        refine ⟨fun q2 => ?_, fun q2 => ⟨(decide_eq_false fun q => of_decide_eq_false q2 (by omega)).symm, .refl⟩⟩
        have q2 : 0 < k := by have := of_decide_eq_true q2; omega
        refine TT.andf ?_
        with_reducible refine TT.cmp ?hm ?_
        case hm => kernel_rfl
        top_caught0
        repeat tb_rel
        refine tc_classes hB fun o3 f3 ep3 s3 (hf3 : Fresh _ f3) g3 => ?_
        repeat tb_rel
        refine ⟨.dicti g3, ?_⟩
        repeat tb_rel
        refine T2.item_list (fun _ _ => rfl) (s3 _ _ h4) (by omega) (by omega) (v := .int (fd.getD (k - 1) 0)) (by rw [show ((k : Int) - 1).toNat = k - 1 by omega]; exact getV (by omega)) ?_
        repeat tb_rel
        refine TN.get_cls g3 ?_
        repeat tb_rel
        refine ⟨fun q3 => ?_, fun q3 => ?_⟩
        · repeat tb_rel
          exact ⟨(decide_eq_true ⟨q1, q2, of_decide_eq_true q3⟩).symm, s3⟩
        · exact ⟨(decide_eq_false fun q => of_decide_eq_false q3 q.2.2).symm, s3⟩
      refine ⟨fun q => ?_, fun q => ?_⟩
      · rw [q] at eb
        have nq := of_decide_eq_false eb.symm
        have ek : k = backN (lcc c) fd fd.length := by
          rw [← h2]
          cases k with
          | zero => rfl
          | succ k => rw [backN, if_neg fun q => nq ⟨q.1, Nat.succ_pos _, q.2⟩]
        repeat tb_rel
        refine ⟨.list (s2 _ _ h4), ?_⟩
        repeat tb_rel
        refine TN.insert (s2 _ _ h4) (by rw [List.length_map]; omega) (by omega) (by rw [List.length_map]; omega) ?_
        repeat tb_rel
        have e7 : (o'.put f (.list ((fd.map V.int).take (k : Int).toNat ++ V.int c :: (fd.map V.int).drop (k : Int).toNat))) = o'.put f (.list ((lawIns fd c).map V.int)) := by
          unfold lawIns
          rw [← ek, List.map_append, List.map_cons, List.map_take, List.map_drop]; rfl
        rw [e7]
        exact (exI5 t (lawIns fd c) _ _ _ ⟨rfl, by rw [lawIns_len]; omega, e3, rfl, Own.put_self _ _ _, Sub.put (h5.trans s2) hf⟩)
      · rw [q] at eb
        obtain ⟨q1, q2, q3⟩ := of_decide_eq_true eb.symm
        repeat tb_rel
        obtain ⟨j, rfl⟩ : ∃ j, k = j + 1 := ⟨k - 1, by omega⟩
        rw [backN, if_pos ⟨q1, q3⟩] at h2
        refine ⟨j, Nat.lt_succ_self j, ?_, h2, by omega, s2 _ _ h4, h5.trans s2⟩
        show [some (V.obj a), some (.obj f), some (.int c), some (.int (((j + 1 : Nat) : Int) - 1)), some (.int (lcc c))] = _
        rw [show (((j + 1 : Nat) : Int) - 1) = j by omega]
noncomputable def ptV (pq : List (Int × Int × Int)) : List (Int × V) := pq.map fun q => (q.1, .tup [.int q.2.1, .int q.2.2])
theorem kget_pt (c : Int) : ∀ pq : List (Int × Int × Int), kget (ptV pq) c = (pq.lookup c).map fun q => V.tup [.int q.1, .int q.2]
  | [] => rfl
  | q :: t => by
    have ih := kget_pt c t
    unfold kget ptV at ih ⊢
    rw [List.map_cons, List.lookup_cons, List.lookup_cons]
    split
    · rfl
    · exact ih
noncomputable def ptOf (pq : List (Int × Int × Int)) (c : Int) : List Int := match pq.lookup c with
  | some q => [q.1, q.2]
  | none => [c]
theorem kget_ptOf (pq : List (Int × Int × Int)) (c : Int) : (kget (ptV pq) c).getD (.tup [.int c]) = .tup ((ptOf pq c).map V.int) := by
  rw [kget_pt]
  unfold ptOf
  cases pq.lookup c <;> rfl
theorem ptOf_len (pq : List (Int × Int × Int)) (c : Int) : (ptOf pq c).length ≤ 2 := by
  unfold ptOf; split <;> simp
noncomputable def lWhole (pq : List (Int × Int × Int)) (L : Option Int) (c : Int) : List Int := (pq.filter fun q => decide (L = some q.2.1 ∧ q.2.2 = c)).map (·.1)
noncomputable def lGo (pq : List (Int × Int × Int)) : List (Option Int × List Int) → Option Int → List Int → List Int → List (Option Int × List Int)
  | acc, L, M, [] => acc ++ [(L, M)]
  | acc, L, M, c :: t =>
    if lcc c = 0 then lGo pq (acc ++ [(L, M)]) (some c) [] t
    else if (M.any fun m => decide (lcc c ≤ lcc m)) = false ∧ lWhole pq L c ≠ [] then lGo pq acc (some ((lWhole pq L c).headD 0)) M t
    else lGo pq acc L (M ++ [c]) t
noncomputable def lComp (pq : List (Int × Int × Int)) (signs : List Int) : List Int := (lGo pq [] none [] (lawOrd [] (signs.flatMap (ptOf pq)))).flatMap fun g => g.1.toList ++ g.2
theorem TN.get_pt {a ep : Nat} {k : Int} {pq : List (Int × Int × Int)} {Q : V → Own → Prop} (ho : own a = some (.dicti ep (ptV pq))) (h : Q (.tup ((ptOf pq k).map V.int)) own) : TN prog w B (fun xs => PySem.call (.builtin "dict.get") xs) [.obj a, .int k, .tup [.int k]] own Q := by
  refine TN.get_dicti ho ?_
  rw [kget_ptOf]; exact h
theorem pt_len (pq : List (Int × Int × Int)) (s : List Int) : (s.flatMap (ptOf pq)).length ≤ 2 * s.length := by
  induction s with
  | nil => exact Nat.le_refl _
  | cons c t ih =>
    rw [List.flatMap_cons, List.length_append, List.length_cons]
    have := ptOf_len pq c
    omega
theorem swapped2c {Γ : Fn} {env : Env} {FA : List Nat} {x y : Str} {px py tp vp : Pos} {k k' : Nat} {v1 v2 : Expr} (hx : (x, true) ∈ Γ.loc) (hy : (y, true) ∈ Γ.loc) (h1 : noStar [v1, v2] = true) (c : Cx Γ env FA) :
    swappedStores [.Tuple [.Name x px, .Name y py] k tp] (.Tuple [v1, v2] k' vp) env = pure none := by
  have kx := c.loc _ _ hx
  have ky := c.loc _ _ hy
  simp only [if_true] at kx ky
  have hb := blockKind_of c
  have hn : ([Expr.Name x px, Expr.Name y py].filterMap fun
    | .Name id pos => if env.kindOf id == some .local && pos.line == px.line then some id else none
    | _ => none) = [] := by
    simp only [List.filterMap_cons, List.filterMap_nil, kx, ky]; rfl
  show (if (!([Expr.Name x px, Expr.Name y py].length == 2 || [Expr.Name x px, Expr.Name y py].length == 3) || [v1, v2].length != [Expr.Name x px, Expr.Name y py].length || env.blockKind != .function) = true then pure none
    else if ([v1, v2].any fun | .Starred .. => true | _ => false) = true then pure none else
    if (([Expr.Name x px, Expr.Name y py].filterMap fun
      | .Name id pos => if env.kindOf id == some .local && pos.line == px.line then some id else none
      | _ => none).length != [Expr.Name x px, Expr.Name y py].length || ([Expr.Name x px, Expr.Name y py].filterMap fun
      | .Name id pos => if env.kindOf id == some .local && pos.line == px.line then some id else none
      | _ => none).eraseDups.length != ([Expr.Name x px, Expr.Name y py].filterMap fun
      | .Name id pos => if env.kindOf id == some .local && pos.line == px.line then some id else none
      | _ => none).length) = true then pure none else _) = _
  rw [if_neg (by rw [hb]; exact Bool.false_ne_true)]
  refine (if_neg (noStar_sw h1)).trans ?_
  rw [hn]
  exact if_pos rfl
theorem swaps_true {Γ : Fn} {env : Env} {FA : List Nat} {y : Str} {py pos : Pos} {elt : Expr} {gens : List Comprehension} {sc : Scope} {sl : Nat} (hy : (y, false) ∈ Γ.loc) (hl : (py.line == pos.line) = true) (hn : (sc.names.any fun p => p.1 == y && (p.2 == NameKind.local || p.2 == NameKind.cell)) = false) (c : Cx Γ env FA) :
    swapsWith (.ListComp elt gens sc pos) (some (.Name y py)) sl env = pure true := by
  have ky := c.loc _ _ hy
  simp only [Bool.false_eq_true, if_false] at ky
  show (pure (env.blockKind == .function && env.kindOf y == some .local && py.line == pos.line && !(sc.names.any fun p => p.1 == y && (p.2 == NameKind.local || p.2 == NameKind.cell))) : Sem Bool) = pure true
  rw [blockKind_of c, ky, hl, hn]; rfl
noncomputable abbrev Gp := Nat × Nat × Option Int × List Int
noncomputable def GAt (o : Own) (q : Gp) : Prop := o q.1 = some (.list [optV q.2.2.1, .obj q.2.1]) ∧ o q.2.1 = some (.list (q.2.2.2.map V.int))
structure GrI (own₀ o : Own) (g : Nat) (init : List Gp) (last : Gp) : Prop where
  gs : o g = some (.list (init.map (fun q => V.obj q.1) ++ [.obj last.1]))
  ia : ∀ q ∈ init, GAt o q
  la : GAt o last
  n1 : last.1 ≠ last.2.1
  n2 : last.1 ≠ g
  n3 : last.2.1 ≠ g
  ni : ∀ q ∈ init, q.1 ≠ last.1 ∧ q.1 ≠ last.2.1 ∧ q.2.1 ≠ last.1 ∧ q.2.1 ≠ last.2.1
  ng : ∀ q ∈ init, q.1 ≠ g ∧ q.2.1 ≠ g
  fg : Fresh own₀ g
  fl : Fresh own₀ last.1
  fm : Fresh own₀ last.2.1
  sub : Sub own₀ o
theorem GrI.step {own₀ o o' : Own} {g : Nat} {init : List Gp} {last : Gp} (I : GrI own₀ o g init last) (s : Sub o o') : GrI own₀ o' g init last :=
  ⟨s _ _ I.gs, fun q hq => ⟨s _ _ (I.ia q hq).1, s _ _ (I.ia q hq).2⟩, ⟨s _ _ I.la.1, s _ _ I.la.2⟩, I.n1, I.n2, I.n3, I.ni, I.ng, I.fg, I.fl, I.fm, I.sub.trans s⟩
theorem GrI.letter {own₀ o : Own} {g lg lm : Nat} {init : List Gp} {L L' : Option Int} {M : List Int} (I : GrI own₀ o g init (lg, lm, L, M)) : GrI own₀ (o.put lg (.list [optV L', .obj lm])) g init (lg, lm, L', M) :=
  ⟨(Own.put_ne _ _ I.n2.symm).trans I.gs, fun q hq => ⟨(Own.put_ne _ _ (I.ni q hq).1).trans (I.ia q hq).1, (Own.put_ne _ _ (I.ni q hq).2.2.1).trans (I.ia q hq).2⟩, ⟨Own.put_self _ _ _, (Own.put_ne _ _ I.n1.symm).trans I.la.2⟩, I.n1, I.n2, I.n3, I.ni, I.ng, I.fg, I.fl, I.fm, Sub.put I.sub I.fl⟩
theorem GrI.mark {own₀ o : Own} {g lg lm : Nat} {init : List Gp} {L : Option Int} {M M' : List Int} (I : GrI own₀ o g init (lg, lm, L, M)) : GrI own₀ (o.put lm (.list (M'.map V.int))) g init (lg, lm, L, M') :=
  ⟨(Own.put_ne _ _ I.n3.symm).trans I.gs, fun q hq => ⟨(Own.put_ne _ _ (I.ni q hq).2.1).trans (I.ia q hq).1, (Own.put_ne _ _ (I.ni q hq).2.2.2).trans (I.ia q hq).2⟩, ⟨(Own.put_ne _ _ I.n1).trans I.la.1, Own.put_self _ _ _⟩, I.n1, I.n2, I.n3, I.ni, I.ng, I.fg, I.fl, I.fm, Sub.put I.sub I.fm⟩
theorem GrI.new {own₀ o o' : Own} {g lg lm : Nat} {init : List Gp} {last : Gp} {L : Option Int} (I : GrI own₀ o g init last) (s : Sub o o') (h1 : o lg = none) (h2 : o lm = none) (n : lg ≠ lm) (g1 : o' lg = some (.list [optV L, .obj lm])) (g2 : o' lm = some (.list [])) :
    GrI own₀ (o'.put g (.list ((init ++ [last]).map (fun q => V.obj q.1) ++ [.obj lg]))) g (init ++ [last]) (lg, lm, L, []) := by
  have I' := I.step s
  have ne : ∀ {b : Nat} {ob : O}, o b = some ob → b ≠ lg ∧ b ≠ lm := fun e => ⟨(fun q => by rw [q, h1] at e; cases e), (fun q => by rw [q, h2] at e; cases e)⟩
  have h3 := ne I.gs
  have all : ∀ q ∈ init ++ [last], (q.1 ≠ g ∧ q.2.1 ≠ g) ∧ GAt o' q ∧ (q.1 ≠ lg ∧ q.1 ≠ lm) ∧ (q.2.1 ≠ lg ∧ q.2.1 ≠ lm) := fun q hq => by
    rcases List.mem_append.mp hq with hq | hq
    · exact ⟨I.ng q hq, I'.ia q hq, ne (I.ia q hq).1, ne (I.ia q hq).2⟩
    · rw [List.mem_singleton.mp hq]
      exact ⟨⟨I.n2, I.n3⟩, I'.la, ne I.la.1, ne I.la.2⟩
  exact ⟨Own.put_self _ _ _, fun q hq => ⟨(Own.put_ne _ _ (all q hq).1.1).trans (all q hq).2.1.1, (Own.put_ne _ _ (all q hq).1.2).trans (all q hq).2.1.2⟩, ⟨(Own.put_ne _ _ h3.1.symm).trans g1, (Own.put_ne _ _ h3.2.symm).trans g2⟩, n, h3.1.symm, h3.2.symm,
    fun q hq => ⟨(all q hq).2.2.1.1, (all q hq).2.2.1.2, (all q hq).2.2.2.1, (all q hq).2.2.2.2⟩, fun q hq => (all q hq).1, I.fg, Sub.none h1 I.sub, Sub.none h2 I.sub, Sub.put I'.sub I.fg⟩
theorem kget_clsS (c : Int) : kget clsV c = if lcc c = 0 then none else some (.int (lcc c)) := by
  unfold kget lcc clsV
  by_cases a : c = 769
  · subst a; rfl
  · by_cases b : c = 803
    · subst b; rfl
    · have e1 : (c == 769) = false := by simpa using a
      have e2 : (c == 803) = false := by simpa using b
      simp [List.lookup, e1, e2, a, b]
theorem T2.in_cls {o ep : Nat} {k : Int} {Q : V → Own → Prop} (ho : own o = some (.dicti ep clsV)) (h : Q (.bool (decide (lcc k ≠ 0))) own) : T2 prog w B (compareOp .In) (.int k) (.obj o) own Q := by
  refine T2.in_dicti ho ?_
  rw [kget_clsS]
  by_cases e : lcc k = 0
  · rw [if_pos e]; rw [decide_eq_false (fun q => q e)] at h; exact h
  · rw [if_neg e]; rw [decide_eq_true e] at h; exact h
theorem lastV (init : List Gp) (a : Nat) : (init.map (fun q => V.obj q.1) ++ [.obj a])[((-1 : Int) + (init.map (fun q => V.obj q.1) ++ [V.obj a]).length).toNat]? = some (.obj a) := by
  rw [List.length_append, List.length_map, List.length_singleton, show ((-1 : Int) + ((init.length + 1 : Nat) : Int)).toNat = init.length by omega]
  rw [List.getElem?_append_right (by rw [List.length_map]; exact Nat.le_refl _), List.length_map, Nat.sub_self]; rfl
noncomputable def yOne : PySem.Str := ⟨#[111, 110, 101]⟩
noncomputable def G_free_c : Fn := ⟨[(yOne, false), (z152, true)], [z135], true, none⟩
noncomputable def G_whole_c : Fn := ⟨[(yOne, false), (z64, true), (z74, true), (z45, true)], [], true, none⟩
theorem T2.eq_pair {a b c : Int} {L : Option Int} {Q : V → Own → Prop} (h : Q (.bool (decide (L = some a ∧ b = c))) own) : T2 prog w B (compareOp .Eq) (.tup [.int a, .int b]) (.tup [optV L, .int c]) own Q := by
  cases L with
  | none =>
    refine T2.eq (da := .tuple [.int a, .int b]) (db := .tuple [.none, .int c]) (rd_of (d := .tuple [.int a, .int b]) rfl) (rd_of (d := .tuple [.none, .int c]) rfl) rfl rfl (Nat.le_of_ble_eq_true rfl) ?_
    rw [decide_eq_false (fun q => nomatch q.1)] at h
    exact h
  | some x =>
    refine T2.eq (da := .tuple [.int a, .int b]) (db := .tuple [.int x, .int c]) (rd_of (d := .tuple [.int a, .int b]) rfl) (rd_of (d := .tuple [.int x, .int c]) rfl) rfl rfl (Nat.le_of_ble_eq_true rfl) ?_
    have : PyData.eqv (.tuple [.int a, .int b]) (.tuple [.int x, .int c]) = decide (some x = some a ∧ b = c) := by
      show ((a == x) && ((b == c) && true)) = _
      by_cases e : x = a
      · subst e; by_cases f : b = c
        · subst f; simp
        · simp [f]
      · have : (a == x) = false := by simpa using Ne.symm e
        rw [this]; simp [e]
    rw [this]; exact h
theorem lookup_nodup {pq : List (Int × Int × Int)} (hn : (pq.map (·.1)).Nodup) : ∀ q ∈ pq, pq.lookup q.1 = some q.2 := by
  induction pq with
  | nil => intro q h; cases h
  | cons x r ih =>
    intro q h
    rw [List.map_cons, List.nodup_cons] at hn
    rw [List.lookup_cons]
    rcases List.mem_cons.mp h with e | e
    · subst e; simp
    · have : (q.1 == x.1) = false := by
        have := fun z : q.1 = x.1 => hn.1 (z ▸ List.mem_map_of_mem (f := (·.1)) e)
        simpa using this
      rw [this]; exact ih hn.2 q e
theorem lWhole_cons (qq : Int × Int × Int) (t : List (Int × Int × Int)) (L : Option Int) (c : Int) : lWhole (qq :: t) L c = if L = some qq.2.1 ∧ qq.2.2 = c then qq.1 :: lWhole t L c else lWhole t L c := by
  unfold lWhole
  rw [List.filter_cons]
  by_cases e : L = some qq.2.1 ∧ qq.2.2 = c
  · rw [if_pos e, if_pos (decide_eq_true e)]; rfl
  · rw [if_neg e, if_neg (by rw [decide_eq_false e]; exact Bool.false_ne_true)]
noncomputable def gOut (g : Option Int × List Int) : List Int := g.1.toList ++ g.2
theorem lGo_len (pq : List (Int × Int × Int)) : ∀ (t : List Int) (acc : List (Option Int × List Int)) (L : Option Int) (M : List Int), ((lGo pq acc L M t).flatMap gOut).length ≤ (acc.flatMap gOut).length + 1 + M.length + t.length
  | [], acc, L, M => by
    rw [lGo, List.flatMap_append, List.length_append, List.flatMap_singleton]
    unfold gOut
    rw [List.length_append]
    cases L <;> simp <;> omega
  | c :: t, acc, L, M => by
    rw [lGo, List.length_cons]
    split
    · have := lGo_len pq t (acc ++ [(L, M)]) (some c) []
      rw [List.flatMap_append, List.length_append, List.flatMap_singleton] at this
      have h2 : (gOut (L, M)).length ≤ 1 + M.length := by unfold gOut; rw [List.length_append]; cases L <;> simp
      rw [List.length_nil] at this; omega
    · split
      · have := lGo_len pq t acc (some ((lWhole pq L c).headD 0)) M; omega
      · have := lGo_len pq t acc L (M ++ [c])
        rw [List.length_append, List.length_singleton] at this; omega
theorem tc_lawcomposed (hB : B.K = KK P) {a pa ep : Nat} {pq : List (Int × Int × Int)} {text : List Int} {Q : V → Own → Prop} (ha : own a = some (.list (text.map V.int))) (hp : own pa = some (.dicti ep (ptV pq))) (hpn : (pq.map (·.1)).Nodup) (hpl : pq.length ≤ 10) (hz : text.length ≤ 20)
    (h : ∀ own' f, Sub own own' → own' f = some (.list ((lComp pq text).map V.int)) → Q (.obj f) own') : TC prog w B (d + 4) (.ref 380) [.obj a, .obj pa] own Q := by
  refine TC.deffc (D_law_composed hB) F_law_composed rfl rfl rfl ?_
  intro Kr hK
  refine TS.exp (ss := _ :: _) (l := [some (.obj a), some (.obj pa), none, none, none, none, none, none, none, none, none, none]) ?_
  repeat tb_rel
  intro f (hf : Fresh _ f)
  repeat tb_rel
  with_reducible refine TS.forI ?hs (TI.list ?_)
  case hs => (intro _ _; kernel_rfl)
  repeat tb_rel
  have lc := pt_len pq text
  refine ⟨a, _, rfl, by tb_start, fun vs l o => ∃ (t acc : List Int) (x : Option V), vs = t.map V.int ∧ acc.length + 2 * t.length ≤ 40 ∧ acc ++ t.flatMap (ptOf pq) = text.flatMap (ptOf pq) ∧
    l = [some (.obj a), some (.obj pa), some (.obj f), x, none, none, none, none, none, none, none, none] ∧ o f = some (.list (acc.map V.int)) ∧ Sub own o,
    (exI3 text [] none ⟨rfl, by simp; omega, rfl, rfl, Own.put_self _ _ _, Sub.alloc hf .refl⟩), ?_, ?_, ?_⟩
  · intro vs l o ha_; (with_reducible refine exE3 ha_ fun t acc x hb_ => aE6 hb_ fun _ _ _ _ _ s => ?_); clear ha_ hb_; exact s _ _ ha
  rotate_left
  · intro v vs l o ha_; (with_reducible refine exE3 ha_ fun t acc x hb_ => aE6 hb_ fun x1 x2 x3 q3_ x5 x6 => ?_); clear ha_ hb_; subst q3_
    cases t with
    | nil => cases x1
    | cons z t =>
      cases x1
      rw [List.flatMap_cons, ← List.append_assoc] at x3
      rw [List.length_cons] at x2
      have lz := ptOf_len pq z
      repeat tb_rel
      refine ⟨.list x5, ?_⟩
      repeat tb_rel
      top_caught0
      repeat tb_rel
      refine ⟨.dicti (x6 _ _ hp), ?_⟩
      repeat tb_rel
      refine TN.get_pt (x6 _ _ hp) ?_
      repeat tb_rel
      refine TN.list_tup (ints_len lz (by decide)) fun u (hu : Fresh _ u) => ?_
      repeat tb_rel
      have nfu : f ≠ u := ne_base hu x5
      refine TN.extend ((Own.put_ne _ _ nfu).trans x5) (Own.put_self _ _ _) (fits (by simp only [List.length_map]; omega)) ?_
      repeat tb_rel
      rw [← List.map_append]
      exact (exI3 t (acc ++ ptOf pq z) _ ⟨rfl, by rw [List.length_append]; omega, x3, rfl, Own.put_self _ _ _, Sub.put (Sub.alloc hu x6) hf⟩)
  intro l o ha_; (with_reducible refine exE3 ha_ fun t acc x hb_ => aE6 hb_ fun x1 x2 x3 q3_ x5 x6 => ?_); clear ha_ hb_; subst q3_
  obtain rfl : t = [] := List.map_eq_nil_iff.mp x1.symm
  rw [List.flatMap_nil, List.append_nil] at x3
  subst x3
  clear x1 x2
  repeat tb_rel
  intro lm (hlm : Fresh _ lm)
  repeat tb_rel
  intro lg (hlg : Fresh _ lg)
  repeat tb_rel
  intro g (hg : Fresh _ g)
  repeat tb_rel
  have nml : lm ≠ lg := ne_base (o := .list []) hlg (Own.put_self _ _ _)
  have nmg : lm ≠ g := ne_base (o := .list []) hg (by tb_start)
  have nlg : lg ≠ g := ne_base (o := .list [.none, .obj lm]) hg (by tb_start)
  have s0 : Sub o (((o.put lm (.list [])).put lg (.list [.none, .obj lm])).put g (.list [.obj lg])) := by top_raise0
  have la1 : (((o.put lm (.list [])).put lg (.list [.none, .obj lm])).put g (.list [.obj lg])) lg = some (.list [.none, .obj lm]) := by tb_start
  have la2 : (((o.put lm (.list [])).put lg (.list [.none, .obj lm])).put g (.list [.obj lg])) lm = some (.list []) := by tb_start
  have I : GrI own (((o.put lm (.list [])).put lg (.list [.none, .obj lm])).put g (.list [.obj lg])) g [] (lg, lm, none, []) :=
    ⟨Own.put_self _ _ _, all_nil, ⟨la1, la2⟩, nml.symm, nlg, nmg, all_nil, all_nil, by top_name, by top_name, by top_name, x6.trans s0⟩
  have g5 : (((o.put lm (.list [])).put lg (.list [.none, .obj lm])).put g (.list [.obj lg])) f = some (.list ((text.flatMap (ptOf pq)).map V.int)) := s0 _ _ x5
  generalize ((o.put lm (.list [])).put lg (.list [.none, .obj lm])).put g (.list [.obj lg]) = o0 at I g5 ⊢
  clear hlm hlg hg s0 nml nmg nlg x5 x6 la1 la2
  with_reducible refine TS.forI ?hs (TI.list ?_)
  case hs => (intro _ _; kernel_rfl)
  repeat tb_rel
  refine tc_lawordered hB g5 (by omega) fun o1 f1 s1 (hf1 : Fresh _ f1) g1 => ?_
  have lo := lawOrd_len (text.flatMap (ptOf pq)) []
  rw [List.length_nil, Nat.zero_add] at lo
  generalize hR : lGo pq [] none [] (lawOrd [] (text.flatMap (ptOf pq))) = R
  refine ⟨f1, _, rfl, g1, fun vs l o => ∃ (t : List Int) (init : List Gp) (lg lm : Nat) (L : Option Int) (M : List Int) (x y z u r : Option V), vs = t.map V.int ∧ init.length + M.length + t.length ≤ 60 ∧ (∀ m ∈ M, m = 769 ∨ m = 803) ∧ lGo pq (init.map (·.2.2)) L M t = R ∧
    l = [some (.obj a), some (.obj pa), some (.obj f), x, some (.obj g), y, z, u, r, none, none, none] ∧ GrI own o g init (lg, lm, L, M) ∧ o f1 = some (.list ((lawOrd [] (text.flatMap (ptOf pq))).map V.int)) ∧ f1 ≠ g ∧ f1 ≠ lg ∧ f1 ≠ lm,
    (exI11 _ [] lg lm none [] x none none none none ⟨rfl, by rw [lo]; simp only [List.length_nil]; omega, all_nil, hR, rfl, I.step s1, g1, Ne.symm (ne_base hf1 I.gs), Ne.symm (ne_base hf1 I.la.1), Ne.symm (ne_base hf1 I.la.2)⟩), ?_, ?_, ?_⟩
  · intro vs l o ha_; (with_reducible refine exE11 ha_ fun t init lg lm L M x y z u r hb_ => aE8 hb_ fun _ _ _ _ _ _ g _ => ?_); clear ha_ hb_; exact g
  rotate_left
  · intro v vs l o ha_; (with_reducible refine exE11 ha_ fun t init lg lm L M x y z u r hb_ => aE10 hb_ fun x1 x2 x3 x4 q4_ I2 x7 x8 x9 x10 => ?_); clear ha_ hb_; subst q4_
    cases t with
    | nil => cases x1
    | cons c t =>
      cases x1
      rw [List.length_cons] at x2
      repeat tb_rel
      refine TS.iff ?_
      repeat tb_rel
      refine tc_classes hB fun o1 f1' ep1 s1' (hf1' : Fresh _ f1') g1' => ?_
      repeat tb_rel
      refine T2.in_cls g1' ?_
      repeat tb_rel
      replace I2 := I2.step s1'
      replace x7 := s1' _ _ x7
      clear s1' g1' hf1'
      rw [lGo] at x4
      refine ⟨fun q => ?_, fun q => ?_⟩
      · have q : lcc c = 0 := by simpa using q
        rw [if_pos q] at x4
        repeat tb_rel
        refine ⟨.list I2.gs, ?_⟩
        repeat tb_rel
        intro m2 (hm2 : Fresh _ m2)
        repeat tb_rel
        intro l2 (hl2 : Fresh _ l2)
        repeat tb_rel
        have n2 : l2 ≠ m2 := Ne.symm (ne_base (o := .list []) hl2 (Own.put_self _ _ _))
        have s2 : Sub o1 ((o1.put m2 (.list [])).put l2 (.list [.int c, .obj m2])) := by top_raise0
        have I3 := I2.new (L := some c) s2 (Gr.none hl2 (Gr.put .refl)) hm2 n2 (Own.put_self _ _ _) (by tb_start)
        rw [List.map_append] at I3
        refine TN.append (s2 _ _ I2.gs) (fits (by rw [List.length_append, List.length_map, List.length_singleton]; omega)) ?_
        repeat tb_rel
        exact (exI11 t (init ++ [(lg, lm, L, M)]) l2 m2 (some c) [] _ _ _ _ _ ⟨rfl, by rw [List.length_append, List.length_singleton, List.length_nil]; omega, all_nil, by rw [List.map_append]; exact x4, rfl, I3, (Own.put_ne _ _ x8).trans (s2 _ _ x7), x8, ne_base (o := .list ((lawOrd [] (text.flatMap (ptOf pq))).map V.int)) hl2 ((Own.put_ne _ _ (ne_base hm2 x7)).trans x7), ne_base hm2 x7⟩)
      · have q : lcc c ≠ 0 := by simpa using q
        rw [if_neg q] at x4
        with_reducible refine TS.assigntf ?hs ?hw ?_
        case hs => exact fun _ => rfl
        case hw => exact fun env FA c => swapped2c (.tail _ (.tail _ (.tail _ (.tail _ (.tail _ (.head _)))))) (.tail _ (.tail _ (.tail _ (.tail _ (.tail _ (.tail _ (.head _))))))) rfl c
        repeat tb_rel
        refine tc_classes hB fun o3 f3 ep3 s3 (hf3 : Fresh _ f3) g3 => ?_
        repeat tb_rel
        refine T2.item_dicti (fun _ _ => rfl) g3 ((kget_clsS c).trans (if_neg q)) ?_
        replace I2 := I2.step s3
        replace x7 := s3 _ _ x7
        clear s3 g3 hf3
        repeat tb_rel
        refine T2.item_listn ?hs I2.gs (by decide) (by rw [List.length_append, List.length_singleton]; omega) (by decide) (lastV _ _) ?_
        case hs => exact fun _ _ => rfl
        repeat tb_rel
        with_reducible refine TE.compI G_free_c [none, some 5] ?hs ?hk (TI.list ?_)
        case hs => (intro _ _; kernel_rfl)
        case hk => kernel_rfl
        repeat tb_rel
        refine T2.item_list ?hs I2.la.1 (by decide) (by decide) (v := .obj lm) rfl ?_
        case hs => exact fun _ _ => rfl
        refine ⟨lm, _, rfl, I2.la.2, fun b (hb : Fresh _ b) => ⟨fun vs l o => ∃ (t' : List Int) (acc : List Bool) (x' : Option V), vs = t'.map V.int ∧ (∀ m ∈ t', m = 769 ∨ m = 803) ∧ acc.length + t'.length ≤ 60 ∧ acc ++ t'.map (fun m => decide (lcc c ≤ lcc m)) = M.map (fun m => decide (lcc c ≤ lcc m)) ∧ l = [x', some (.int (lcc c))] ∧ o b = some (.list (acc.map V.bool)) ∧ Sub o3 o,
          (exI3 M [] none ⟨rfl, x3, by rw [List.length_nil]; omega, rfl, rfl, Own.put_self _ _ _, Sub.alloc hb .refl⟩), ?_, ?_, ?_⟩⟩
        · intro vs l o ha_; (with_reducible refine exE3 ha_ fun t' acc x' hb_ => aE7 hb_ fun _ _ _ _ _ _ s => ?_); clear ha_ hb_; exact s _ _ I2.la.2
        rotate_left
        · intro v vs l o ha_; (with_reducible refine exE3 ha_ fun t' acc x' hb_ => aE7 hb_ fun z1 z2 z3 z4 q4_ z6 z7 => ?_); clear ha_ hb_; subst q4_
          cases t' with
          | nil => cases z1
          | cons m t' =>
            cases z1
            rw [List.length_cons] at z3
            have hm : lcc m ≠ 0 := by rcases z2 m (.head _) with e | e <;> rw [e] <;> decide
            repeat tb_rel
            refine TIfs.none ⟨(by first | exact tf | exact ft), fun _ => ?_⟩
            repeat tb_rel
            refine tc_classes hB fun o4 f4 ep4 s4 (hf4 : Fresh _ f4) g4 => ?_
            repeat tb_rel
            refine T2.item_dicti (fun _ _ => rfl) g4 ((kget_clsS m).trans (if_neg hm)) ?_
            repeat tb_rel
            refine ⟨_, s4 _ _ z6, mlen (acc_le (by assumption) rfl), t', acc ++ [decide (lcc c ≤ lcc m)], _, rfl, fun z hz => z2 z (.tail _ hz), acc_succ (by assumption), by rw [← z4]; simp, rfl, ?_, Sub.put (z7.trans s4) hb⟩
            rw [List.map_append]; exact Own.put_self _ _ _
        intro l o4 ha_; (with_reducible refine exE3 ha_ fun t' acc x' hb_ => aE7 hb_ fun z1 z2 z3 z4 q4_ z6 z7 => ?_); clear ha_ hb_; subst q4_
        obtain rfl : t' = [] := List.map_eq_nil_iff.mp z1.symm
        rw [List.map_nil, List.append_nil] at z4
        subst z4
        repeat tb_rel
        refine TN.any z6 ?_
        repeat tb_rel
        replace I2 := I2.step z7
        replace x7 := z7 _ _ x7
        clear z1 z2 z3 z6 z7 hb
        with_reducible refine TS.assigncI (i := 8) G_whole_c [none, some 1, some 6, some 3] ?hs ?hk ?hi ?hl ?hw (TI.dicti ?_)
        case hs => (intro _ _; kernel_rfl)
        case hk => kernel_rfl
        case hi => exact rfl
        case hl => exact rfl
        case hw => exact fun env FA c => swaps_true (.tail _ (.tail _ (.tail _ (.tail _ (.tail _ (.tail _ (.tail _ (.tail _ (.head _))))))))) (by kernel_rfl) (by kernel_rfl) c
        repeat tb_rel
        have hp4 := I2.sub _ _ hp
        refine ⟨pa, ep, _, rfl, hp4, fun b (hb : Fresh _ b) => ⟨fun vs l o => ∃ (t' : List (Int × Int × Int)) (acc : List Int) (x' : Option V), vs = (ptV t').map (fun q => V.int q.1) ∧ (∀ q ∈ t', q ∈ pq) ∧ acc.length + t'.length ≤ 10 ∧ acc ++ lWhole t' L c = lWhole pq L c ∧ l = [x', some (.obj pa), some (.obj lg), some (.int c)] ∧ o b = some (.list (acc.map V.int)) ∧ Sub o4 o,
          (exI3 pq [] none ⟨rfl, fun _ h => h, by rw [List.length_nil]; omega, rfl, rfl, Own.put_self _ _ _, Sub.alloc hb .refl⟩), ?_, ?_, ?_⟩⟩
        · intro vs l o ha_; (with_reducible refine exE3 ha_ fun t' acc x' hb_ => aE7 hb_ fun _ _ _ _ _ _ s => ?_); clear ha_ hb_; exact s _ _ hp4
        rotate_left
        · intro v vs l o ha_; (with_reducible refine exE3 ha_ fun t' acc x' hb_ => aE7 hb_ fun z1 z2 z3 z4 q4_ z6 z7 => ?_); clear ha_ hb_; subst q4_
          cases t' with
          | nil => cases z1
          | cons qq t' =>
            cases z1
            rw [List.length_cons] at z3
            have hk : kget (ptV pq) qq.1 = some (.tup [.int qq.2.1, .int qq.2.2]) := by rw [kget_pt, lookup_nodup hpn qq (z2 qq (.head _))]; rfl
            repeat tb_rel
            with_reducible refine TIfs.one ?_
            repeat tb_rel
            refine T2.item_dicti (fun _ _ => rfl) (z7 _ _ hp4) hk ?_
            repeat tb_rel
            refine T2.item_list ?hs (z7 _ _ I2.la.1) (by decide) (by decide) (v := optV L) rfl ?_
            case hs => exact fun _ _ => rfl
            repeat tb_rel
            refine T2.eq_pair ?_
            repeat tb_rel
            rw [lWhole_cons] at z4
            refine ⟨fun q => ?_, fun q => ?_⟩
            · rw [if_neg (of_decide_eq_false q)] at z4
              repeat tb_rel
              exact (exI3 t' acc _ ⟨rfl, fun z hz => z2 z (.tail _ hz), by omega, z4, rfl, z6, z7⟩)
            · rw [if_pos (of_decide_eq_true q)] at z4
              repeat tb_rel
              refine ⟨_, z6, mlen (acc_le (by assumption) rfl), t', acc ++ [qq.1], _, rfl, fun z hz => z2 z (.tail _ hz), acc_succ (by assumption), by rw [← z4]; simp, rfl, ?_, Sub.put z7 hb⟩
              rw [List.map_append]; exact Own.put_self _ _ _
        intro l o5 ha_; (with_reducible refine exE3 ha_ fun t' acc x' hb_ => aE7 hb_ fun z1 z2 z3 z4 q4_ z6 z7 => ?_); clear ha_ hb_; subst q4_
        obtain rfl : t' = [] := List.map_eq_nil_iff.mp (List.map_eq_nil_iff.mp z1.symm)
        rw [show lWhole [] L c = [] from rfl, List.append_nil] at z4
        subst z4
        repeat tb_rel
        replace I2 := I2.step z7
        replace x7 := z7 _ _ x7
        clear z1 z2 z3 z7 hp4
        refine TS.iff ?_
        refine TT.mono (Q := fun b o' => b = decide ((M.any fun m => decide (lcc c ≤ lcc m)) = false ∧ lWhole pq L c ≠ []) ∧ Sub o5 o') ?_ fun b' o' ⟨eb, s6⟩ => ?_
        · refine TT.andf ?_
          repeat tb_rel
          have ea : ((M.map fun m => decide (lcc c ≤ lcc m)).any id) = M.any fun m => decide (lcc c ≤ lcc m) := by rw [List.any_map]; rfl
          rw [ea]
          refine ⟨fun q1 => ?_, fun q1 => ⟨(decide_eq_false fun q => by rw [q.1] at q1; cases q1).symm, .refl⟩⟩
          have q1 : (M.any fun m => decide (lcc c ≤ lcc m)) = false := by simpa using q1
          refine TT.andf ?_
          repeat tb_rel
          intro e (he : Fresh _ e)
          repeat tb_rel
          have ge : (o5.put e (.list [])) b = some (.list ((lWhole pq L c).map V.int)) := (Own.put_ne _ _ (ne_base he z6)).trans z6
          refine T2.ne (.list ge (RdAll.ints _ _)) (.list (Own.put_self _ _ _) .nil) (canLay_ints _) rfl (Nat.le_trans (Nat.min_le_right _ _) (by decide)) ?_
          have en : PyData.eqv (.list ((lWhole pq L c).map PyData.int)) (.list []) = decide (lWhole pq L c = []) := by cases lWhole pq L c <;> rfl
          rw [en]
          repeat tb_rel
          refine ⟨fun q2 => ?_, fun q2 => ?_⟩
          · repeat tb_rel
            exact ⟨(decide_eq_true ⟨q1, by simpa using q2⟩).symm, Sub.alloc he .refl⟩
          · exact ⟨(decide_eq_false fun q => by simp [q.2] at q2).symm, Sub.alloc he .refl⟩
        replace I2 := I2.step s6
        replace x7 := s6 _ _ x7
        refine ⟨fun q => ?_, fun q => ?_⟩
        · rw [q] at eb
          have eb := of_decide_eq_true eb.symm
          rw [if_pos eb] at x4
          repeat tb_rel
          obtain ⟨w0, ws, ew⟩ := List.exists_cons_of_ne_nil eb.2
          refine T2.item_list ?hs (s6 _ _ z6) (by decide) (by decide) (v := .int ((lWhole pq L c).headD 0)) (by rw [ew]; rfl) ?_
          case hs => exact fun _ _ => rfl
          repeat tb_rel
          refine TSI.list I2.la.1 (by decide) (by simp) (fits (by simp)) ?_
          repeat tb_rel
          have I3 : GrI own (o'.put lg (.list [optV (some ((lWhole pq L c).headD 0)), .obj lm])) g init (lg, lm, some ((lWhole pq L c).headD 0), M) := I2.letter
          exact (exI11 t init lg lm (some ((lWhole pq L c).headD 0)) M _ _ _ _ _ ⟨rfl, by omega, x3, x4, rfl, I3, (Own.put_ne _ _ x9).trans x7, x8, x9, x10⟩)
        · rw [q] at eb
          have eb := of_decide_eq_false eb.symm
          rw [if_neg eb] at x4
          repeat tb_rel
          refine T2.item_list ?hs I2.la.1 (by decide) (by decide) (v := .obj lm) rfl ?_
          case hs => exact fun _ _ => rfl
          repeat tb_rel
          refine ⟨.list I2.la.2, ?_⟩
          repeat tb_rel
          refine TN.append I2.la.2 (fits (by rw [List.length_map]; show M.length ≤ _; omega)) ?_
          repeat tb_rel
          have I3 := I2.mark (M' := M ++ [c])
          rw [List.map_append] at I3
          have hc : c = 769 ∨ c = 803 := by
            by_cases p1 : c = 769
            · exact .inl p1
            · by_cases p2 : c = 803
              · exact .inr p2
              · exact absurd (by unfold lcc; rw [if_neg p1, if_neg p2] : lcc c = 0) (by assumption)
          exact ⟨t, init, lg, lm, L, M ++ [c], _, _, _, _, _, rfl, by rw [List.length_append, List.length_singleton]; omega, fun m hm => by
            rcases List.mem_append.mp hm with hm | hm
            · exact x3 m hm
            · rw [List.mem_singleton.mp hm]; exact hc, x4, rfl, I3, (Own.put_ne _ _ x10).trans x7, x8, x9, x10⟩
  intro l o2 ha_; (with_reducible refine exE11 ha_ fun t init lg2 lm2 L M y0 y z u r hb_ => aE10 hb_ fun x1 x2 x3 x4 q4_ I2 x7 x8 x9 x10 => ?_); clear ha_ hb_; subst q4_
  obtain rfl : t = [] := List.map_eq_nil_iff.mp x1.symm
  rw [lGo] at x4
  repeat tb_rel
  intro fn0 (hfn0 : Fresh _ fn0)
  repeat tb_rel
  have all : ∀ q ∈ init ++ [(lg2, lm2, L, M)], GAt o2 q := fun q hq => by
    rcases List.mem_append.mp hq with hq | hq
    · exact I2.ia q hq
    · rw [List.mem_singleton.mp hq]; exact I2.la
  have gl : o2 g = some (.list ((init ++ [(lg2, lm2, L, M)]).map fun q => V.obj q.1)) := by rw [List.map_append]; exact I2.gs
  have x4' : (init ++ [(lg2, lm2, L, M)]).map (·.2.2) = R := by rw [← x4, List.map_append]; rfl
  have fo : Fresh own fn0 := Sub.none hfn0 I2.sub
  have so : Sub own o2 := I2.sub
  have ln := lGo_len pq (lawOrd [] (text.flatMap (ptOf pq))) [] none []
  rw [hR, lo] at ln
  have ln : (R.flatMap gOut).length ≤ 60 := by simp only [List.flatMap_nil, List.length_nil] at ln; omega
  unfold lComp at h
  rw [hR] at h
  generalize init ++ [(lg2, lm2, L, M)] = G at all gl x4'
  clear I2 x1 x2 x3 x4 x7 x8 x9 x10 lo hR g1 hf1 s1 I g5 ha hp hf
  with_reducible refine TS.forI ?hs (TI.list ?_)
  case hs => (intro _ _; kernel_rfl)
  repeat tb_rel
  refine ⟨g, _, rfl, Sub.alloc hfn0 .refl _ _ gl, fun vs l o => ∃ (t : List Gp) (acc : List Int) (fn : Nat) (x1 x2 : Option V), vs = t.map (fun q => V.obj q.1) ∧ (∀ q ∈ t, q ∈ G) ∧ acc ++ (t.map (·.2.2)).flatMap gOut = R.flatMap gOut ∧
    l = [some (.obj a), some (.obj pa), some (.obj f), y0, some (.obj g), y, z, u, r, some (.obj fn), x1, x2] ∧ o fn = some (.list (acc.map V.int)) ∧ Sub o2 o,
    (exI5 G [] fn0 none none ⟨rfl, fun _ h => h, by rw [x4']; rfl, rfl, Own.put_self _ _ _, Sub.alloc hfn0 .refl⟩), ?_, ?_, ?_⟩
  · intro vs l o ha_; (with_reducible refine exE5 ha_ fun t acc fn w1 w2 hb_ => aE6 hb_ fun _ _ _ _ _ s => ?_); clear ha_ hb_; exact s _ _ gl
  · intro l o ha_; (with_reducible refine exE5 ha_ fun t acc fn w1 w2 hb_ => aE6 hb_ fun z1 z2 z3 q3_ z5 z6 => ?_); clear ha_ hb_; subst q3_
    obtain rfl : t = [] := List.map_eq_nil_iff.mp z1.symm
    rw [List.map_nil, List.flatMap_nil, List.append_nil] at z3
    repeat tb_rel
    refine h o fn (so.trans z6) ?_
    show o fn = some (O.list ((R.flatMap gOut).map V.int))
    rw [← z3]; exact z5
  · intro v vs l o ha_; (with_reducible refine exE5 ha_ fun t acc fn w1 w2 hb_ => aE6 hb_ fun z1 z2 z3 q3_ z5 z6 => ?_); clear ha_ hb_; subst q3_
    cases t with
    | nil => cases z1
    | cons q t =>
      cases z1
      obtain ⟨k1, k2⟩ := all q (z2 q (.head _))
      rw [List.map_cons, List.flatMap_cons, ← List.append_assoc] at z3
      have hl := congrArg List.length z3
      rw [List.length_append, List.length_append] at hl
      intro Kt hKt
      refine TG.unlist (z6 _ _ k1) (by kernel_rfl) (by kernel_rfl) ?_
      repeat tb_rel
      obtain ⟨qa, qm, QL, QM⟩ := q
      change (acc ++ (QL.toList ++ QM)) ++ (t.map (·.2.2)).flatMap gOut = R.flatMap gOut at z3
      have hl := congrArg List.length z3
      rw [List.length_append, List.length_append, List.length_append] at hl
      change o2 qm = some (.list (QM.map V.int)) at k2
      cases QL with
      | none =>
        refine ⟨fun _ => ?_, (by first | exact tf | exact ft)⟩
        repeat tb_rel
        intro e1 (he1 : Fresh _ e1)
        repeat tb_rel
        have s1 : Sub o (o.put e1 (.list [])) := Sub.alloc he1 .refl
        refine T2.addl (s1 _ _ z5) (Own.put_self _ _ _) (fits (by rw [List.length_map, List.length_nil]; omega)) fun c1 (hc1 : Fresh _ c1) => ?_
        repeat tb_rel
        have s2 : Sub o ((o.put e1 (.list [])).put c1 (.list (acc.map V.int ++ []))) := Sub.alloc hc1 s1
        refine T2.addl (Own.put_self _ _ _) (s2 _ _ (z6 _ _ k2)) (fits (by rw [List.length_append, List.length_map, List.length_map, List.length_nil]; omega)) fun c2 (hc2 : Fresh _ c2) => ?_
        repeat tb_rel
        refine (exI5 t (acc ++ ([] ++ QM)) c2 _ _ ⟨rfl, fun z hz => z2 z (.tail _ hz), z3, rfl, ?_, Sub.alloc hc2 (z6.trans s2)⟩)
        rw [List.map_append, List.nil_append, List.append_nil]; exact Own.put_self _ _ _
      | some x0 =>
        refine ⟨(by first | exact tf | exact ft), fun _ => ?_⟩
        repeat tb_rel
        intro e1 (he1 : Fresh _ e1)
        repeat tb_rel
        have s1 : Sub o (o.put e1 (.list [.int x0])) := Sub.alloc he1 .refl
        have hx : (Option.some x0).toList.length = 1 := rfl
        refine T2.addl (s1 _ _ z5) (Own.put_self _ _ _) (fits (by rw [List.length_map, List.length_singleton]; omega)) fun c1 (hc1 : Fresh _ c1) => ?_
        repeat tb_rel
        have s2 : Sub o ((o.put e1 (.list [.int x0])).put c1 (.list (acc.map V.int ++ [.int x0]))) := Sub.alloc hc1 s1
        refine T2.addl (Own.put_self _ _ _) (s2 _ _ (z6 _ _ k2)) (fits (by rw [List.length_append, List.length_map, List.length_map, List.length_singleton]; omega)) fun c2 (hc2 : Fresh _ c2) => ?_
        repeat tb_rel
        refine (exI5 t (acc ++ ([x0] ++ QM)) c2 _ _ ⟨rfl, fun z hz => z2 z (.tail _ hz), z3, rfl, ?_, Sub.alloc hc2 (z6.trans s2)⟩)
        rw [List.map_append, List.map_append, ← List.append_assoc]; exact Own.put_self _ _ _
theorem order_at (hB : B.K = KK P) {Γ : Fn} {A : Around} {env : Env} {FA : List Nat} {l : List (Option V)} {s : Shared} (N : Now prog w B d Γ A env FA l own s) : s.heap.get? 335 = some (o335_8 P) :=
  N.st.keep _ _ (N.ok.K _ _ (by rw [hB]; kernel_rfl))
theorem TE.order (hB : B.K = KK P) {pos : Pos} {Γ : Fn} {l : List (Option V)} {Q : V → Own → Prop} (hx : memS z134 Γ.glb = true) (h : Q (.obj 335) own) : TE prog w B d Γ (.Name z134 pos) l own Q :=
  TE.glob (v := .obj 335) (memS_iff hx) (by decide +kernel) (xv := .ref 335) (by rw [hB]; kernel_rfl) (fun _ => by simp only [VR]) h
noncomputable def order0 : List Int := [97, 769, 803, 65, 66, 173, 7838, 223, 8205, 8226, 95, 8800, 225, 833, 98, 12288, 7841]
theorem T2.item_order (hB : B.K = KK P) {a b : Expr} {k : Int} {Q : V → Own → Prop} (hs : PlainSub b) (h0 : 0 ≤ k) (hk : k < 17) (h : Q (.int (order0.getD k.toNat 0)) own) : T2 prog w B (subscriptTail a b) (.obj 335) (.int k) own Q := by
  rintro C s N _ _ r ⟨t, rfl⟩ Q' E p
  simp only [VR] at r; subst r
  have e := order_at hB N
  have il : s.heap.IsList 335 (la [(.int 97 679), (.int 769 680), (.int 803 681), (.int 65 682), (.int 66 683), (.int 173 684), (.int 7838 685), (.int 223 686), (.int 8205 687), (.int 8226 688), (.int 95 689), (.int 8800 690), (.int 225 691), (.int 833 692), (.int 98 693), (.int 12288 694), (.int 7841 695)]) := ⟨_, e, rfl, _, rfl⟩
  have r : VRs s.heap (order0.map V.int) (la [(.int 97 679), (.int 769 680), (.int 803 681), (.int 65 682), (.int 66 683), (.int 173 684), (.int 7838 685), (.int 223 686), (.int 8205 687), (.int 8226 688), (.int 95 689), (.int 8800 690), (.int 225 691), (.int 833 692), (.int 98 693), (.int 12288 694), (.int 7841 695)] : Array Value).toList := by
    unfold order0
    simp only [List.map_cons, List.map_nil, VRs, VR]
    iterate 17 refine ⟨_, _, rfl, ⟨_, rfl⟩, ?_⟩
    rfl
  obtain ⟨x, ex, rx⟩ := r.atA (getV (l := order0) (n := k.toNat) (by show _ < 17; omega))
  exact tail_any il.typeIs slot_list_getitem.lookup (wpAny_getItem_list il h0 (by omega) ex (p _ x _ _ h rx N .refl)) (hs _ _)
noncomputable def cs0 : List Int := order0 ++ [115, 61]
noncomputable def pvOf (pq : List (Int × Int × Int)) : List (Int × PyData) := pq.map fun q => (q.1, .tuple [.int q.2.1, .int q.2.2])
structure PL (pq : List (Int × Int × Int)) : Prop where
  ex : ∃ D dq prs, lawData (pvOf pq) = some D ∧ D.defs = dAll ∧ DOk D T0 lcc dq cs0 ∧ PrOk D lcc cs0 prs ∧
    ∀ signs : List Int, (∀ c ∈ signs, c ∈ order0) → signs.length ≤ 7 → ∀ late only : Bool,
      nfcL lcc dq prs (signs.flatMap (mapD T0 late only)) = lComp pq (signs.flatMap (mapD T0 late only)) ∧
      (signs.flatMap (mapD T0 late only)).length ≤ 20 ∧
      ((∀ c ∈ lComp pq (signs.flatMap (mapD T0 late only)), c ∈ cs0) ∧ (lComp pq (signs.flatMap (mapD T0 late only))).length ≤ 30) ∧
      ((lComp pq (signs.flatMap (mapD T0 late only))).flatMap (mapD T0 late only)).length ≤ 30 ∧
      (signs.any (badD T0 late only) = false → 61 ∉ lComp pq (signs.flatMap (mapD T0 late only)) → 7841 ∉ lComp pq (signs.flatMap (mapD T0 late only)) →
        (lComp pq (signs.flatMap (mapD T0 late only))).any (badD T0 late only) = false ∧
        nfcL lcc dq prs ((lComp pq (signs.flatMap (mapD T0 late only))).flatMap (mapD T0 late only)) = lComp pq (signs.flatMap (mapD T0 late only)))
  nod : (pq.map (·.1)).Nodup
  len : pq.length ≤ 10
theorem MapsAre.objs {o : Own} {maps : List (List Nat × V)} {ds : List Nat} {mp : List (List Nat × RM)} (q : MapsAre o maps ds mp) : ∀ x ∈ maps, ∃ a, x.2 = V.obj a := by
  induction q with
  | nil => intro x h; cases h
  | cons r q ih =>
    intro x h
    rcases List.mem_cons.mp h with e | e
    · exact ⟨_, by rw [e]⟩
    · exact ih x e
theorem mapD_len : ∀ c ∈ order0, ∀ late only : Bool, (mapD T0 late only c).length ≤ 2 := by decide +kernel
theorem one_len {c : Int} {late only : Bool} {xs : List Int} (hc : c ∈ order0) (e : mapOne T0 c late only = some xs) : xs.length ≤ 2 := by
  have := mapD_len c hc late only
  unfold mapD at this; rwa [e] at this
theorem eqv_intsR (xs : List Int) : PyData.eqv (.list (xs.map PyData.int)) (.list (xs.map PyData.int)) = true := SeqAt.eqv_refl _ (by show PyData.canLayAll0 _ = true; exact canLay_ints xs)
noncomputable def wordsD (b : Bool) : List PyData := if b then [.str wDis] else []
theorem rd_words (own : Own) : ∀ b, RdAll own (wordsV b) (wordsD b)
  | false => .nil
  | true => .cons (.str _) .nil
theorem T2.ne_words {a b : Nat} {x : Bool} {Q : V → Own → Prop} (ha : own a = some (.list (wordsV x))) (hb : own b = some (.list (wordsV x))) (h : Q (.bool false) own) : T2 prog w B (compareOp .NotEq) (.obj a) (.obj b) own Q := by
  have cl : (PyData.list (wordsD x)).canLay0 = true := by cases x <;> decide +kernel
  refine T2.ne (.list ha (rd_words own x)) (.list hb (rd_words own x)) cl cl (by cases x <;> decide) ?_
  rw [SeqAt.eqv_refl _ cl]; exact h
theorem words_len (x : Bool) : (wordsV x).length ≤ sizeLine := by cases x <;> exact fits (by decide)
theorem dep_ints : ∀ ns : List Int, PyData.depthAll (ns.map PyData.int) = 0
  | [] => rfl
  | n :: ns => by
    have h := dep_ints ns
    show max (PyData.depth (.int n)) (PyData.depthAll (ns.map PyData.int)) = 0
    rw [h]; rfl
theorem dep_list (xs : List Int) {e : PyData} : min (PyData.depth (.list (xs.map PyData.int))) e.depth ≤ 100 := by
  refine Nat.le_trans (Nat.min_le_left _ _) ?_
  show PyData.depthAll (xs.map PyData.int) + 1 ≤ 100
  rw [dep_ints]; decide
theorem IsData.deck {o o' : Own} {m dk c k : Nat} {F : List Nat} {D : DT} {cells : List Int} (I : IsData o m F D) (K : IsDeck o dk c cells k) (hd : D.defs = dAll) (h : ∀ b x, o b = some x → b ≠ dk → o' b = some x) : IsData o' m F D := by
  obtain ⟨⟨dm, D0, M, p, w, maps, ds, h1, h2, h3, h4, h5, h6, h7, h8⟩, hs⟩ := I
  obtain ⟨k1, k2⟩ := K.ex
  have nm : m ≠ dk := fun e => by rw [e, k1] at h1; cases h1
  have nd : dm ≠ dk := fun e => by rw [e, k1] at h2; cases h2
  have n0 : D0 ≠ dk := fun e => by
    rw [e, k1, hd] at h3
    have : 2 = dAll.length := by
      have := Option.some.inj h3
      injection this with this
      rw [← this]; rfl
    exact absurd this (by decide +kernel)
  have nM : M ≠ dk := fun e => by
    rw [e, k1] at h4
    have := Option.some.inj h4
    injection this with this
    obtain ⟨a, e⟩ := h5.objs (sAt, .int k) (by rw [← this]; exact .tail _ (.head _))
    cases e
  refine ⟨⟨dm, D0, M, p, w, maps, ds, h _ _ h1 nm, h _ _ h2 nd, h _ _ h3 n0, h _ _ h4 nM, h5.keep h (fun hm => ?_) (fun x y e => ?_) (fun vs e => ?_), h6, h7, h8⟩, hs⟩
  · obtain ⟨x, e⟩ := h5.mem _ hm
    rw [k1] at e; cases e
  · rw [k1] at e; cases e
  · rw [k1] at e; cases e
noncomputable def pq1 : List (Int × Int × Int) := [(225, 97, 769)]
noncomputable def pq2 : List (Int × Int × Int) := [(225, 97, 769), (7841, 97, 803)]
theorem partV_pvOf (pq : List (Int × Int × Int)) : partV (pvOf pq) = ptV pq := by
  unfold partV pvOf ptV
  rw [List.map_map]; rfl
noncomputable def yTurn : PySem.Str := ⟨#[116, 117, 114, 110]⟩
noncomputable def G_signs_c : Fn := ⟨[(yTurn, false), (z143, true)], [z134, z137], true, none⟩
noncomputable def isTrue' : Fl → List (Option V) → Own → Prop := fun f _ _ => match f with
  | .ret v => v = .bool true
  | _ => False
theorem ts_law (hB : B.K = KK P) (P1 : PL pq1) (P2 : PL pq2) (one : ∀ c ∈ order0, ∀ late only : Bool, lawOne c late only = mapOne T0 c late only) {o : Nat} {its : Array Value} {is : List Int} (ho : B.h₀.IsList o its) (hv : ∀ h, VRs h (is.map V.int) its.toList) (hz : is.length ≤ 63) :
    TS prog w B (d + 12) G_law (fB (st 52)) [some (.obj o), none, none, none, none, none, none, none, none, none, none, none, none, none, none, none, none] own isTrue' := by
  refine TS.exp (ss := _ :: _) ?_
  repeat tb_rel
  refine tc_deck hB ho hv hz fun o1 dk cl cells s1 hcl hdk D => ?_
  repeat tb_rel
  refine tc_draw hB D hcl (by decide) (by decide) fun o2 v2 _ _ D f2 n2 => ?_
  repeat tb_rel
  refine tc_draw hB D hcl (by decide) (by decide) fun o3 v3 _ _ D f3 n3 => ?_
  repeat tb_rel
  generalize (v2 == 1) = late
  generalize (v3 == 0) = only
  with_reducible refine TE.dicti ?h1 ?h2 ?h3 ?h4 ?_
  case h1 => kernel_rfl
  case h2 => kernel_rfl
  case h3 => exact List.cons_ne_nil _ _
  case h4 => exact Nat.le_of_ble_eq_true (by kernel_rfl)
  intro f ep (hf : Fresh _ f)
  repeat tb_rel
  refine ⟨ptV pq1, rfl, by tb_start, fun ep' => ?_⟩
  have nfd : f ≠ dk := fun q => by
    obtain ⟨h1, _⟩ := D.ex
    have hf : o3 f = none := hf
    rw [q, h1] at hf; cases hf
  replace D := D.sub (Sub.put (Sub.alloc hf .refl) hf : Sub o3 ((o3.put f (.dicti ep [])).put f (.dicti ep' (ptV pq1))))
  have g1 : ((o3.put f (.dicti ep [])).put f (.dicti ep' (ptV pq1))) f = some (.dicti ep' (ptV pq1)) := Own.put_self _ _ _
  repeat tb_rel
  refine TS.ifj (fun l o' => ∃ ep pq k, (pq = pq1 ∨ pq = pq2) ∧ l = [some (.obj o), some (.obj dk), some (.bool late), some (.bool only), some (.obj f), none, none, none, none, none, none, none, none, none, none, none, none] ∧ o' f = some (.dicti ep (ptV pq)) ∧ IsDeck o' dk cl cells k ∧ k ≤ 3) ?_ ?_
  · repeat tb_rel
    refine tc_draw hB D hcl (by decide) (by decide) fun o4 v4 _ _ D f4 n4 => ?_
    repeat tb_rel
    have g2 := f4 _ _ g1 nfd
    refine ⟨fun _ => ?_, fun _ => ?_⟩
    · repeat tb_rel
      refine TSI.dicti g2 (by decide) fun ep2 => ?_
      repeat tb_rel
      obtain ⟨d1, d2⟩ := D.ex
      refine (exI3 ep2 pq2 3 ⟨.inr rfl, rfl, Own.put_self _ _ _, ⟨(Own.put_ne _ _ nfd.symm).trans d1, ?_⟩, Nat.le_refl _⟩)
      exact (Own.put_ne _ _ (fun q => by rw [q, g2] at d2; cases d2)).trans d2
    · repeat tb_rel
      exact (exI3 ep' pq1 3 ⟨.inl rfl, rfl, g2, D, Nat.le_refl _⟩)
  clear D g1
  intro l o5 ha_; (with_reducible refine exE3 ha_ fun ep5 pq k hb_ => aE5 hb_ fun hpq q1_ g5 D hk => ?_); clear ha_ hb_; subst q1_
  have PP : PL pq := by rcases hpq with e | e <;> rw [e] <;> assumption
  clear P1 P2 hpq
  obtain ⟨⟨DD, dq, prs, hl, hdef, K, Pr, fin⟩, hnod, hlen⟩ := PP
  repeat tb_rel
  refine tc_lawdata hB (pv := pvOf pq) (by rw [partV_pvOf]; exact g5) (by unfold pvOf; rw [List.map_map]; exact hnod) hl fun o6 m F I s6 => ?_
  replace D := D.sub s6
  replace g5 := s6 _ _ g5
  repeat tb_rel
  with_reducible refine TS.assigncI (i := 6) G_signs_c [none, some 1] ?hs ?hk ?hi ?hl ?hw (range1f hB ?he ?hx ?hs2 ?_)
  case hs => (intro _ _; kernel_rfl)
  case hk => kernel_rfl
  case hi => exact rfl
  case hl => exact rfl
  case hw => exact fun env FA c => swaps_true (.tail _ (.tail _ (.tail _ (.tail _ (.tail _ (.tail _ (.head _))))))) (by kernel_rfl) (by kernel_rfl) c
  case he => exact rfl
  case hx => kernel_rfl
  case hs2 => kernel_rfl
  repeat tb_rel
  have D6 := D
  have nfd6 : f ≠ dk := fun e => by obtain ⟨h1, _⟩ := D6.ex; rw [← e, g5] at h1; cases h1
  refine tc_draw hB D hcl (by omega) (by decide) fun o7 v7 p7 q7 D f7 n7 => ?_
  repeat tb_rel
  have g6 := g5
  replace I := I.deck D6 hdef f7
  replace g5 := f7 _ _ g5 nfd6
  have nfk : f ≠ cl := fun e => by have := D6.ex.2; rw [← e, g6] at this; cases this
  refine ⟨v7.toNat, by rw [Int.toNat_of_nonneg p7], by omega, fun b (hb : Fresh _ b) => ⟨fun vs l o => ∃ (t : List Nat) (acc : List Int) (x : Option V), vs = t.map (fun (i : Nat) => V.int i) ∧ acc.length + t.length ≤ 7 ∧ (∀ c ∈ acc, c ∈ order0) ∧ l = [x, some (.obj dk)] ∧ o b = some (.list (acc.map V.int)) ∧ IsDeck o dk cl cells (k + 1 + acc.length) ∧ (∀ y z, o7 y = some z → y ≠ dk → o y = some z),
    (exI3 (List.range v7.toNat) [] none ⟨rfl, by rw [List.length_nil, List.length_range]; omega, all_nil, rfl, Own.put_self _ _ _, D.sub (Sub.alloc hb .refl), fun y z e _ => Sub.alloc hb .refl _ _ e⟩), (fun _ _ _ _ => trivial), ?_, ?_⟩⟩
  rotate_left
  · intro v vs l o ha_; (with_reducible refine exE3 ha_ fun t acc x hb_ => aE7 hb_ fun z1 z2 z3 q3_ z5 z6 z7 => ?_); clear ha_ hb_; subst q3_
    cases t with
    | nil => cases z1
    | cons i t =>
      cases z1
      rw [List.length_cons] at z2
      repeat tb_rel
      refine TIfs.none ⟨(by first | exact tf | exact ft), fun _ => ?_⟩
      repeat tb_rel
      refine TE.order hB (by kernel_rfl) ?_
      repeat tb_rel
      refine tc_draw hB z6 hcl (by omega) (by decide) fun o8 v8 p8 q8 D8 f8 n8 => ?_
      refine T2.item_order hB (fun _ _ => rfl) p8 q8 ?_
      repeat tb_rel
      have nbd : b ≠ dk := fun e => by rw [e, z6.ex.1] at z5; cases z5
      have nbc : b ≠ cl := Ne.symm (ne_base hb D.ex.2)
      refine ⟨_, f8 _ _ z5 nbd, mlen (acc_le (by assumption) rfl), t, acc ++ [order0.getD v8.toNat 0], _, rfl, acc_succ (by assumption), fun c hc => ?_, rfl, ?_, ?_, fun y z e ny => (Own.put_ne _ _ (ne_base hb e)).trans (f8 _ _ (z7 _ _ e ny) ny)⟩
      · rcases List.mem_append.mp hc with hc | hc
        · exact z3 c hc
        · rw [List.mem_singleton.mp hc]; exact getD_mem (show v8.toNat < 17 by omega)
      · rw [List.map_append]; exact Own.put_self _ _ _
      · rw [List.length_append, List.length_singleton, ← Nat.add_assoc]
        exact ⟨(Own.put_ne _ _ nbd.symm).trans D8.ex.1, (Own.put_ne _ _ nbc.symm).trans D8.ex.2⟩
  intro l o8 ha_; (with_reducible refine exE3 ha_ fun t signs x hb_ => aE7 hb_ fun z1 z2 z3 q3_ z5 z6 z7 => ?_); clear ha_ hb_; subst q3_
  obtain rfl : t = [] := List.map_eq_nil_iff.mp z1.symm
  rw [List.length_nil, Nat.add_zero] at z2
  replace I := I.deck D hdef z7
  replace g5 := z7 _ _ g5 nfd6
  clear z1 z6 z7 nfk g6 f7 n7 D D6 hb ho hv s6 f2 f3 n2 n3 hf nfd hl hdef nfd6 s1 hdk hk hcl
  repeat tb_rel
  refine TN.list_list z5 (ints_len z2 (by decide)) fun w0 (hw0 : Fresh _ w0) => ?_
  repeat tb_rel
  intro mp (hmp : Fresh _ mp)
  repeat tb_rel
  have s9 : Sub o8 ((o8.put w0 (.list (signs.map V.int))).put mp (.list [])) := by top_raise0
  have gw : ((o8.put w0 (.list (signs.map V.int))).put mp (.list [])) w0 = some (.list (signs.map V.int)) := by tb_start
  have gm : ((o8.put w0 (.list (signs.map V.int))).put mp (.list [])) mp = some (.list []) := Own.put_self _ _ _
  have fm : Fresh o8 mp := Gr.none hmp (Gr.put .refl)
  have nwm : w0 ≠ mp := ne_base (o := .list (signs.map V.int)) hmp (Own.put_self _ _ _)
  generalize (o8.put w0 (.list (signs.map V.int))).put mp (.list []) = o9 at s9 gw gm ⊢
  clear hmp hw0
  with_reducible refine TS.forI ?hs (TI.list ?_)
  case hs => (intro _ _; kernel_rfl)
  repeat tb_rel
  refine ⟨b, _, rfl, s9 _ _ z5, fun vs l o' => ∃ (t acc : List Int) (bad : Bool) (x y u : Option V), vs = t.map V.int ∧ (∀ c ∈ t, c ∈ order0) ∧ acc.length + 2 * t.length ≤ 14 ∧ acc ++ t.flatMap (mapD T0 late only) = signs.flatMap (mapD T0 late only) ∧ (bad || t.any (badD T0 late only)) = signs.any (badD T0 late only) ∧
    l = [some (.obj o), some (.obj dk), some (.bool late), some (.bool only), some (.obj f), some (.obj m), some (.obj b), some (.obj w0), some (.obj mp), some (.bool bad), x, y, u, none, none, none, none] ∧ o' mp = some (.list (acc.map V.int)) ∧ Sub o8 o' ∧ o' w0 = some (.list (signs.map V.int)),
    (exI6 signs [] false none none none ⟨rfl, z3, by rw [List.length_nil]; omega, rfl, Bool.false_or _, rfl, gm, s9, gw⟩), ?_, ?_, ?_⟩
  · intro vs l o' ha_; (with_reducible refine exE6 ha_ fun t acc bad x y u hb_ => aE9 hb_ fun _ _ _ _ _ _ _ s _ => ?_); clear ha_ hb_; exact s _ _ z5
  rotate_left
  · intro v vs l oo ha_; (with_reducible refine exE6 ha_ fun t acc bad x y u hb_ => aE9 hb_ fun x1 x2 x3 x4 x5 q5_ x7 x8 x9 => ?_); clear ha_ hb_; subst q5_
    cases t with
    | nil => cases x1
    | cons c t =>
      cases x1
      rw [List.length_cons] at x3
      rw [List.flatMap_cons, ← List.append_assoc] at x4
      rw [List.any_cons, ← Bool.or_assoc] at x5
      have hc0 := x2 c (.head _)
      have hc : c ∈ cs0 := List.mem_append_left _ hc0
      have hone := one c hc0 late only
      repeat tb_rel
      refine tc_idmap hB (I.sub x8) K hc (fun e => ?_) (fun xs e o1 a1 s1 (ha1 : Fresh _ a1) g1 => ?_)
      · rw [e] at hone
        repeat tb_rel
        refine tc_lawone hB (fun _ o1 s1 => ?_) (fun xs e' => by rw [hone] at e'; cases e')
        repeat tb_rel
        refine TS.iff ?_
        repeat tb_rel
        refine ⟨fun _ => ?_, (by first | exact tf | exact ft)⟩
        repeat tb_rel
        refine T2.ne .none .none rfl rfl (by decide) ?_
        repeat tb_rel
        refine ⟨(by first | exact tf | exact ft), fun _ => ?_⟩
        repeat tb_rel
        refine TE.mono (Q := fun v o' => .bool true = v ∧ o1 = o') ?_ ?_
        · refine TE.orb ?_
          repeat tb_rel
          refine ⟨bad, rfl, fun _ => ⟨rfl, rfl⟩, fun _ => ?_⟩
          repeat tb_rel
          exact ⟨rfl, rfl⟩
        rintro _ _ ⟨rfl, rfl⟩
        have mc : mapD T0 late only c = [c] := by unfold mapD; rw [e]; rfl
        have bc : badD T0 late only c = true := by unfold badD; rw [e]; rfl
        rw [mc] at x4
        rw [bc, Bool.or_true] at x5
        repeat tb_rel
        refine ⟨.list (s1 _ _ x7), ?_⟩
        repeat tb_rel
        refine ⟨fun _ => ?_, (by first | exact tf | exact ft)⟩
        repeat tb_rel
        intro q (hq : Fresh _ q)
        repeat tb_rel
        have nq : mp ≠ q := ne_base hq (s1 _ _ x7)
        have so : Sub oo (o1.put q (.list [.int c])) := by top_raise0
        refine TN.extend (so _ _ x7) (Own.put_self _ _ _) (fits (by rw [List.length_map, List.length_singleton]; omega)) ?_
        repeat tb_rel
        refine (exI6 t (acc ++ [c]) true _ _ _ ⟨rfl, fun z hz => x2 z (.tail _ hz), by rw [List.length_append, List.length_singleton]; omega, x4, x5, rfl, ?_, Sub.put (x8.trans so) fm, (Own.put_ne _ _ nwm).trans (so _ _ x9)⟩)
        rw [List.map_append]; exact Own.put_self _ _ _
      · rw [e] at hone
        repeat tb_rel
        refine tc_lawone hB (fun e' => by rw [hone] at e'; cases e') (fun ys e' o2 a2 s2 g2 => ?_)
        obtain rfl : xs = ys := Option.some.inj (hone.symm.trans e')
        repeat tb_rel
        refine TS.iff ?_
        repeat tb_rel
        refine ⟨(by first | exact tf | exact ft), fun _ => ?_⟩
        have lx : xs.length ≤ 2 := one_len hc0 e
        repeat tb_rel
        refine TN.list_list (s2 _ _ g1) (ints_len lx (by decide)) fun q (hq : Fresh _ q) => ?_
        repeat tb_rel
        have so : Sub o2 (o2.put q (.list (xs.map V.int))) := by top_raise0
        refine T2.ne (.list (Own.put_self _ _ _) (RdAll.ints _ xs)) (.list (so _ _ g2) (RdAll.ints _ xs)) (canLay_ints xs) (canLay_ints xs) (dep_list xs) ?_
        rw [eqv_intsR]
        repeat tb_rel
        refine ⟨(by first | exact tf | exact ft), fun _ => ?_⟩
        repeat tb_rel
        refine TE.mono (Q := fun v o' => .bool bad = v ∧ o2.put q (.list (xs.map V.int)) = o') ?_ ?_
        · refine TE.orb ?_
          repeat tb_rel
          refine ⟨bad, rfl, fun e => ⟨by rw [e], rfl⟩, fun e => ?_⟩
          repeat tb_rel
          exact ⟨by rw [e]; rfl, rfl⟩
        rintro _ _ ⟨rfl, rfl⟩
        have mc : mapD T0 late only c = xs := by unfold mapD; rw [e]; rfl
        have bc : badD T0 late only c = false := by unfold badD; rw [e]; rfl
        rw [mc] at x4
        rw [bc, Bool.or_false] at x5
        repeat tb_rel
        replace so := (s1.trans s2).trans so
        refine ⟨.list (so _ _ x7), ?_⟩
        repeat tb_rel
        refine ⟨(by first | exact tf | exact ft), fun _ => ?_⟩
        repeat tb_rel
        refine TN.extend (so _ _ x7) ((Own.put_ne _ _ (ne_base hq g2)).trans g2) (fits (by rw [List.length_map, List.length_map]; omega)) ?_
        repeat tb_rel
        refine (exI6 t (acc ++ xs) bad _ _ _ ⟨rfl, fun z hz => x2 z (.tail _ hz), by rw [List.length_append]; omega, x4, x5, rfl, ?_, Sub.put (x8.trans so) fm, (Own.put_ne _ _ nwm).trans (so _ _ x9)⟩)
        rw [List.map_append]; exact Own.put_self _ _ _
  intro l oo ha_; (with_reducible refine exE6 ha_ fun t acc bad x y u hb_ => aE9 hb_ fun x1 x2 x3 x4 x5 q5_ x7 x8 x9 => ?_); clear ha_ hb_; subst q5_
  obtain rfl : t = [] := List.map_eq_nil_iff.mp x1.symm
  rw [List.flatMap_nil, List.append_nil] at x4
  subst x4
  rw [List.any_nil, Bool.or_false] at x5
  subst x5
  obtain ⟨c1, c2, ⟨c3, ld⟩, c4, c5⟩ := fin signs z3 z2 late only
  clear x1 x2 x3 fin s9 gw gm fm nwm
  repeat tb_rel
  refine tc_lawcomposed hB x7 (x8 _ _ g5) hnod hlen c2 fun o1 ff s1 g1 => ?_
  repeat tb_rel
  generalize hdue : lComp pq (signs.flatMap (mapD T0 late only)) = due at c1 c3 ld c4 c5 g1
  have s10 := x8.trans s1
  refine tc_maplabel hB (I.sub s10) K Pr (s10 _ _ z5) (fun c hc => List.mem_append_left _ (z3 c hc)) (Nat.le_trans c2 (by decide)) fun o2 f2 wd s2 g2 gwd => ?_
  rw [c1] at g2
  repeat tb_rel
  have g3 : o2 ff = some (.list (due.map V.int)) := s2 _ _ g1
  replace s10 := s10.trans s2
  refine TS.iff ?_
  refine TT.mono (Q := fun v o' => v = false ∧ Sub o2 o') ?_ ?_
  · refine TT.orf ?_
    repeat tb_rel
    refine TN.list_list g2 (ints_len ld (by decide)) fun q (hq : Fresh _ q) => ?_
    repeat tb_rel
    have so : Sub o2 (o2.put q (.list (due.map V.int))) := by top_raise0
    refine T2.ne (.list (Own.put_self _ _ _) (RdAll.ints _ due)) (.list (so _ _ g3) (RdAll.ints _ due)) (canLay_ints due) (canLay_ints due) (dep_list due) ?_
    rw [eqv_intsR]
    repeat tb_rel
    refine ⟨(by first | exact tf | exact ft), fun _ => ?_⟩
    refine TT.orf ?_
    repeat tb_rel
    refine TN.list_list (so _ _ gwd) (words_len _) fun q2 (hq2 : Fresh _ q2) => ?_
    have so2 : Sub o2 ((o2.put q (.list (due.map V.int))).put q2 (.list (wordsV (signs.any (badD T0 late only))))) := by top_raise0
    have gq2 : ((o2.put q (.list (due.map V.int))).put q2 (.list (wordsV (signs.any (badD T0 late only))))) q2 = some (.list (wordsV (signs.any (badD T0 late only)))) := Own.put_self _ _ _
    generalize (o2.put q (.list (due.map V.int))).put q2 (.list (wordsV (signs.any (badD T0 late only)))) = o4 at so2 gq2 ⊢
    refine TE.mono (Q := fun v o' => Sub o4 o' ∧ ∃ e, .obj e = v ∧ o' e = some (.list (wordsV (signs.any (badD T0 late only))))) ?_ ?_
    · refine TE.ifef ?_
      repeat tb_rel
      refine ⟨fun eb => ?_, fun eb => ?_⟩
      · rw [eb]
        repeat tb_rel
        intro e (he : Fresh _ e)
        exact ⟨Sub.alloc he .refl, e, rfl, Own.put_self _ _ _⟩
      · rw [eb]
        repeat tb_rel
        intro e (he : Fresh _ e)
        exact ⟨Sub.alloc he .refl, e, rfl, Own.put_self _ _ _⟩
    rintro _ o5 ⟨so5, e, rfl, ge⟩
    refine T2.ne_words (so5 _ _ gq2) ge ?_
    replace so5 := so2.trans so5
    repeat tb_rel
    refine ⟨(by first | exact tf | exact ft), fun _ => ?_⟩
    refine TT.orf ?_
    repeat tb_rel
    refine T2.ne (.list (so5 _ _ (s10 _ _ z5)) (RdAll.ints _ signs)) (.list (so5 _ _ ((s1.trans s2) _ _ x9)) (RdAll.ints _ signs)) (canLay_ints signs) (canLay_ints signs) (dep_list signs) ?_
    rw [eqv_intsR]
    repeat tb_rel
    refine ⟨(by first | exact tf | exact ft), fun _ => ?_⟩
    repeat tb_rel
    exact ⟨rfl, so5⟩
  rintro _ o3 ⟨rfl, s11⟩
  refine ⟨(by first | exact tf | exact ft), fun _ => ?_⟩
  repeat tb_rel
  replace s10 := s10.trans s11
  refine tc_maplabel hB (I.sub s10) K Pr (s11 _ _ g3) c3 c4 fun o6 f6 wd6 s6 g6 gwd6 => ?_
  replace g3 := s6 _ _ (s11 _ _ g3)
  repeat tb_rel
  refine TS.iff ?_
  refine TT.mono (Q := fun v o' => Sub o6 o' ∧ (v = false → signs.any (badD T0 late only) = false ∧ 61 ∉ due ∧ 7841 ∉ due)) ?_ ?_
  · refine TT.orf ?_
    repeat tb_rel
    refine ⟨fun e => ⟨.refl, (by first | exact tf | exact ft)⟩, fun e1 => ?_⟩
    refine TT.orf ?_
    repeat tb_rel
    refine T2.in_ints g3 ?_
    repeat tb_rel
    refine ⟨fun e => ⟨.refl, (by first | exact tf | exact ft)⟩, fun e2 => ?_⟩
    refine TT.orf ?_
    repeat tb_rel
    refine T2.in_ints g3 ?_
    repeat tb_rel
    refine ⟨fun e => ⟨.refl, (by first | exact tf | exact ft)⟩, fun e3 => ?_⟩
    repeat tb_rel
    exact ⟨.refl, fun _ => ⟨e1, of_decide_eq_false e2, of_decide_eq_false e3⟩⟩
  rintro v7' o7' ⟨s7, hv7⟩
  refine ⟨fun _ => ?_, fun e => ?_⟩
  · repeat tb_rel
    exact rfl
  obtain ⟨b1, b2, b3⟩ := hv7 e
  obtain ⟨n1, n2⟩ := c5 b1 b2 b3
  rw [n2] at g6
  rw [n1] at gwd6
  repeat tb_rel
  refine TE.andb ?_
  repeat tb_rel
  refine TN.list_list (s7 _ _ g6) (ints_len ld (by decide)) fun q (hq : Fresh _ q) => ?_
  repeat tb_rel
  have so : Sub o7' (o7'.put q (.list (due.map V.int))) := by top_raise0
  refine T2.eq (.list (Own.put_self _ _ _) (RdAll.ints _ due)) (.list (so _ _ (s7 _ _ g3)) (RdAll.ints _ due)) (canLay_ints due) (canLay_ints due) (dep_list due) ?_
  rw [eqv_intsR]
  refine ⟨true, rfl, (by first | exact tf | exact ft), fun _ => ?_⟩
  repeat tb_rel
  refine TN.list_list (so _ _ (s7 _ _ gwd6)) (words_len _) fun q2 (hq2 : Fresh _ q2) => ?_
  repeat tb_rel
  intro e (he : Fresh _ e)
  repeat tb_rel
  refine T2.eq (.list (Own.put_ne _ _ (ne_base he (Own.put_self _ _ _)) |>.trans (Own.put_self _ _ _)) .nil) (.list (Own.put_self _ _ _) .nil) rfl rfl (by decide) ?_
  exact rfl
theorem lcc_mark {c : Int} (h : 0 < lcc c) : c = 769 ∨ c = 803 := by
  unfold lcc at h
  split at h
  · exact .inl ‹_›
  · split at h
    · exact .inr ‹_›
    · exact absurd h (by decide)
theorem lcc_nn (c : Int) : 0 ≤ lcc c := by unfold lcc; split <;> first | decide | (split <;> decide)
theorem lcc_le (c : Int) : lcc c ≤ 230 := by unfold lcc; split <;> first | decide | (split <;> decide)
theorem lcc_lo {c : Int} (h : c ≠ 769) : lcc c ≤ 220 := by unfold lcc; rw [if_neg h]; split <;> decide
theorem backN_snoc (k : Int) (xs : List Int) (y : Int) : ∀ n, n ≤ xs.length → backN k (xs ++ [y]) n = backN k xs n
  | 0, _ => rfl
  | n + 1, h => by
    have e : (xs ++ [y]).getD n 0 = xs.getD n 0 := by
      rw [List.getD_eq_getElem?_getD, List.getD_eq_getElem?_getD, List.getElem?_append_left h]
    rw [backN, backN, e, backN_snoc k xs y n (Nat.le_of_succ_le h)]
theorem lawIns_snoc (xs : List Int) (y c : Int) : lawIns (xs ++ [y]) c = if 0 < lcc c ∧ lcc c < lcc y then lawIns xs c ++ [y] else xs ++ [y] ++ [c] := by
  unfold lawIns
  have e : (xs ++ [y]).getD xs.length 0 = y := by simp [List.getD_eq_getElem?_getD]
  rw [List.length_append, List.length_singleton, backN, e]
  split
  · rw [backN_snoc _ _ _ _ (Nat.le_refl _)]
    have := backN_le (lcc c) xs xs.length
    rw [List.take_append_of_le_length this, List.drop_append_of_le_length this]; simp
  · rw [List.take_of_length_le (by simp), List.drop_of_length_le (by simp)]
theorem snoc_of (f : List Int) : f = [] ∨ ∃ g y, f = g ++ [y] := by
  rcases List.eq_nil_or_concat f with e | ⟨g, y, e⟩
  · exact .inl e
  · exact .inr ⟨g, y, by rw [e, List.concat_eq_append]⟩
theorem lawIns_hi {c : Int} (h : c ≠ 803) (f : List Int) : lawIns f c = f ++ [c] := by
  rcases snoc_of f with rfl | ⟨g, y, rfl⟩
  · rfl
  · rw [lawIns_snoc, if_neg]
    rintro ⟨h1, h2⟩
    rcases lcc_mark h1 with e | e
    · rw [e] at h2; exact absurd (Int.lt_of_lt_of_le h2 (lcc_le y)) (by decide)
    · exact h e
theorem lawIns_lo {y : Int} (h : y ≠ 769) (f : List Int) : lawIns (f ++ [y]) 803 = f ++ [y] ++ [803] := by
  rw [lawIns_snoc, if_neg]
  rintro ⟨_, h2⟩
  exact absurd (Int.lt_of_lt_of_le h2 (lcc_lo h)) (by decide)
theorem lawIns_past (f : List Int) : lawIns (f ++ [769]) 803 = lawIns f 803 ++ [769] := by rw [lawIns_snoc, if_pos (by decide)]
theorem lawOrd_app : ∀ (a b f : List Int), lawOrd f (a ++ b) = lawOrd (lawOrd f a) b
  | [], b, f => rfl
  | c :: a, b, f => by rw [List.cons_append, lawOrd, lawOrd, lawOrd_app a b]
theorem lawOrd_snoc (a : List Int) (c : Int) (f : List Int) : lawOrd f (a ++ [c]) = lawIns (lawOrd f a) c := by rw [lawOrd_app]; rfl
theorem ord_ins803 : ∀ (n : Nat) (g : List Int), g.length = n → lawOrd [] (lawIns g 803) = lawIns (lawOrd [] g) 803 := by
  intro n
  induction n with
  | zero => intro g h; rw [List.length_eq_zero_iff.mp h]; rfl
  | succ n ih =>
    intro g h
    rcases snoc_of g with rfl | ⟨g, y, rfl⟩
    · cases h
    · by_cases hy : y = 769
      · subst hy
        rw [List.length_append, List.length_singleton] at h
        rw [lawIns_past, lawOrd_snoc, ih g (Nat.succ.inj h), lawOrd_snoc, lawIns_hi (c := 769) (by decide), lawIns_hi (c := 769) (by decide), lawIns_past]
      · rw [lawIns_lo hy, lawOrd_snoc]
theorem ord_ins (g : List Int) (c : Int) : lawOrd [] (lawIns g c) = lawIns (lawOrd [] g) c := by
  by_cases h : c = 803
  · subst h; exact ord_ins803 _ g rfl
  · rw [lawIns_hi h, lawOrd_snoc]
theorem ord_idem : ∀ (t f : List Int), lawOrd [] f = f → lawOrd [] (lawOrd f t) = lawOrd f t
  | [], f, h => h
  | c :: t, f, h => by rw [lawOrd]; exact ord_idem t _ (by rw [ord_ins, h])
theorem lawIns_mem {x c : Int} {f : List Int} (h : x ∈ lawIns f c) : x ∈ f ∨ x = c := by
  unfold lawIns at h
  rcases List.mem_append.mp h with h | h
  · exact .inl (List.mem_of_mem_take h)
  · rcases List.mem_cons.mp h with h | h
    · exact .inr h
    · exact .inl (List.mem_of_mem_drop h)
theorem lawOrd_mem {x : Int} : ∀ {t f : List Int}, x ∈ lawOrd f t → x ∈ f ∨ x ∈ t
  | [], f, h => .inl h
  | c :: t, f, h => by
    rw [lawOrd] at h
    rcases lawOrd_mem h with h | h
    · rcases lawIns_mem h with h | h
      · exact .inl h
      · exact .inr (h ▸ .head _)
    · exact .inr (.tail _ h)
noncomputable def Mks (r : List Int) : Prop := ∀ m ∈ r, m = 769 ∨ m = 803
noncomputable def rns (a b : Nat) : List Int := List.replicate a 803 ++ List.replicate b 769
theorem rns_hi (a b : Nat) : rns a (b + 1) = rns a b ++ [769] := by unfold rns; rw [List.replicate_succ', ← List.append_assoc]
theorem rns_lo (a b : Nat) : rns (a + 1) b = 803 :: rns a b := by unfold rns; rw [List.replicate_succ]; rfl
theorem rns_lo' (a : Nat) : rns (a + 1) 0 = rns a 0 ++ [803] := by unfold rns; rw [List.replicate_succ']; simp
theorem insI_lo (a b : Nat) : insI lcc 803 (rns a b) = rns (a + 1) b := by
  rw [rns_lo]
  cases a with
  | succ a => rw [rns_lo, insI, if_pos (by decide)]
  | zero => cases b with
    | zero => rfl
    | succ b =>
      have : rns 0 (b + 1) = 769 :: List.replicate b 769 := by unfold rns; rw [List.replicate_succ]; rfl
      rw [this, insI, if_pos (by decide)]
theorem insI_hi : ∀ a b : Nat, insI lcc 769 (rns a b) = rns a (b + 1)
  | 0, 0 => rfl
  | 0, b + 1 => by
    have e : ∀ n, rns 0 (n + 1) = 769 :: List.replicate n 769 := fun n => by unfold rns; rw [List.replicate_succ]; rfl
    rw [e, insI, if_pos (by decide), e, List.replicate_succ]
  | a + 1, b => by rw [rns_lo, insI, if_neg (by decide), insI_hi a b, rns_lo]
theorem isort_rns : ∀ {r : List Int}, Mks r → isort lcc r = rns (r.count 803) (r.count 769)
  | [], _ => rfl
  | x :: r, h => by
    rw [isort, isort_rns fun m hm => h m (.tail _ hm)]
    rcases h x (.head _) with e | e
    · subst e
      rw [insI_hi, List.count_cons_self, List.count_cons_of_ne (by decide)]
    · subst e
      rw [insI_lo, List.count_cons_self, List.count_cons_of_ne (by decide)]
noncomputable def Ends (f : List Int) : Prop := f = [] ∨ ∃ g y, f = g ++ [y] ∧ y ≠ 769
theorem ins_run_lo {f : List Int} (hf : Ends f) (a : Nat) : ∀ b, lawIns (f ++ rns a b) 803 = f ++ rns (a + 1) b
  | b + 1 => by rw [rns_hi, rns_hi, ← List.append_assoc, lawIns_past, ins_run_lo hf a b, List.append_assoc]
  | 0 => by
    rw [rns_lo']
    cases a with
    | succ a => rw [rns_lo', ← List.append_assoc, lawIns_lo (by decide), List.append_assoc, List.append_assoc, List.append_assoc]
    | zero =>
      rcases hf with rfl | ⟨g, y, rfl, hy⟩
      · rfl
      · rw [show rns 0 0 = [] from rfl, List.append_nil, lawIns_lo hy]; rfl
theorem ins_run {f r : List Int} {c : Int} (hf : Ends f) (hr : Mks r) (hc : c = 769 ∨ c = 803) : lawIns (f ++ isort lcc r) c = f ++ isort lcc (r ++ [c]) := by
  rw [isort_rns hr, isort_rns (r := r ++ [c]) (fun m hm => by
    rcases List.mem_append.mp hm with hm | hm
    · exact hr m hm
    · rw [List.mem_singleton.mp hm]; exact hc)]
  rw [List.count_append, List.count_append]
  rcases hc with rfl | rfl
  · rw [lawIns_hi (by decide), List.append_assoc, ← rns_hi]; rfl
  · rw [ins_run_lo hf]; rfl
theorem ordGo_eq : ∀ (t f r : List Int), Ends f → Mks r → ordGo lcc f r t = lawOrd (f ++ isort lcc r) t
  | [], f, r, _, _ => rfl
  | c :: t, f, r, hf, hr => by
    rw [ordGo, lawOrd]
    split
    · rename_i h
      have hc := lcc_mark h
      rw [ordGo_eq t f (r ++ [c]) hf fun m hm => by
        rcases List.mem_append.mp hm with hm | hm
        · exact hr m hm
        · rw [List.mem_singleton.mp hm]; exact hc]
      rw [ins_run hf hr hc]
    · rename_i h
      have n1 : c ≠ 769 := fun e => h (by rw [e]; decide)
      have n2 : c ≠ 803 := fun e => h (by rw [e]; decide)
      rw [ordGo_eq t _ [] (.inr ⟨_, _, rfl, n1⟩) (by intro m h; cases h), lawIns_hi n2]
      show lawOrd (f ++ isort lcc r ++ [c] ++ []) t = _
      rw [List.append_nil]
theorem mo_lt (k : Int) : ∀ (M : List Int) (a : Int), M.foldl (fun mo c => if lcc c > mo then lcc c else mo) a < k ↔ a < k ∧ ∀ m ∈ M, lcc m < k
  | [], a => ⟨fun h => ⟨h, fun _ h => nomatch h⟩, fun h => h.1⟩
  | m :: M, a => by
    rw [List.foldl_cons, mo_lt k M]
    constructor
    · rintro ⟨h1, h2⟩
      split at h1
      · rename_i h
        exact ⟨Int.lt_trans h h1, fun z hz => by
          rcases List.mem_cons.mp hz with e | e
          · rw [e]; exact h1
          · exact h2 z e⟩
      · rename_i h
        exact ⟨h1, fun z hz => by
          rcases List.mem_cons.mp hz with e | e
          · rw [e]; exact Int.lt_of_le_of_lt (Int.not_lt.mp h) h1
          · exact h2 z e⟩
    · rintro ⟨h1, h2⟩
      refine ⟨?_, fun z hz => h2 z (.tail _ hz)⟩
      split
      · exact h2 m (.head _)
      · exact h1
theorem pr_whole (pq : List (Int × Int × Int)) (x c : Int) : prLook pq x c = (lWhole pq (some x) c).head? := by
  unfold prLook lWhole
  rw [List.head?_map, List.head?_filter]
  congr 2
  funext q
  have : (some x = some q.2.1 ∧ q.2.2 = c) ↔ (q.2.1 = x ∧ q.2.2 = c) := ⟨fun h => ⟨(Option.some.inj h.1).symm, h.2⟩, fun h => ⟨by rw [h.1], h.2⟩⟩
  exact decide_eq_decide.mpr this.symm
theorem whole_none (pq : List (Int × Int × Int)) (c : Int) : lWhole pq none c = [] := by
  unfold lWhole
  rw [List.filter_eq_nil_iff.mpr (fun q _ => by simp)]; rfl
noncomputable def gsOut (acc : List (Option Int × List Int)) : List Int := acc.flatMap gOut
theorem gsOut_snoc (acc : List (Option Int × List Int)) (L : Option Int) (M : List Int) : gsOut (acc ++ [(L, M)]) = gsOut acc ++ (L.toList ++ M) := by
  unfold gsOut; rw [List.flatMap_append, List.flatMap_singleton]; rfl
noncomputable def stOf (acc : List (Option Int × List Int)) : Option Int → Int
  | none => -1
  | some _ => (gsOut acc).length
noncomputable def moOf (M : List Int) : Int := M.foldl (fun mo c => if lcc c > mo then lcc c else mo) (-1)
theorem free_iff (M : List Int) (c : Int) : (M.any fun m => decide (lcc c ≤ lcc m)) = false ↔ moOf M < lcc c := by
  unfold moOf
  rw [mo_lt, List.any_eq_false]
  constructor
  · intro h
    exact ⟨Int.lt_of_lt_of_le (by decide) (lcc_nn c), fun m hm => Int.not_le.mp fun q => h m hm (decide_eq_true q)⟩
  · rintro ⟨_, h⟩ m hm q
    exact absurd (of_decide_eq_true q) (Int.not_le.mpr (h m hm))
theorem comp_eq (pq : List (Int × Int × Int)) (hp : ∀ q ∈ pq, lcc q.2.2 ≠ 0) : ∀ (t : List Int) (acc : List (Option Int × List Int)) (L : Option Int) (M : List Int) (mo : Int), (L ≠ none → mo = moOf M) →
    compGo lcc pq (gsOut acc ++ (L.toList ++ M)) (stOf acc L) mo t = gsOut (lGo pq acc L M t)
  | [], acc, L, M, mo, _ => by rw [lGo, compGo, gsOut_snoc]
  | c :: t, acc, L, M, mo, hm => by
    rw [compGo, lGo]
    cases L with
    | none =>
      have e : compTry lcc pq (gsOut acc ++ ((none : Option Int).toList ++ M)) (stOf acc none) mo c = none := by
        unfold compTry; rw [if_neg]; rintro ⟨h, _⟩; exact absurd (show (0 : Int) ≤ -1 from h) (by decide)
      rw [e, whole_none]
      have hw : ¬ ((M.any fun m => decide (lcc c ≤ lcc m)) = false ∧ ([] : List Int) ≠ []) := fun h => h.2 rfl
      rw [if_neg hw]
      by_cases h0 : lcc c = 0
      · rw [if_pos h0]
        simp only
        rw [if_pos h0, ← gsOut_snoc]
        exact (by simpa [stOf] using comp_eq pq hp t (acc ++ [(none, M)]) (some c) [] (-1) (fun _ => rfl))
      · rw [if_neg h0]
        simp only
        rw [if_neg h0]
        have := comp_eq pq hp t acc none (M ++ [c]) (if lcc c > mo then lcc c else mo) (fun h => absurd rfl h)
        rw [← this, List.append_assoc, List.append_assoc]
    | some x =>
      have hm := hm (by intro e; cases e)
      subst hm
      have len : (gsOut acc ++ ((some x).toList ++ M)).length = (gsOut acc).length + 1 + M.length := by
        simp only [List.length_append, Option.toList_some, List.length_singleton]; omega
      have gd : (gsOut acc ++ ((some x).toList ++ M)).getD (stOf acc (some x)).toNat 0 = x := by
        show (gsOut acc ++ ([x] ++ M)).getD (((gsOut acc).length : Int)).toNat 0 = x
        rw [Int.toNat_natCast, List.getD_eq_getElem?_getD]; simp
      have cnd : (0 ≤ stOf acc (some x) ∧ (stOf acc (some x) = ((gsOut acc ++ ((some x).toList ++ M)).length : Int) - 1 ∨ moOf M < lcc c)) ↔ (M = [] ∨ moOf M < lcc c) := by
        rw [len]
        show (0 ≤ ((gsOut acc).length : Int) ∧ (((gsOut acc).length : Int) = _ ∨ _)) ↔ _
        constructor
        · rintro ⟨_, h | h⟩
          · exact .inl (List.length_eq_zero_iff.mp (by omega))
          · exact .inr h
        · rintro (h | h)
          · subst h; exact ⟨Int.natCast_nonneg _, .inl (by simp)⟩
          · exact ⟨Int.natCast_nonneg _, .inr h⟩
      by_cases h0 : lcc c = 0
      · have e : compTry lcc pq (gsOut acc ++ ((some x).toList ++ M)) (stOf acc (some x)) (moOf M) c = none := by
          unfold compTry
          split
          · rw [gd, pr_whole]
            have : lWhole pq (some x) c = [] := by
              unfold lWhole
              rw [List.filter_eq_nil_iff.mpr (fun q hq => by
                intro h
                have := of_decide_eq_true h
                exact hp q hq (by rw [this.2]; exact h0))]; rfl
            rw [this]; rfl
          · rfl
        rw [e, if_pos h0]
        simp only
        rw [if_pos h0, ← gsOut_snoc]
        exact (by simpa [stOf] using comp_eq pq hp t (acc ++ [(some x, M)]) (some c) [] (-1) (fun _ => rfl))
      · rw [if_neg h0]
        have pos : -1 < lcc c := Int.lt_of_lt_of_le (by decide) (lcc_nn c)
        have fr : (M = [] ∨ moOf M < lcc c) ↔ (M.any fun m => decide (lcc c ≤ lcc m)) = false := by
          rw [free_iff]
          exact ⟨fun h => h.elim (fun e => by rw [e]; exact pos) id, .inr⟩
        by_cases hw : (M.any fun m => decide (lcc c ≤ lcc m)) = false ∧ lWhole pq (some x) c ≠ []
        · rw [if_pos hw]
          have e : compTry lcc pq (gsOut acc ++ ((some x).toList ++ M)) (stOf acc (some x)) (moOf M) c = some ((lWhole pq (some x) c).headD 0) := by
            unfold compTry
            rw [if_pos (cnd.mpr (fr.mpr hw.1)), gd, pr_whole]
            cases hh : lWhole pq (some x) c with
            | nil => exact absurd hh hw.2
            | cons a r => rfl
          rw [e]
          simp only
          rw [if_neg h0, ← comp_eq pq hp t acc (some ((lWhole pq (some x) c).headD 0)) M (moOf M) (fun _ => rfl)]
          congr 1
          show (gsOut acc ++ ([x] ++ M)).set (((gsOut acc).length : Int)).toNat _ = gsOut acc ++ ([_] ++ M)
          rw [Int.toNat_natCast, List.set_append_right _ _ (Nat.le_refl _), Nat.sub_self]; rfl
        · rw [if_neg hw]
          have e : compTry lcc pq (gsOut acc ++ ((some x).toList ++ M)) (stOf acc (some x)) (moOf M) c = none := by
            unfold compTry
            split
            · rename_i hc
              rw [gd, pr_whole]
              have h1 := fr.mp (cnd.mp hc)
              have : lWhole pq (some x) c = [] := by
                by_cases q : lWhole pq (some x) c = []
                · exact q
                · exact absurd ⟨h1, q⟩ hw
              rw [this]; rfl
            · rfl
          rw [e]
          simp only
          rw [if_neg h0]
          have := comp_eq pq hp t acc (some x) (M ++ [c]) (if lcc c > moOf M then lcc c else moOf M) (fun _ => by unfold moOf; rw [List.foldl_append]; rfl)
          rw [← this, List.append_assoc, List.append_assoc]
noncomputable def dqOf (pq : List (Int × Int × Int)) (c : Int) : Option (Int × Int) := pq.lookup c
theorem feOf_pt (pq : List (Int × Int × Int)) : feOf (dqOf pq) = ptOf pq := by
  funext c; unfold feOf dqOf ptOf; cases pq.lookup c <;> rfl
theorem nfc_law (pq : List (Int × Int × Int)) (hp : ∀ q ∈ pq, lcc q.2.2 ≠ 0) (x : List Int) : nfcL lcc (dqOf pq) pq x = lComp pq x := by
  unfold nfcL deco
  rw [ordGo_eq _ _ _ (.inl rfl) (by intro m h; cases h), feOf_pt]
  exact comp_eq pq hp _ [] none [] (-1) (fun h => absurd rfl h)
theorem ord_swap {c : Int} : ∀ {M : List Int}, (∀ m ∈ M, 0 < lcc m ∧ lcc m < lcc c) → ∀ f, lawOrd f (M ++ [c]) = lawOrd f (c :: M)
  | [], _, f => rfl
  | m :: M, h, f => by
    obtain ⟨h1, h2⟩ := h m (.head _)
    have hc : c = 769 := by
      rcases lcc_mark (Int.lt_trans h1 h2) with e | e
      · exact e
      · rw [e] at h2; rcases lcc_mark h1 with e' | e' <;> rw [e'] at h2 <;> exact absurd h2 (by decide)
    have hm : m = 803 := by
      rcases lcc_mark h1 with e | e
      · rw [e] at h2; exact absurd (Int.lt_of_lt_of_le h2 (lcc_le c)) (by decide)
      · exact e
    subst hc; subst hm
    rw [List.cons_append, lawOrd, ord_swap (fun z hz => h z (.tail _ hz)), lawOrd, lawOrd, lawOrd, lawIns_hi (c := 769) (by decide), lawIns_hi (c := 769) (by decide), lawIns_past]
theorem head_of {pq : List (Int × Int × Int)} {L : Option Int} {c : Int} (h : lWhole pq L c ≠ []) : ∃ q ∈ pq, (lWhole pq L c).headD 0 = q.1 ∧ L = some q.2.1 ∧ q.2.2 = c := by
  unfold lWhole at h ⊢
  cases hf : pq.filter (fun q => decide (L = some q.2.1 ∧ q.2.2 = c)) with
  | nil => rw [hf] at h; exact absurd rfl h
  | cons q r =>
    have hq : q ∈ pq.filter (fun q => decide (L = some q.2.1 ∧ q.2.2 = c)) := by rw [hf]; exact .head _
    obtain ⟨h1, h2⟩ := List.mem_filter.mp hq
    have h2 := of_decide_eq_true h2
    exact ⟨q, h1, rfl, h2.1, h2.2⟩
structure PqOk (pq : List (Int × Int × Int)) : Prop where
  hi : ∀ q ∈ pq, lcc q.2.2 ≠ 0
  pt : ∀ q ∈ pq, ptOf pq q.1 = [q.2.1, q.2.2]
  st : ∀ c, ∀ z ∈ ptOf pq c, ptOf pq z = [z]
theorem PqOk.one {pq : List (Int × Int × Int)} (h : PqOk pq) {q : Int × Int × Int} (hq : q ∈ pq) : ptOf pq q.2.1 = [q.2.1] ∧ ptOf pq q.2.2 = [q.2.2] := by
  have e := h.pt q hq
  exact ⟨h.st q.1 _ (by rw [e]; exact .head _), h.st q.1 _ (by rw [e]; exact .tail _ (.head _))⟩
theorem flat_id {f : Int → List Int} : ∀ {l : List Int}, (∀ z ∈ l, f z = [z]) → l.flatMap f = l
  | [], _ => rfl
  | z :: l, h => by rw [List.flatMap_cons, h z (.head _), flat_id fun y hy => h y (.tail _ hy)]; rfl
theorem comp_back {pq : List (Int × Int × Int)} (P : PqOk pq) {o : List Int} : ∀ (t : List Int) (acc : List (Option Int × List Int)) (L : Option Int) (M : List Int), (∀ m ∈ M, 0 < lcc m ∧ ptOf pq m = [m]) → (∀ z ∈ t, ptOf pq z = [z]) →
    lawOrd [] ((gsOut acc ++ (L.toList ++ M) ++ t).flatMap (ptOf pq)) = o → lawOrd [] ((gsOut (lGo pq acc L M t)).flatMap (ptOf pq)) = o
  | [], acc, L, M, _, _, h => by rw [lGo, gsOut_snoc]; rwa [List.append_nil] at h
  | c :: t, acc, L, M, hM, ht, h => by
    have hc := ht c (.head _)
    have ht' : ∀ z ∈ t, ptOf pq z = [z] := fun z hz => ht z (.tail _ hz)
    rw [lGo]
    by_cases h0 : lcc c = 0
    · rw [if_pos h0]
      refine comp_back P t _ _ _ all_nil ht' ?_
      rw [gsOut_snoc]
      simpa using h
    · rw [if_neg h0]
      split
      · rename_i hw
        obtain ⟨q, hq, e1, e2, e3⟩ := head_of hw.2
        refine comp_back P t _ _ _ hM ht' ?_
        rw [e1]
        subst e2; subst e3
        obtain ⟨p1, p2⟩ := P.one hq
        have hMM : M.flatMap (ptOf pq) = M := flat_id fun z hz => (hM z hz).2
        have sw := ord_swap (c := q.2.2) (M := M) (fun m hm => ⟨(hM m hm).1, Int.not_le.mp fun z => by
          have := List.any_eq_false.mp hw.1 m hm
          exact this (decide_eq_true z)⟩)
        simp only [List.flatMap_append, Option.toList_some, List.flatMap_cons, List.flatMap_nil, List.append_nil, p1, p2, hMM, P.pt q hq] at h ⊢
        rw [← h]
        have key : ∀ X T : List Int, lawOrd [] (X ++ M ++ [q.2.2] ++ T) = lawOrd [] (X ++ [q.2.2] ++ M ++ T) := fun X T => by
          rw [List.append_assoc X M, lawOrd_app _ T, lawOrd_app X, sw, ← lawOrd_app X, ← lawOrd_app _ T, List.append_assoc X [q.2.2]]; rfl
        have := key ((gsOut acc).flatMap (ptOf pq) ++ [q.2.1]) (t.flatMap (ptOf pq))
        simp only [List.append_assoc, List.cons_append, List.nil_append] at this ⊢
        exact this.symm
      · refine comp_back P t _ _ _ (fun m hm => ?_) ht' ?_
        · rcases List.mem_append.mp hm with hm | hm
          · exact hM m hm
          · rw [List.mem_singleton.mp hm]
            exact ⟨by have := lcc_nn c; omega, hc⟩
        · simpa using h
theorem lGo_mem {pq : List (Int × Int × Int)} {x : Int} : ∀ (t : List Int) (acc : List (Option Int × List Int)) (L : Option Int) (M : List Int), x ∈ gsOut (lGo pq acc L M t) → x ∈ gsOut acc ++ (L.toList ++ M) ∨ x ∈ t ∨ x ∈ pq.map (·.1)
  | [], acc, L, M, h => by rw [lGo, gsOut_snoc] at h; exact .inl h
  | c :: t, acc, L, M, h => by
    rw [lGo] at h
    split at h
    · rcases lGo_mem t _ _ _ h with h | h | h
      · rw [gsOut_snoc] at h
        rcases List.mem_append.mp h with h | h
        · exact .inl h
        · rw [List.append_nil, Option.toList_some, List.mem_singleton] at h
          exact .inr (.inl (h ▸ .head _))
      · exact .inr (.inl (.tail _ h))
      · exact .inr (.inr h)
    · split at h
      · rename_i hw
        rcases lGo_mem t _ _ _ h with h | h | h
        · rcases List.mem_append.mp h with h | h
          · exact .inl (List.mem_append_left _ h)
          · rcases List.mem_append.mp h with h | h
            · obtain ⟨q, hq, e, _⟩ := head_of hw.2
              rw [Option.toList_some, List.mem_singleton, e] at h
              exact .inr (.inr (h ▸ List.mem_map_of_mem hq))
            · exact .inl (List.mem_append_right _ (List.mem_append_right _ h))
        · exact .inr (.inl (.tail _ h))
        · exact .inr (.inr h)
      · rcases lGo_mem t _ _ _ h with h | h | h
        · rcases List.mem_append.mp h with h | h
          · exact .inl (List.mem_append_left _ h)
          · rw [← List.append_assoc] at h
            rcases List.mem_append.mp h with h | h
            · exact .inl (List.mem_append_right _ h)
            · rw [List.mem_singleton] at h; exact .inr (.inl (h ▸ .head _))
        · exact .inr (.inl (.tail _ h))
        · exact .inr (.inr h)
theorem lComp_mem {pq : List (Int × Int × Int)} {x : Int} {s : List Int} (h : x ∈ lComp pq s) : x ∈ s.flatMap (ptOf pq) ∨ x ∈ pq.map (·.1) := by
  rcases lGo_mem (pq := pq) _ [] none [] h with h | h | h
  · cases h
  · rcases lawOrd_mem h with h | h
    · cases h
    · exact .inl h
  · exact .inr h
theorem lComp_len (pq : List (Int × Int × Int)) (s : List Int) : (lComp pq s).length ≤ 1 + (s.flatMap (ptOf pq)).length := by
  have := lGo_len pq (lawOrd [] (s.flatMap (ptOf pq))) [] none []
  rw [lawOrd_len] at this
  simpa [lComp, gOut] using this
theorem lComp_idem {pq : List (Int × Int × Int)} (P : PqOk pq) (s : List Int) : lComp pq (lComp pq s) = lComp pq s := by
  have ho : ∀ z ∈ lawOrd [] (s.flatMap (ptOf pq)), ptOf pq z = [z] := fun z hz => by
    rcases lawOrd_mem hz with h | h
    · cases h
    · obtain ⟨c, _, hc⟩ := List.mem_flatMap.mp h
      exact P.st c z hc
  have := comp_back P (o := lawOrd [] (s.flatMap (ptOf pq))) (lawOrd [] (s.flatMap (ptOf pq))) [] none [] all_nil ho (by
    show lawOrd [] ((lawOrd [] (s.flatMap (ptOf pq))).flatMap (ptOf pq)) = _
    rw [flat_id ho, ord_idem _ [] rfl])
  show gsOut (lGo pq [] none [] (lawOrd [] ((gsOut (lGo pq [] none [] (lawOrd [] (s.flatMap (ptOf pq))))).flatMap (ptOf pq)))) = gsOut (lGo pq [] none [] (lawOrd [] (s.flatMap (ptOf pq))))
  rw [this]
structure PqFin (pq : List (Int × Int × Int)) : Prop where
  ok : PqOk pq
  a : ∀ c ∈ order0, ∀ late only : Bool, ∀ z ∈ mapD T0 late only c, ∀ y ∈ ptOf pq z, y ∈ cs0
  b : ∀ c ∈ order0, ∀ late only : Bool, ((mapD T0 late only c).flatMap (ptOf pq)).length ≤ 2
  c : ∀ q ∈ pq, q.1 ∈ cs0
  d : ∀ z ∈ cs0, ∀ late only : Bool, (mapD T0 late only z).length ≤ 2
  e : ∀ c ∈ order0, ∀ late only : Bool, badD T0 late only c = false → ∀ z ∈ mapD T0 late only c, ∀ y ∈ ptOf pq z, mapOne T0 y late only = some [y] ∨ y = 61 ∨ y = 7841
  f : ∀ q ∈ pq, ∀ late only : Bool, mapOne T0 q.1 late only = some [q.1] ∨ q.1 = 61 ∨ q.1 = 7841
  nod : (pq.map (·.1)).Nodup
  len : pq.length ≤ 10
theorem flat_len {f : Int → List Int} : ∀ {l : List Int}, (∀ z ∈ l, (f z).length ≤ 2) → (l.flatMap f).length ≤ 2 * l.length
  | [], _ => Nat.le_refl _
  | z :: l, h => by
    have := flat_len (l := l) fun y hy => h y (.tail _ hy)
    have := h z (.head _)
    rw [List.flatMap_cons, List.length_append, List.length_cons]; omega
theorem flat_two (f g : Int → List Int) (l : List Int) : (l.flatMap f).flatMap g = l.flatMap fun c => (f c).flatMap g := by
  induction l with
  | nil => rfl
  | cons c l ih => rw [List.flatMap_cons, List.flatMap_append, ih, List.flatMap_cons]
theorem pl_of {pq : List (Int × Int × Int)} (X : PqFin pq) {D : DT} (hl : lawData (pvOf pq) = some D) (hd : D.defs = dAll) (K : DOk D T0 lcc (dqOf pq) cs0) (Pr : PrOk D lcc cs0 pq) : PL pq := by
  refine ⟨⟨D, dqOf pq, pq, hl, hd, K, Pr, fun signs hs hz late only => ?_⟩, X.nod, X.len⟩
  have mlen : (signs.flatMap (mapD T0 late only)).length ≤ 14 := Nat.le_trans (flat_len fun z hz => mapD_len z (hs z hz) late only) (by omega)
  have plen : ((signs.flatMap (mapD T0 late only)).flatMap (ptOf pq)).length ≤ 14 := by
    rw [flat_two]
    exact Nat.le_trans (flat_len fun z hz => X.b z (hs z hz) late only) (by omega)
  have clen := lComp_len pq (signs.flatMap (mapD T0 late only))
  have mem : ∀ c ∈ lComp pq (signs.flatMap (mapD T0 late only)), (∃ s ∈ signs, ∃ z ∈ mapD T0 late only s, c ∈ ptOf pq z) ∨ ∃ q ∈ pq, q.1 = c := fun c hc => by
    rcases lComp_mem hc with h | h
    · obtain ⟨z, hz, h1⟩ := List.mem_flatMap.mp h
      obtain ⟨s, h2, h3⟩ := List.mem_flatMap.mp hz
      exact .inl ⟨s, h2, z, h3, h1⟩
    · obtain ⟨q, h1, h2⟩ := List.mem_map.mp h
      exact .inr ⟨q, h1, h2⟩
  have cs : ∀ c ∈ lComp pq (signs.flatMap (mapD T0 late only)), c ∈ cs0 := fun c hc => by
    rcases mem c hc with ⟨s, h1, z, h2, h3⟩ | ⟨q, h1, rfl⟩
    · exact X.a s (hs s h1) late only z h2 c h3
    · exact X.c q h1
  have idem := lComp_idem X.ok (signs.flatMap (mapD T0 late only))
  generalize hdue : lComp pq (signs.flatMap (mapD T0 late only)) = due at clen mem cs idem ⊢
  refine ⟨(nfc_law pq X.ok.hi _).trans hdue, Nat.le_trans mlen (by decide), ⟨cs, by omega⟩, ?_, fun hb n1 n2 => ?_⟩
  · exact Nat.le_trans (flat_len fun z hz => X.d z (cs z hz) late only) (by omega)
  · have one : ∀ c ∈ due, mapOne T0 c late only = some [c] := fun c hc => by
      have : mapOne T0 c late only = some [c] ∨ c = 61 ∨ c = 7841 := by
        rcases mem c hc with ⟨s, h1, z, h2, h3⟩ | ⟨q, h1, rfl⟩
        · exact X.e s (hs s h1) late only (by simpa using List.any_eq_false.mp hb s h1) z h2 c h3
        · exact X.f q h1 late only
      rcases this with h | h | h
      · exact h
      · exact absurd (h ▸ hc) n1
      · exact absurd (h ▸ hc) n2
    have fid : due.flatMap (mapD T0 late only) = due := flat_id fun z hz => by unfold mapD; rw [one z hz]; rfl
    refine ⟨List.any_eq_false.mpr fun z hz => ?_, ?_⟩
    · unfold badD; rw [one z hz]; simp
    · rw [fid, nfc_law pq X.ok.hi, idem]
theorem lookup_key {c : Int} : ∀ {pq : List (Int × Int × Int)}, c ∉ pq.map (·.1) → pq.lookup c = none
  | [], _ => rfl
  | q :: pq, h => by
    have h1 : (c == q.1) = false := by
      have : c ≠ q.1 := fun e => h (by rw [e]; exact .head _)
      simpa using this
    rw [show (q :: pq).lookup c = _ from List.lookup_cons, h1]
    exact lookup_key fun e => h (.tail _ e)
theorem ptOf_key {pq : List (Int × Int × Int)} {c : Int} (h : c ∉ pq.map (·.1)) : ptOf pq c = [c] := by unfold ptOf; rw [lookup_key h]
theorem pqOk_of {pq : List (Int × Int × Int)} (h1 : ∀ q ∈ pq, lcc q.2.2 ≠ 0) (h2 : ∀ q ∈ pq, ptOf pq q.1 = [q.2.1, q.2.2]) (h3 : ∀ q ∈ pq, ∀ z ∈ ptOf pq q.1, ptOf pq z = [z]) : PqOk pq :=
  ⟨h1, h2, fun c z hz => by
    by_cases h : c ∈ pq.map (·.1)
    · obtain ⟨q, hq, rfl⟩ := List.mem_map.mp h
      exact h3 q hq z hz
    · rw [ptOf_key h, List.mem_singleton] at hz
      rw [hz]; exact ptOf_key h⟩
theorem fin1 : PqFin pq1 := ⟨pqOk_of (by decide +kernel) (by decide +kernel) (by decide +kernel), by decide +kernel, by decide +kernel, by decide +kernel, by decide +kernel, by decide +kernel, by decide +kernel, by decide +kernel, by decide⟩
theorem fin2 : PqFin pq2 := ⟨pqOk_of (by decide +kernel) (by decide +kernel) (by decide +kernel), by decide +kernel, by decide +kernel, by decide +kernel, by decide +kernel, by decide +kernel, by decide +kernel, by decide +kernel, by decide⟩
theorem one0 : ∀ c ∈ order0, ∀ late only : Bool, lawOne c late only = mapOne T0 c late only := by decide +kernel
noncomputable def rId : RM := ⟨.tuple [.str wDis, .tuple []], [0, 65, 66, 67, 95, 96, 97, 99, 115, 116, 173, 174, 223, 224, 225, 226, 769, 770, 803, 804, 833, 834, 7838, 7839, 8205, 8206, 8800, 8801], [.tuple [.str wDis, .tuple []], .tuple [.str wMapped, .tuple [.int 97]], .tuple [.str wMapped, .tuple [.int 97, .int 769]], .tuple [.str wDis, .tuple []], .tuple [.str wDV, .tuple []], .tuple [.str wDis, .tuple []], .tuple [.str wValid, .tuple []], .tuple [.str wDis, .tuple []], .tuple [.str wValid, .tuple []], .tuple [.str wDis, .tuple []], .tuple [.str wIgnored, .tuple []], .tuple [.str wDis, .tuple []], .tuple [.str wDev, .tuple [.int 115, .int 115]], .tuple [.str wDis, .tuple []], .tuple [.str wValid, .tuple []], .tuple [.str wDis, .tuple []], .tuple [.str wValid, .tuple []], .tuple [.str wDis, .tuple []], .tuple [.str wValid, .tuple []], .tuple [.str wDis, .tuple []], .tuple [.str wMapped, .tuple [.int 769]], .tuple [.str wDis, .tuple []], .tuple [.str wMapped, .tuple [.int 223]], .tuple [.str wDis, .tuple []], .tuple [.str wDev, .tuple []], .tuple [.str wDis, .tuple []], .tuple [.str wDM, .tuple [.int 61, .int 803]], .tuple [.str wDis, .tuple []]]⟩
noncomputable def rCc : RM := ⟨.int 0, [0, 769, 770, 803, 804], [.int 0, .int 230, .int 0, .int 220, .int 0]⟩
noncomputable def rDm1 : RM := ⟨.none, [0, 225, 226], [.none, .tuple [.str ⟨#[]⟩, .tuple [.int 97, .int 769]], .none]⟩
noncomputable def rDm2 : RM := ⟨.none, [0, 225, 226, 7841, 7842], [.none, .tuple [.str ⟨#[]⟩, .tuple [.int 97, .int 769]], .none, .tuple [.str ⟨#[]⟩, .tuple [.int 97, .int 803]], .none]⟩
noncomputable def dOf (r : RM) : DT := ⟨dAll, [(sIdna, rId), (sCcc, rCc), (sDm, r)]⟩
theorem data1 : lawData (pvOf pq1) = some (dOf rDm1) := by kernel_rfl
theorem data2 : lawData (pvOf pq2) = some (dOf rDm2) := by kernel_rfl
theorem same_all {α : Type} {f g : Int → α} : ∀ {l : List Int}, l.map f = l.map g → ∀ c ∈ l, f c = g c
  | [], _, c, h => nomatch h
  | x :: l, e, c, h => by
    rw [List.map_cons, List.map_cons] at e
    injection e with e1 e2
    rcases List.mem_cons.mp h with q | q
    · rw [q]; exact e1
    · exact same_all e2 c q
theorem dok_of {r : RM} {pq : List (Int × Int × Int)} (h : cs0.map (rmGet r) = cs0.map fun c => some (dmP ((dqOf pq c).map fun q => [q.1, q.2])))
    (hc : ∀ q ∈ pq, q.2.1 ∈ cs0 ∧ q.2.2 ∈ cs0 ∧ dqOf pq q.2.1 = none ∧ dqOf pq q.2.2 = none) : DOk (dOf r) T0 lcc (dqOf pq) cs0 where
  fid := ⟨rId, by kernel_rfl, same_all (by kernel_rfl)⟩
  fcc := ⟨rCc, by kernel_rfl, same_all (by kernel_rfl)⟩
  fdm := ⟨r, by kernel_rfl, same_all h⟩
  ex := ⟨by kernel_rfl, by kernel_rfl⟩
  str := by decide +kernel
  clT := by decide +kernel
  lenT := by decide +kernel
  clD := fun c _ a b e => by
    have : ∀ {l : List (Int × Int × Int)}, l.lookup c = some (a, b) → (c, a, b) ∈ l := by
      intro l
      induction l with
      | nil => intro h; cases h
      | cons q l ih =>
        obtain ⟨x, y⟩ := q
        rw [List.lookup_cons]
        cases hx : c == x with
        | true =>
          intro h
          have h : y = (a, b) := Option.some.inj h
          have hx : c = x := by simpa using hx
          rw [h, hx]; exact .head _
        | false => intro h; exact .tail _ (ih h)
    exact hc _ (this e)
  ok := by decide +kernel
  finj := by decide +kernel
  fnn := fun x _ => lcc_nn x
theorem prok_of {r : RM} {pq : List (Int × Int × Int)} (h1 : rowsOf r = pq.map prRow) (h2 : r.starts.length = r.vals.length) (h3 : ∀ v ∈ r.vals, okD v = true) (h4 : okD r.dflt = true)
    (h5 : ∀ q ∈ pq, q.1 ∈ cs0 ∧ q.2.1 ∈ cs0 ∧ lcc q.1 = 0 ∧ lcc q.2.1 = 0 ∧ 0 ≤ q.1) (h6 : (pq.map fun q => [q.2.1, q.2.2]).Nodup) (h7 : pq.length ≤ 20) : PrOk (dOf r) lcc cs0 pq :=
  ⟨⟨r, by kernel_rfl, h1, h2, h3, h4⟩, h5, h6, h7⟩
theorem pl1 : PL pq1 := pl_of fin1 data1 rfl (dok_of (by kernel_rfl) (by decide +kernel)) (prok_of (by kernel_rfl) rfl (by decide +kernel) (by decide +kernel) (by decide +kernel) (by decide +kernel) (by decide))
theorem pl2 : PL pq2 := pl_of fin2 data2 rfl (dok_of (by kernel_rfl) (by decide +kernel)) (prok_of (by kernel_rfl) rfl (by decide +kernel) (by decide +kernel) (by decide +kernel) (by decide +kernel) (by decide))
theorem ints_vrs {h : Heap} : ∀ {xs : List Value} {ns : List Int}, IntsAre xs ns → VRs h (ns.map V.int) xs
  | _, _, .nil => rfl
  | _, _, .cons n t r => ⟨_, _, rfl, ⟨t, rfl⟩, ints_vrs r⟩
theorem bA {d : Nat} (h : Nat.ble d 100 = true) : Bud d callerA :=
  ⟨rfl, by
    have := Nat.le_of_ble_eq_true h
    show 1 + claimMargin + 3 * d + 3 ≤ recursionLimit
    have e1 : claimMargin = 300 := rfl
    have e2 : recursionLimit = 1000 := rfl
    omega, by
    have := Nat.le_of_ble_eq_true h
    show 4 + 20 * d + 200 ≤ cLine
    have e : 2204 ≤ cLine := by decide +kernel
    omega⟩
noncomputable def tabs0 : List (Addr × Addr) := [(114, 112)]
noncomputable def baseOf (w : World) (s : Shared) (mg mb : Str → Option Value) (loose : List Str) : Base :=
  { K := KK w.params, h₀ := ghostOf s.heap tabs0, P := 112, gens := #[], os := s.os, mg := mg, mb := mb, p := topProg, loose := loose, line := 92, col := 53, cname := ⟨#[102, 111, 114, 109, 95, 115, 111, 114, 116, 101, 100, 46, 60, 108, 111, 99, 97, 108, 115, 62, 46, 60, 108, 97, 109, 98, 100, 97, 62]⟩ }
theorem no_tabs (P : Params) : noTabs (KK P) = true := by kernel_rfl
theorem code_hd (P : Params) : codeHdIn (KK P) 114 112 = true := by kernel_rfl
theorem sys_in (P : Params) : (KK P).lookup sysModules = some (boot_o_1 P) := by kernel_rfl
noncomputable def lawS : Str := ⟨#[108, 97, 119]⟩
theorem law_at (P : Params) : isRefTo 385 (nsIn (KK P) mainGlobals lawS) = true := by kernel_rfl
theorem law_end {w : World} {s₁ : Shared} {mg mb : Str → Option Value} {p : Program} {loose : List Str} {mean : ExcName → Option Value} (prog : Program) (KX : (KK w.params).In s₁.heap) (hP : s₁.heap.get? 112 = some (tabObj #[])) (T : Top p loose mean mg mb s₁.heap) (hg : s₁.gens = #[])
    {a : Addr} {xs : List Value} {ns : List Int} (hL : s₁.heap.IsList a xs.toArray) (hI : IntsAre xs ns) (hz : ns.length ≤ 63) {R : Result → Shared → Prop}
    (h : ∀ s2, (∀ b o, (ghostOf s₁.heap tabs0).get? b = some o → s2.heap.get? b = some o) → s2.os = s₁.os → s2.gens = #[] → (∃ ps, s2.heap.get? 112 = some (tabObj ps)) → R (.ok (.ret (.bool true))) s2) : codeAny (model prog w) callerA (.call (.ref 385) ⟨[.ref a], []⟩) R s₁ := by
  have hT : TabsAt tabs0 s₁.heap := List.forall_mem_cons.mpr ⟨⟨codeHd_of_K KX (code_hd _), hP⟩, fun _ h => nomatch h⟩
  have GT := ghost_top hT T
  have hnone : (ghostOf s₁.heap tabs0).get? 112 = none := hideAll_none _ (.head _)
  generalize hB : baseOf w s₁ mg mb (loose ++ (recsOf p).map (·.name) ++ (litsOf p).map (·.1) ++ (clssOf p loose).map (·.name)) = B
  have hK : B.K = KK w.params := by rw [← hB]; rfl
  have ok : B.Ok := by
    rw [← hB]
    refine ⟨ghost_K hT KX (no_tabs _), topRead_of GT, hnone, ⟨_, ghost_K hT KX (no_tabs _) _ _ (sys_in _)⟩, ⟨(ghost_code hT).1, ?_⟩, rfl, rfl, rfl⟩
    obtain ⟨bm, ob, h1, h2, h3, h4, h5, h6⟩ := GT.bmain
    refine ⟨bm, ob, h1, h2, fun q => ?_, fun q => ?_, h3, h4, h5, h6⟩
    · obtain ⟨o, es, ep, e, hd, _⟩ := GT.g
      rw [← q, h3] at e; cases e
      rw [h6] at hd; cases hd
    · rw [q] at h3
      have h3 : (ghostOf s₁.heap tabs0).get? 112 = some ob := h3
      rw [hnone] at h3; cases h3
  have st : St prog w B (fun _ => none) s₁ := by
    rw [← hB]
    exact ⟨fun b o e => of_hideAll _ e, hg, rfl, (fun _ _ e => nomatch e), .inl hP⟩
  have ho : B.h₀.IsList a xs.toArray := by rw [← hB]; exact ghost_list hT hL
  refine defc_core (Γ := G_law) (B := B) (d := 12) (own := fun _ => none) (s := s₁) (args := [.obj a]) (xs := [.ref a]) (Q := fun v _ => v = .bool true) (D_law hK) F_law rfl rfl rfl ok (bA rfl) st ⟨_, _, rfl, rfl, rfl⟩
    ((ts_law (d := 0) hK pl1 pl2 one0 ho (fun h => by rw [List.toList_toArray]; exact ints_vrs hI) hz).mono fun f l o q => by
      cases f with
      | ret v => exact q
      | _ => exact q.elim) fun v x o2 s2 FA' q r T2 _ _ _ => ?_
  subst q
  simp only [VR] at r
  subst r
  refine h s2 (fun b o e => T2.keep b o (by rw [← hB]; exact e)) (T2.os.trans (by rw [← hB]; rfl)) (T2.gens.trans (by rw [← hB]; rfl)) ?_
  have := T2.tab
  rw [← hB] at this
  rcases this with q | ⟨c, _, _, _, q, _⟩
  · exact ⟨_, q⟩
  · exact ⟨_, q⟩
theorem lawS_eq : lawS = Str.ofString "law" := by decide +kernel
end
end Lw.Internal
set_option maxHeartbeats 8000000 in
theorem PySem.Challenge.cw_on0373_01_holds : PySem.Challenge.rw_on0373_01.Holds := by
  w_on
  refine holds_law ?ok fun said => ?_
  case ok =>
    delta OpenLaw.wellSaid OpenRow.wellSaid OpenRow.partSaid looksOpen
    repeat' with_reducible refine look_both ?_ ?_
    all_goals decide +kernel
  refine holds_open (q := Lw.Internal.QV) (loose := Lw.Internal.loose0 PySem.Challenge.pw_on0373_01) (Xt := fun s => xlAt Lw.Internal.QV [] s && recOk [] s) (XP := XL Lw.Internal.QV []) (Yf := Lw.Internal.hk.obs) (Ya := Lw.Internal.hk.val) (YP := Lw.Internal.hk.says) (N := 3000) Lw.Internal.left0 (Hook.of Lw.Internal.hk) (Hook.keeps Lw.Internal.hk) (fun s e => xl_of s (Bool.and_eq_true_iff.mp e).1) XL.keeps (by rfl) (by rfl) (by rfl) (fun s e => recFacts_of (Bool.and_eq_true_iff.mp e).2) (by first | rfl | fail "open_line: no head takes a call that writes beside a table") (by first | assumption | decide +kernel) (by decide +kernel) ⟨rfl, rfl, rfl, rfl, rfl, by decide +kernel⟩ ?hw ?hc
  · w_witness2
  · intro w s₀ s₁ mg mb G Y fa o pm cd doc dV kV ho hd hcd hD hmg hg args vals as hpre hlay hrd hwl hlo
    have KX := km_in_of Y
    have hT8 := km_tabs_of Y 112 (.head _)
    refine Ground.open G ?_
    intro T Bt D TE TW
    have efa : fa = 385 := by
      have e := mg_of KX T.g (Lw.Internal.isRefTo_iff (Lw.Internal.law_at w.params))
      rw [Lw.Internal.lawS_eq] at e
      have e2 := e.symm.trans hmg
      exact (Value.ref.inj (Option.some.inj e2)).symm
    subst efa
    clear hd hcd hD ho hmg Bt D TE TW
    wrow_args hpre hlay hrd hwl hlo
    rename_i hc _
    refine enter_call ?_
    refine kn_post (tabs := Lw.Internal.tabs0) (List.forall_mem_cons.mpr ⟨⟨codeHd_of_K KX (Lw.Internal.code_hd _), hT8⟩, fun _ h => nomatch h⟩) (fun _ _ => rfl) ?_
    refine' Lw.Internal.law_end _ KX hT8 T hg ?hL ?hI ?hz (fun s2 h1 h2 h3 h4 => ?_)
    case hL => assumption
    case hI => assumption
    case hz => omega
    exact ⟨⟨.inl ⟨.bool true, .bool true, [], rfl, fun _ => rfl, .bool true, by kernel_rfl, fun _ => ⟨.nil, fun _ h => nomatch h⟩⟩, h1, h2, h3⟩, h4, trivial⟩
